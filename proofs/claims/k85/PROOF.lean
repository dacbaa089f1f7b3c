import PyProof.Rows.All
import Wide.All
import OpenK.AllK
import Wide.FinOn
import HandS.Base
import HandS.ForMost
import HandS.ForExc
import HandS.Wide
import HandS.TupAny
import HandS.Flow
import HandS.TupLen
import HandS.IsInst
import HandS.Small
import KE.GoesNew
import KE.GoesMore
import HandS.TryOnly
import HandS.Comp
import HandS.ExcOwn
import HandS.WordsExc
import HandS.ExcIs
import HandS.Style
import HandS.SetFor
import HandS.TupMul
import HandS.Text
import HandS.DictComp
import HandS.ForList
import KE.KDictSum
import HandS.SetTxt0
import PyProof.Rows.SortShellAny
import HandS.OwnEq
import PyProof.InstNe
import HandS.Conv
import HandS.BoundList
import PyProof.AutoSeq1
import PySem.Challenge.RW_flatrounds_k85_whole_clocks
set_option Elab.async false
section
/-! G.A: data, stores, outcomes, and what each construct does with them. No heap here. -/
namespace GG
open PySem

/-- a dict's key -/
inductive KK where
  | k (x : L2.Key)
  | t (xs : List L2.Key)
  deriving DecidableEq

/-- data -/
inductive D where
  | non | bl (b : Bool) | int (i : Int) | str (x : Str)
  | gl (x : Str)
  | tup (xs : List D) | lst (xs : List D)
  | ktp (xs : List D) | frl (xs : List D)
  | dic (ks : List KK) (vs : List D)
  | obj (c : Str) (fs : List Str) (vs : List D)
  | ptr (i : Nat)
  | clo (i : Nat) (env : List D)
  deriving Inhabited

/-- what may change -/
inductive MO where
  | lst (xs : List D)
  | dic (ks : List KK) (vs : List D)
  | ins (c : Str) (fs : List Str) (vs : List D)
abbrev Store := List MO

inductive Slot where
  | no
  | val (d : D)
  | own (o : MO)
  /-- the exception that a suite holds -/
  | xc
abbrev LEnv := List Slot

/-- an outcome: a value, an exception of a class with its fields, or nothing is claimed -/
inductive Out (α : Type) where
  | ok (a : α)
  | exc (c : Str) (fs : List (Str × D)) (S : Store)
  | stuck

namespace Out
def bind {α β : Type} : Out α → (α → Out β) → Out β
  | .ok a, f => f a
  | .exc c fs S, _ => .exc c fs S
  | .stuck, _ => .stuck
@[simp] theorem bind_ok {α β : Type} (a : α) (f : α → Out β) : (Out.ok a).bind f = f a := rfl
@[simp] theorem bind_exc {α β : Type} (c : Str) (fs : List (Str × D)) (S : Store) (f : α → Out β) : (Out.exc c fs S).bind f = .exc c fs S := rfl
@[simp] theorem bind_stuck {α β : Type} (f : α → Out β) : (Out.stuck).bind f = .stuck := rfl
/-- no exception is let through -/
def calm {α : Type} : Out α → Out α
  | .exc _ _ _ => .stuck
  | o => o
@[simp] theorem calm_ok {α : Type} (a : α) : (Out.ok a).calm = .ok a := rfl
@[simp] theorem calm_exc {α : Type} (c : Str) (fs : List (Str × D)) (S : Store) : (Out.exc c fs S : Out α).calm = .stuck := rfl
@[simp] theorem calm_stuck {α : Type} : (Out.stuck : Out α).calm = .stuck := rfl
def opt {α : Type} : Option α → Out α
  | some a => .ok a
  | none => .stuck
@[simp] theorem opt_some {α : Type} (a : α) : Out.opt (some a) = .ok a := rfl
@[simp] theorem opt_none {α : Type} : Out.opt (none : Option α) = .stuck := rfl
end Out

/-- a handle: data, or the list or dict that a slot owns -/
inductive HD where
  | d (x : D)
  | own (i : Nat)

abbrev EX := LEnv → Store → Out (D × Store)
abbrev AX := LEnv → Store → Out (List D × Store)
abbrev BX := LEnv → Store → Out (Bool × Store)
abbrev HX := LEnv → Store → Out (HD × Store)
abbrev Den := List D → Store → Out (D × Store)

def MO.now : MO → D
  | .lst xs => .lst xs
  | .dic ks vs => .dic ks vs
  | .ins c fs vs => .obj c fs vs

/-- the content that a handle shows now -/
def deref (ρ : LEnv) (S : Store) : HD → Option D
  | .d (.ptr n) => (S[n]?).map MO.now
  | .d x => some x
  | .own i => match ρ[i]? with
    | some (.own o) => some o.now
    | _ => none

/-! ### expressions -/
def eC (d : D) : EX := fun _ S => .ok (d, S)
def eV (i : Nat) : EX := fun ρ S => match ρ[i]? with
  | some (.val d) => .ok (d, S)
  | _ => .stuck
def eNo : EX := fun _ _ => .stuck
def hE (e : EX) : HX := fun ρ S => (e ρ S).bind fun p => .ok (.d p.1, p.2)
def hV (i : Nat) : HX := fun ρ S => match ρ[i]? with
  | some (.val d) => .ok (.d d, S)
  | some (.own _) => .ok (.own i, S)
  | _ => .stuck
/-- a use of a content -/
def eH (h : HX) (f : D → Option D) : EX := fun ρ S => (h ρ S).bind fun p => (Out.opt ((deref ρ p.2 p.1).bind f)).bind fun d => .ok (d, p.2)
/-- .. with a second value, evaluated behind the handle -/
def eHB (h : HX) (b : EX) (f : D → D → Option D) : EX := fun ρ S => (h ρ S).bind fun p => (b ρ p.2).bind fun q =>
  (Out.opt ((deref ρ q.2 p.1).bind fun d => f d q.1)).bind fun d => .ok (d, q.2)
def eBin (f : D → D → Option D) (a b : EX) : EX := fun ρ S => (a ρ S).bind fun p => (b ρ p.2).bind fun q => (Out.opt (f p.1 q.1)).bind fun d => .ok (d, q.2)
def eUn (f : D → Option D) (a : EX) : EX := fun ρ S => (a ρ S).bind fun p => (Out.opt (f p.1)).bind fun d => .ok (d, p.2)
def bD : D → Option Bool
  | .bl b => some b
  | _ => none
def eAnd (a b : EX) : EX := fun ρ S => (a ρ S).bind fun p => (Out.opt (bD p.1)).bind fun c => if c then b ρ p.2 else .ok (.bl false, p.2)
def eOr (a b : EX) : EX := fun ρ S => (a ρ S).bind fun p => (Out.opt (bD p.1)).bind fun c => if c then .ok (.bl true, p.2) else b ρ p.2
def eNot (a : EX) : EX := fun ρ S => (a ρ S).bind fun p => (Out.opt (bD p.1)).bind fun c => .ok (.bl (!c), p.2)
def eIf (t : BX) (a b : EX) : EX := fun ρ S => (t ρ S).bind fun p => if p.1 then a ρ p.2 else b ρ p.2
def eCmp (f : D → D → Option Bool) (a b : EX) : EX := fun ρ S => (a ρ S).bind fun p => (b ρ p.2).bind fun q => (Out.opt (f p.1 q.1)).bind fun d => .ok (.bl d, q.2)
def eChain (f g : D → D → Option Bool) (a b c : EX) : EX := fun ρ S => (a ρ S).bind fun p => (b ρ p.2).bind fun q => (Out.opt (f p.1 q.1)).bind fun k =>
  if k then (c ρ q.2).bind fun r => (Out.opt (g q.1 r.1)).bind fun d => .ok (.bl d, r.2) else .ok (.bl false, q.2)
def aN : AX := fun _ S => .ok ([], S)
def aC (e : EX) (r : AX) : AX := fun ρ S => (e ρ S).bind fun p => (r ρ p.2).bind fun q => .ok (p.1 :: q.1, q.2)
def szOk (n : Nat) : Bool := decide (n ≤ sizeLine)
def eTup (a : AX) : EX := fun ρ S => (a ρ S).bind fun p => if szOk p.1.length then .ok (.tup p.1, p.2) else .stuck
def eLst (a : AX) : EX := fun ρ S => (a ρ S).bind fun p => if szOk p.1.length then .ok (.lst p.1, p.2) else .stuck
/-- a def of the module -/
def eCall (f : Den) (a : AX) : EX := fun ρ S => (a ρ S).bind fun p => f p.1 p.2
/-- a built-in function of values -/
def eB (f : List D → Option D) (a : AX) : EX := fun ρ S => (a ρ S).bind fun p => (Out.opt (f p.1)).bind fun d => .ok (d, p.2)

/-! ### tests -/
def bV (e : EX) : BX := fun ρ S => (e ρ S).bind fun p => (Out.opt (bD p.1)).bind fun c => .ok (c, p.2)
def bAnd (a b : BX) : BX := fun ρ S => (a ρ S).bind fun p => if p.1 then b ρ p.2 else .ok (false, p.2)
def bOr (a b : BX) : BX := fun ρ S => (a ρ S).bind fun p => if p.1 then .ok (true, p.2) else b ρ p.2
def bNot (a : BX) : BX := fun ρ S => (a ρ S).bind fun p => .ok (!p.1, p.2)
end GG
end

section
/-! G.B: how data stand in the abstract heap; readings by outcomes. -/
set_option linter.all false
set_option maxRecDepth 100000
namespace GG
open PySem L2

/-- what a law's closures and classes are -/
structure Wp where
  cl : Nat → List V → Heap → Prop
  kc : Str → Prop
  /-- the exception that a suite holds -/
  xa : Option Addr
structure Wd where
  K : PySem.W.Frag
  mg : Str → Option Value
  cl : Nat → List V → Heap → Prop
  kc : Str → Prop
  xa : Option Addr

/-- F: what never changes any more; m: where the store's objects stand -/
structure Gh where
  F : Hp
  m : Nat → Option Addr

def lockable : HO → Prop
  | .dK _ => True
  | _ => False
def Sub (F H : Hp) : Prop := ∀ a u, F a = some u → H a = some u ∨ (lockable u ∧ ∃ o, H a = some (.frz o u))
/-- a dict's keys and values, as an object tells them -/
def DicO (ks : List KK) (vs : List V) (u : HO) : Prop :=
  ks.length = vs.length ∧ ((∃ l : List Key, ks = l.map KK.k ∧ u = .dK (l.zip vs)) ∨ (∃ l : List (List Key), l ≠ [] ∧ ks = l.map KK.t ∧ u = .dT (l.zip vs)))
/-- .. of a dict that stays: one of ints and texts is held fast -/
def DicF (ks : List KK) (vs : List V) (u : HO) : Prop :=
  ks.length = vs.length ∧ ((∃ l : List Key, ks = l.map KK.k ∧ ∃ o, u = .frz o (.dK (l.zip vs))) ∨ (∃ l : List (List Key), l ≠ [] ∧ ks = l.map KK.t ∧ u = .dT (l.zip vs)))

mutual
def Rep (w : Wd) (g : Gh) : D → V → Prop
  | .non, v => v = .non
  | .bl b, v => v = .bl b
  | .int i, v => v = .int i
  | .str x, v => v = .str x
  | .gl x, v => ∃ a, w.mg x = some (.ref a) ∧ v = .ref a
  | .tup ds, v => ∃ a vs, v = .ref a ∧ g.F a = some (.tup vs) ∧ RepL w g ds vs
  | .lst ds, v => ∃ a vs, v = .ref a ∧ g.F a = some (.lst vs) ∧ RepL w g ds vs
  | .ktp ds, v => ∃ a vs, v = .ref a ∧ SqT w.K g.F a vs ∧ RepL w g ds vs
  | .frl ds, v => ∃ a vs, v = .ref a ∧ SqL w.K g.F a vs ∧ RepL w g ds vs
  | .dic ks ds, v => ∃ a vs u, v = .ref a ∧ g.F a = some u ∧ DicF ks vs u ∧ RepL w g ds vs
  | .obj c fs ds, v => w.kc c ∧ ∃ a C dx vs, v = .ref a ∧ w.mg c = some (.ref C) ∧ g.F a = some (.ins C dx (fs.zip vs)) ∧ fs.length = vs.length ∧ RepL w g ds vs
  | .ptr i, v => ∃ a, g.m i = some a ∧ v = .ref a
  | .clo i env, v => ∃ a vs, v = .ref a ∧ g.F a = some (.ext (w.cl i vs)) ∧ RepL w g env vs
def RepL (w : Wd) (g : Gh) : List D → List V → Prop
  | [], vs => vs = []
  | d :: ds, vs => ∃ v r, vs = v :: r ∧ Rep w g d v ∧ RepL w g ds r
end

structure Le (g g' : Gh) : Prop where
  F : ∀ a u, g.F a = some u → g'.F a = some u
  m : ∀ i a, g.m i = some a → g'.m i = some a
theorem Le.refl {g : Gh} : Le g g := ⟨fun _ _ h => h, fun _ _ h => h⟩
theorem Le.trans {g g1 g2 : Gh} (a : Le g g1) (b : Le g1 g2) : Le g g2 := ⟨fun x u h => b.F x u (a.F x u h), fun i x h => b.m i x (a.m i x h)⟩

theorem rd_mono {F F' : Hp} {a : Addr} {u : HO} (h : ∀ a u, F a = some u → F' a = some u) (r : Rd F a u) : Rd F' a u := by
  rcases r with r | ⟨o, r⟩
  · exact .inl (h _ _ r)
  · exact .inr ⟨o, h _ _ r⟩
theorem sqL_mono {K : PySem.W.Frag} {F F' : Hp} {a : Addr} {xs : List V} (h : ∀ a u, F a = some u → F' a = some u) (r : SqL K F a xs) : SqL K F' a xs := by
  rcases r with r | r
  · exact .inl (rd_mono h r)
  · exact .inr r
theorem sqT_mono {K : PySem.W.Frag} {F F' : Hp} {a : Addr} {xs : List V} (h : ∀ a u, F a = some u → F' a = some u) (r : SqT K F a xs) : SqT K F' a xs := by
  rcases r with r | r
  · exact .inl (rd_mono h r)
  · exact .inr r
theorem sub_lst {F H : Hp} (s : Sub F H) {a : Addr} {u : HO} (nl : ¬ lockable u) (h : F a = some u) : H a = some u := by
  rcases s a u h with h | ⟨h, _⟩
  · exact h
  · exact absurd h nl
theorem sqL_sub {K : PySem.W.Frag} {F H : Hp} {a : Addr} {xs : List V} (s : Sub F H) (r : SqL K F a xs) : SqL K H a xs := by
  rcases r with (r | ⟨o, r⟩) | r
  · exact .inl (.inl (sub_lst s (fun z => z) r))
  · exact .inl (.inr ⟨o, sub_lst s (fun z => z) r⟩)
  · exact .inr r
theorem sqT_sub {K : PySem.W.Frag} {F H : Hp} {a : Addr} {xs : List V} (s : Sub F H) (r : SqT K F a xs) : SqT K H a xs := by
  rcases r with (r | ⟨o, r⟩) | r
  · exact .inl (.inl (sub_lst s (fun z => z) r))
  · exact .inl (.inr ⟨o, sub_lst s (fun z => z) r⟩)
  · exact .inr r

mutual
theorem Rep.mono {w : Wd} {g g' : Gh} (h : Le g g') : ∀ {d : D} {v : V}, Rep w g d v → Rep w g' d v
  | .non, _, r => r
  | .bl _, _, r => r
  | .int _, _, r => r
  | .str _, _, r => r
  | .gl _, _, r => r
  | .tup ds, _, r => by
    simp only [Rep] at r ⊢
    obtain ⟨a, vs, e, q, t⟩ := r
    exact ⟨a, vs, e, h.F _ _ q, RepL.mono h t⟩
  | .lst ds, _, r => by
    simp only [Rep] at r ⊢
    obtain ⟨a, vs, e, q, t⟩ := r
    exact ⟨a, vs, e, h.F _ _ q, RepL.mono h t⟩
  | .ktp ds, _, r => by
    simp only [Rep] at r ⊢
    obtain ⟨a, vs, e, q, t⟩ := r
    exact ⟨a, vs, e, sqT_mono h.F q, RepL.mono h t⟩
  | .frl ds, _, r => by
    simp only [Rep] at r ⊢
    obtain ⟨a, vs, e, q, t⟩ := r
    exact ⟨a, vs, e, sqL_mono h.F q, RepL.mono h t⟩
  | .dic ks ds, _, r => by
    simp only [Rep] at r ⊢
    obtain ⟨a, vs, u, e, q, d, t⟩ := r
    exact ⟨a, vs, u, e, h.F _ _ q, d, RepL.mono h t⟩
  | .obj c fs ds, _, r => by
    simp only [Rep] at r ⊢
    obtain ⟨kc, a, C, dx, vs, e, q, d, l, t⟩ := r
    exact ⟨kc, a, C, dx, vs, e, q, h.F _ _ d, l, RepL.mono h t⟩
  | .ptr i, _, r => by
    simp only [Rep] at r ⊢
    obtain ⟨a, q, e⟩ := r
    exact ⟨a, h.m _ _ q, e⟩
  | .clo i env, _, r => by
    simp only [Rep] at r ⊢
    obtain ⟨a, vs, e, q, t⟩ := r
    exact ⟨a, vs, e, h.F _ _ q, RepL.mono h t⟩
theorem RepL.mono {w : Wd} {g g' : Gh} (h : Le g g') : ∀ {ds : List D} {vs : List V}, RepL w g ds vs → RepL w g' ds vs
  | [], _, r => r
  | d :: ds, _, r => by
    simp only [RepL] at r ⊢
    obtain ⟨v, l, e, q, t⟩ := r
    exact ⟨v, l, e, Rep.mono h q, RepL.mono h t⟩
end

section
variable {w : Wd} {g : Gh}
theorem RepL.nil : RepL w g [] [] := by simp only [RepL]
theorem RepL.cons {d : D} {ds : List D} {v : V} {vs : List V} (a : Rep w g d v) (b : RepL w g ds vs) : RepL w g (d :: ds) (v :: vs) := by
  simp only [RepL]; exact ⟨v, vs, rfl, a, b⟩
theorem RepL.cases {d : D} {ds : List D} {vs : List V} (h : RepL w g (d :: ds) vs) : ∃ v r, vs = v :: r ∧ Rep w g d v ∧ RepL w g ds r := by
  simpa only [RepL] using h
theorem RepL.cases0 {vs : List V} (h : RepL w g [] vs) : vs = [] := by simpa only [RepL] using h
theorem RepL.length : ∀ {ds : List D} {vs : List V}, RepL w g ds vs → ds.length = vs.length
  | [], _, h => by rw [h.cases0]; rfl
  | d :: ds, _, h => by
    obtain ⟨v, r, rfl, _, t⟩ := h.cases
    simp [t.length]
theorem RepL.get : ∀ {ds : List D} {vs : List V} {i : Nat} {d : D}, RepL w g ds vs → ds[i]? = some d → ∃ v, vs[i]? = some v ∧ Rep w g d v
  | [], _, _, _, _, e => by simp at e
  | d :: ds, _, 0, x, h, e => by
    obtain ⟨v, r, rfl, q, t⟩ := h.cases
    simp at e; subst e
    exact ⟨v, rfl, q⟩
  | d :: ds, _, i + 1, x, h, e => by
    obtain ⟨v, r, rfl, q, t⟩ := h.cases
    obtain ⟨u, a, b⟩ := RepL.get (i := i) t (by simpa using e)
    exact ⟨u, by simpa using a, b⟩
theorem RepL.append : ∀ {ds es : List D} {vs us : List V}, RepL w g ds vs → RepL w g es us → RepL w g (ds ++ es) (vs ++ us)
  | [], _, _, _, h, k => by rw [h.cases0]; exact k
  | d :: ds, _, _, _, h, k => by
    obtain ⟨v, r, rfl, q, t⟩ := h.cases
    exact .cons q (RepL.append t k)
theorem RepL.set : ∀ {ds : List D} {vs : List V} (i : Nat) {d : D} {v : V}, RepL w g ds vs → Rep w g d v → RepL w g (ds.set i d) (vs.set i v)
  | [], _, _, _, _, h, _ => by rw [h.cases0]; exact .nil
  | x :: ds, _, 0, _, _, h, k => by
    obtain ⟨v, r, rfl, q, t⟩ := h.cases
    exact .cons k t
  | x :: ds, _, i + 1, _, _, h, k => by
    obtain ⟨v, r, rfl, q, t⟩ := h.cases
    exact .cons q (RepL.set i t k)
theorem RepL.take : ∀ {ds : List D} {vs : List V} (n : Nat), RepL w g ds vs → RepL w g (ds.take n) (vs.take n)
  | _, _, 0, _ => by simpa using RepL.nil
  | [], _, n + 1, h => by rw [h.cases0]; exact .nil
  | x :: ds, _, n + 1, h => by
    obtain ⟨v, r, rfl, q, t⟩ := h.cases
    exact .cons q (RepL.take n t)
theorem RepL.drop : ∀ {ds : List D} {vs : List V} (n : Nat), RepL w g ds vs → RepL w g (ds.drop n) (vs.drop n)
  | _, _, 0, h => h
  | [], _, n + 1, h => by rw [h.cases0]; exact .nil
  | x :: ds, _, n + 1, h => by
    obtain ⟨v, r, rfl, q, t⟩ := h.cases
    exact RepL.drop n t
theorem RepL.reverse : ∀ {ds : List D} {vs : List V}, RepL w g ds vs → RepL w g ds.reverse vs.reverse
  | [], _, h => by rw [h.cases0]; exact .nil
  | x :: ds, _, h => by
    obtain ⟨v, r, rfl, q, t⟩ := h.cases
    rw [List.reverse_cons, List.reverse_cons]
    exact t.reverse.append (.cons q .nil)
end

/-- what a changing object's place tells -/
def MOk (w : Wd) (g : Gh) (H : Hp) (a : Addr) : MO → Prop
  | .lst ds => ∃ vs, H a = some (.lst vs) ∧ RepL w g ds vs
  | .dic ks ds => ∃ vs u, H a = some u ∧ DicO ks vs u ∧ RepL w g ds vs
  | .ins c fs ds => w.kc c ∧ ∃ C dx vs, w.mg c = some (.ref C) ∧ H a = some (.ins C dx (fs.zip vs)) ∧ fs.length = vs.length ∧ RepL w g ds vs
theorem MOk.there {w : Wd} {g : Gh} {H : Hp} {a : Addr} : ∀ {o : MO}, MOk w g H a o → ∃ u, H a = some u
  | .lst _, ⟨_, h, _⟩ => ⟨_, h⟩
  | .dic _ _, ⟨_, _, h, _⟩ => ⟨_, h⟩
  | .ins _ _ _, ⟨_, _, _, _, _, h, _⟩ => ⟨_, h⟩
theorem MOk.mono {w : Wd} {g g' : Gh} {H H' : Hp} {a : Addr} (l : Le g g') (e : ∀ u, H a = some u → H' a = some u) : ∀ {o : MO}, MOk w g H a o → MOk w g' H' a o
  | .lst _, ⟨vs, h, r⟩ => ⟨vs, e _ h, r.mono l⟩
  | .dic _ _, ⟨vs, u, h, d, r⟩ => ⟨vs, u, e _ h, d, r.mono l⟩
  | .ins _ _ _, ⟨kc, C, dx, vs, k, h, z, r⟩ => ⟨kc, C, dx, vs, k, e _ h, z, r.mono l⟩

structure SimS (w : Wd) (g : Gh) (H : Hp) (S : Store) : Prop where
  sub : Sub g.F H
  dom : ∀ i, i < S.length ↔ ∃ a, g.m i = some a
  inj : ∀ i j a, g.m i = some a → g.m j = some a → i = j
  at_ : ∀ (i : Nat) o a, S[i]? = some o → g.m i = some a → g.F a = none ∧ MOk w g H a o

structure Sim (w : Wd) (g : Gh) (H : Hp) (ρ : LEnv) (σ : St) (S : Store) : Prop where
  st : SimS w g H S
  len : ρ.length = σ.length
  val : ∀ (i : Nat) d, ρ[i]? = some (Slot.val d) → ∃ v, σ[i]? = some (some v) ∧ Rep w g d v
  own : ∀ (i : Nat) o, ρ[i]? = some (Slot.own o) → ∃ a, σ[i]? = some (some (V.ref a)) ∧ g.F a = none ∧ (∀ j, g.m j ≠ some a) ∧ MOk w g H a o
  apart : ∀ (i j : Nat) o u a, ρ[i]? = some (Slot.own o) → ρ[j]? = some (Slot.own u) → σ[i]? = some (some (V.ref a)) → σ[j]? = some (some (V.ref a)) → i = j
  xc : ∀ (i : Nat), ρ[i]? = some Slot.xc → ∃ a, w.xa = some a ∧ σ[i]? = some (some (V.ref a))

/-- what stands outside stays, and stays outside -/
structure Fr (g : Gh) (H : Hp) (g' : Gh) (H' : Hp) : Prop where
  le : Le g g'
  out : ∀ a u, H a = some u → g.F a = none → (∀ j, g.m j ≠ some a) → H' a = some u ∧ g'.F a = none ∧ ∀ j, g'.m j ≠ some a
  th : ∀ a u, H a = some u → ∃ u', H' a = some u'
theorem Fr.refl {g : Gh} {H : Hp} : Fr g H g H := ⟨.refl, fun _ _ h f m => ⟨h, f, m⟩, fun _ _ h => ⟨_, h⟩⟩
theorem Fr.trans {g g1 g2 : Gh} {H H1 H2 : Hp} (a : Fr g H g1 H1) (b : Fr g1 H1 g2 H2) : Fr g H g2 H2 := ⟨a.le.trans b.le, fun x u h f m => by
  obtain ⟨h1, f1, m1⟩ := a.out x u h f m
  exact b.out x u h1 f1 m1, fun x u h => by
  obtain ⟨_, h⟩ := a.th x u h
  exact b.th x _ h⟩

theorem Sim.fr {w : Wd} {g g' : Gh} {H H' : Hp} {ρ : LEnv} {σ : St} {S S' : Store} (s : Sim w g H ρ σ S) (f : Fr g H g' H') (t : SimS w g' H' S') : Sim w g' H' ρ σ S' where
  st := t
  len := s.len
  val := fun i d e => by
    obtain ⟨v, h1, h2⟩ := s.val i d e
    exact ⟨v, h1, h2.mono f.le⟩
  own := fun i o e => by
    obtain ⟨a, h1, h2, h3, h4⟩ := s.own i o e
    obtain ⟨u, hu⟩ := h4.there
    obtain ⟨k1, k2, k3⟩ := f.out a u hu h2 h3
    exact ⟨a, h1, k2, k3, h4.mono f.le fun u' hu' => by rw [hu] at hu'; cases hu'; exact k1⟩
  apart := s.apart
  xc := s.xc

/-- an exception's own dict -/
def XRep (w : Wd) (g : Gh) (H : Hp) (d : Option Addr) (fs : List (Str × D)) : Prop :=
  (fs = [] ∧ d = none) ∨ fs ≠ [] ∧ ∃ dd vs, d = some dd ∧ H dd = some (.xd ((fs.map (·.1)).zip vs)) ∧ RepL w g (fs.map (·.2)) vs

/-- what is wanted of an outcome -/
def Con (w : Wd) (W : WX) (σ : St) {α β : Type} (R : Gh → Hp → α → β → Prop) (g : Gh) (H : Hp) (Q : β → Hp → Prop) : Out (α × Store) → Prop
  | .ok p => ∀ b g' H', SimS w g' H' p.2 → Fr g H g' H' → R g' H' p.1 b → Q b H'
  | .exc c fs S' => ∀ C d g' H', SimS w g' H' S' → Fr g H g' H' → w.mg c = some (.ref C) → XRep w g' H' d fs → W (.ref C) d σ H'
  | .stuck => False

section
variable {w : Wd} {W : WX} {σ : St} {α β γ δ : Type} {R : Gh → Hp → α → β → Prop} {R' : Gh → Hp → γ → δ → Prop} {g g1 : Gh} {H H1 : Hp} {Q : β → Hp → Prop} {Q' : δ → Hp → Prop}
theorem Con.fr {o : Out (α × Store)} (c : Con w W σ R g H Q o) (f : Fr g H g1 H1) : Con w W σ R g1 H1 Q o := by
  cases o with
  | ok p => exact fun b g' H' s f' r => c b g' H' s (f.trans f') r
  | exc x fs S' => exact fun C d g' H' s f' e r => c C d g' H' s (f.trans f') e r
  | stuck => exact c
theorem Con.mono {o : Out (α × Store)} {Q2 : β → Hp → Prop} (c : Con w W σ R g H Q o) (h : ∀ b H, Q b H → Q2 b H) : Con w W σ R g H Q2 o := by
  cases o with
  | ok p => exact fun b g' H' s f' r => h _ _ (c b g' H' s f' r)
  | exc x fs S' => exact c
  | stuck => exact c
/-- what stands behind the first part -/
def Rest (w : Wd) (W : WX) (σ : St) {α β γ δ : Type} (R : Gh → Hp → α → β → Prop) (R' : Gh → Hp → γ → δ → Prop) (g : Gh) (H : Hp) (Q' : δ → Hp → Prop) (o : Out (α × Store)) (k : α × Store → Out (γ × Store)) : β → Hp → Prop := fun b H1 =>
  ∃ a S1 g1, o = .ok (a, S1) ∧ SimS w g1 H1 S1 ∧ Fr g H g1 H1 ∧ R g1 H1 a b ∧ Con w W σ R' g1 H1 Q' (k (a, S1))
theorem Con.bind {o : Out (α × Store)} {k : α × Store → Out (γ × Store)} (c : Con w W σ R' g H Q' (o.bind k)) : Con w W σ R g H (Rest w W σ R R' g H Q' o k) o := by
  cases o with
  | ok p => exact fun b g' H' s f r => ⟨p.1, p.2, g', rfl, s, f, r, Con.fr c f⟩
  | exc x fs S' => exact c
  | stuck => exact c
theorem Con.ret {a : α} {S : Store} {b : β} (c : Con w W σ R g H Q (.ok (a, S))) (s : SimS w g1 H1 S) (f : Fr g H g1 H1) (r : R g1 H1 a b) : Q b H1 := c b g1 H1 s f r
end

/-- an expression's relation -/
def RE (w : Wd) : Gh → Hp → D → V → Prop := fun g _ d v => Rep w g d v
def RA (w : Wd) : Gh → Hp → List D → List V → Prop := fun g _ d v => RepL w g d v
def RB : Gh → Hp → Bool → Bool → Prop := fun _ _ d v => d = v

/-- the readings -/
def tX (w : Wd) (W : WX) {α β : Type} (R : Gh → Hp → α → β → Prop) (den : LEnv → Store → Out (α × Store)) : St → Hp → (β → Hp → Prop) → Prop := fun σ H Q =>
  ∃ ρ S g, Sim w g H ρ σ S ∧ Con w W σ R g H Q (den ρ S)

abbrev wd (X : Cx) (cl : Wp) : Wd := ⟨X.K, X.mg, cl.cl, cl.kc, cl.xa⟩
variable (cl : Wp)
def GE (X : Cx) (e : Expr) (den : EX) : Prop := ∀ W, Takes X W → PE X e (tX (wd X cl) W (RE (wd X cl)) den)
def GT (X : Cx) (e : Expr) (den : BX) : Prop := ∀ W, Takes X W → PT X e (tX (wd X cl) W RB den)
def GW (X : Cx) (e : Expr) (den : BX) : Prop := ∀ W, Takes X W → PW X e (tX (wd X cl) W RB den)
def GA (X : Cx) (es : List Expr) (den : AX) : Prop := ∀ W, Takes X W → PA X es (tX (wd X cl) W (RA (wd X cl)) den)

theorem PE.weak {X : Cx} {e : Expr} {t t' : TE} (h : PE X e t) (k : ∀ σ H Q, t' σ H Q → t σ H Q) : PE X e t' := ⟨fun pins s σ H Q I q => h.run pins s σ H Q I (k _ _ _ q)⟩
theorem PT.weak {X : Cx} {e : Expr} {t t' : TT} (h : PT X e t) (k : ∀ σ H Q, t' σ H Q → t σ H Q) : PT X e t' := ⟨fun pins s σ H Q I q => h.run pins s σ H Q I (k _ _ _ q)⟩
theorem PW.weak {X : Cx} {e : Expr} {t t' : TT} (h : PW X e t) (k : ∀ σ H Q, t' σ H Q → t σ H Q) : PW X e t' := ⟨fun wh pins s σ H Q I q => h.run wh pins s σ H Q I (k _ _ _ q)⟩
theorem PA.weak {X : Cx} {e : List Expr} {t t' : TA} (h : PA X e t) (k : ∀ σ H Q, t' σ H Q → t σ H Q) : PA X e t' := ⟨fun pos pins s σ H Q I q => h.run pos pins s σ H Q I (k _ _ _ q)⟩
theorem takes_none {X : Cx} : Takes X (fun _ _ _ _ => False) := fun _ _ ⟨_, _, _, _, _, _, _, _, _, _, _, _, _, _, _, _, h⟩ => h.elim
end GG
end

section
/-! G.C: operators and comparisons on data. -/
set_option linter.all false
set_option maxRecDepth 100000
namespace GG
open PySem L2

/-! ### what operators give -/
def mulOk (i j : Int) : Bool := decide (i.natAbs.log2 + j.natAbs.log2 < 1000000)
def divOk (j : Int) : Bool := decide (0 < j) && decide (j.natAbs.log2 < 9000)
def addD : D → D → Option D
  | .int i, .int j => some (.int (i + j))
  | .str x, .str y => if x.length + y.length ≤ sizeLine then some (.str (x ++ y)) else none
  | .tup xs, .tup ys => if xs.length + ys.length ≤ sizeLine then some (.tup (xs ++ ys)) else none
  | .lst xs, .lst ys => if xs.length + ys.length ≤ sizeLine then some (.lst (xs ++ ys)) else none
  | _, _ => none
def subD : D → D → Option D
  | .int i, .int j => some (.int (i - j))
  | _, _ => none
def mulD : D → D → Option D
  | .int i, .int j => if mulOk i j then some (.int (i * j)) else none
  | _, _ => none
def fdivD : D → D → Option D
  | .int i, .int j => if divOk j then some (.int (i / j)) else none
  | _, _ => none
def modD : D → D → Option D
  | .int i, .int j => if 0 < j then some (.int (i % j)) else none
  | _, _ => none
def powD : D → D → Option D
  | .int i, .int j => if 0 ≤ j ∧ j ≤ 1000000 ∧ i.natAbs < 2 ^ 64 then some (.int (i ^ j.toNat)) else none
  | _, _ => none
def negD : D → Option D
  | .int i => some (.int (-i))
  | _ => none
def ltD : D → D → Option Bool
  | .int i, .int j => some (decide (i < j))
  | _, _ => none
def leD : D → D → Option Bool
  | .int i, .int j => some (decide (i ≤ j))
  | .str x, .str y => some (!decide (y.cps.toList < x.cps.toList))
  | _, _ => none
def gtD : D → D → Option Bool
  | .int i, .int j => some (decide (j < i))
  | _, _ => none
def geD : D → D → Option Bool
  | .int i, .int j => some (decide (j ≤ i))
  | _, _ => none
mutual
def toPy : D → Option PyData
  | .non => some .none
  | .bl b => some (.bool b)
  | .int i => some (.int i)
  | .str x => some (.str x)
  | .tup ds => (toPyL ds).map .tuple
  | .lst ds => (toPyL ds).map .list
  | _ => none
def toPyL : List D → Option (List PyData)
  | [] => some []
  | d :: ds => (toPy d).bind fun p => (toPyL ds).map fun q => p :: q
end
def eqD (a b : D) : Option Bool := (toPy a).bind fun p => (toPy b).bind fun q => if SeqAt.shaped p && SeqAt.shaped q then some (PyData.eqv p q) else none
def neD (a b : D) : Option Bool := (eqD a b).map not
def isNon : D → Bool
  | .non => true
  | _ => false
def isD : D → D → Option Bool
  | a, .non => some (isNon a)
  | _, _ => none
def notD : D → D → Option Bool
  | a, .non => some (!isNon a)
  | _, _ => none

/-! ### a new object -/
def Gh.put (g : Gh) (p : Addr) (u : HO) : Gh := ⟨upd g.F p u, g.m⟩
section
variable {w : Wd} {g : Gh} {H : Hp} {S : Store} {p : Addr} {u : HO}
theorem SimS.none (s : SimS w g H S) (hp : H p = none) : g.F p = none ∧ ∀ j, g.m j ≠ some p := by
  refine ⟨?_, fun j e => ?_⟩
  · cases e : g.F p with
    | none => rfl
    | some o =>
      rcases s.sub p o e with q | ⟨_, o', q⟩ <;> (rw [hp] at q; cases q)
  · obtain ⟨_, h2⟩ : j < S.length ∧ True := ⟨(s.dom j).mpr ⟨p, e⟩, trivial⟩
    have hj : j < S.length := (s.dom j).mpr ⟨p, e⟩
    obtain ⟨_, mo⟩ := s.at_ j S[j] p (by simp [hj]) e
    obtain ⟨o, ho⟩ := mo.there
    rw [hp] at ho; cases ho
theorem le_put (s : SimS w g H S) (hp : H p = Option.none) : Le g (g.put p u) := ⟨fun a o e => by
  have : a ≠ p := fun z => by
    have := (s.none hp).1
    rw [← z, e] at this; cases this
  show upd g.F p u a = some o
  rw [upd_ne this]; exact e, fun _ _ e => e⟩
theorem SimS.put (s : SimS w g H S) (hp : H p = Option.none) : SimS w (g.put p u) (upd H p u) S ∧ Fr g H (g.put p u) (upd H p u) := by
  have nn := s.none hp
  have l := le_put (u := u) s hp
  have he : ∀ {a o}, H a = some o → upd H p u a = some o := fun {a o} e => by
    rw [upd_ne (ne_of_none e hp)]; exact e
  refine ⟨⟨fun a o e => ?_, s.dom, s.inj, fun i o a e1 e2 => ?_⟩, l, fun a o e f m => ⟨he e, ?_, m⟩, fun a o e => ⟨o, he e⟩⟩
  · have e : upd g.F p u a = some o := e
    by_cases z : a = p
    · subst z
      rw [upd_same] at e; cases e
      exact .inl upd_same
    · rw [upd_ne z] at e
      rw [upd_ne z]
      exact s.sub a o e
  · obtain ⟨k1, k2⟩ := s.at_ i o a e1 e2
    obtain ⟨q, hq⟩ := k2.there
    refine ⟨?_, k2.mono l fun q hq => he hq⟩
    show upd g.F p u a = Option.none
    rw [upd_ne (ne_of_none hq hp)]; exact k1
  · show upd g.F p u a = Option.none
    rw [upd_ne (ne_of_none e hp)]; exact f
theorem put_at : (g.put p u).F p = some u := upd_same
theorem rep_tup {ds : List D} {vs : List V} (l : Le g (g.put p (.tup vs))) (r : RepL w g ds vs) : Rep w (g.put p (.tup vs)) (.tup ds) (.ref p) := by
  simp only [Rep]; exact ⟨p, vs, rfl, put_at, r.mono l⟩
theorem rep_lst {ds : List D} {vs : List V} (l : Le g (g.put p (.lst vs))) (r : RepL w g ds vs) : Rep w (g.put p (.lst vs)) (.lst ds) (.ref p) := by
  simp only [Rep]; exact ⟨p, vs, rfl, put_at, r.mono l⟩
end

/-! ### operators -/
/-- a two-place operation on data -/
def rD (w : Wd) (f : D → D → Option D) : R2 := fun x y H Q => ∃ d1 d2 d g S, SimS w g H S ∧ Rep w g d1 x ∧ Rep w g d2 y ∧ f d1 d2 = some d ∧
  ∀ v g' H', SimS w g' H' S → Fr g H g' H' → Rep w g' d v → Q v H'
def rC (w : Wd) (f : D → D → Option Bool) : R2 := fun x y H Q => ∃ d1 d2 b g S, SimS w g H S ∧ Rep w g d1 x ∧ Rep w g d2 y ∧ f d1 d2 = some b ∧ Q (.bl b) H
section
variable {cl : Wp} {X : Cx}
theorem rep_int {w : Wd} {g : Gh} {i : Int} {v : V} : Rep w g (.int i) v ↔ v = .int i := by simp only [Rep]
theorem rep_bl {w : Wd} {g : Gh} {i : Bool} {v : V} : Rep w g (.bl i) v ↔ v = .bl i := by simp only [Rep]
theorem rep_str {w : Wd} {g : Gh} {i : Str} {v : V} : Rep w g (.str i) v ↔ v = .str i := by simp only [Rep]
theorem rep_non {w : Wd} {g : Gh} {v : V} : Rep w g .non v ↔ v = .non := by simp only [Rep]
theorem rep_ptr {w : Wd} {g : Gh} {i : Nat} {v : V} : Rep w g (.ptr i) v ↔ ∃ a, g.m i = some a ∧ v = .ref a := by simp only [Rep]
theorem rep_gl {w : Wd} {g : Gh} {x : Str} {v : V} : Rep w g (.gl x) v ↔ ∃ a, w.mg x = some (.ref a) ∧ v = .ref a := by simp only [Rep]
theorem rep_tup' {w : Wd} {g : Gh} {ds : List D} {v : V} : Rep w g (.tup ds) v ↔ ∃ a vs, v = .ref a ∧ g.F a = some (.tup vs) ∧ RepL w g ds vs := by simp only [Rep]
theorem rep_lst' {w : Wd} {g : Gh} {ds : List D} {v : V} : Rep w g (.lst ds) v ↔ ∃ a vs, v = .ref a ∧ g.F a = some (.lst vs) ∧ RepL w g ds vs := by simp only [Rep]
theorem rep_ktp' {w : Wd} {g : Gh} {ds : List D} {v : V} : Rep w g (.ktp ds) v ↔ ∃ a vs, v = .ref a ∧ SqT w.K g.F a vs ∧ RepL w g ds vs := by simp only [Rep]
theorem rep_frl' {w : Wd} {g : Gh} {ds : List D} {v : V} : Rep w g (.frl ds) v ↔ ∃ a vs, v = .ref a ∧ SqL w.K g.F a vs ∧ RepL w g ds vs := by simp only [Rep]
theorem rep_dic' {w : Wd} {g : Gh} {ks : List KK} {ds : List D} {v : V} : Rep w g (.dic ks ds) v ↔ ∃ a vs u, v = .ref a ∧ g.F a = some u ∧ DicF ks vs u ∧ RepL w g ds vs := by simp only [Rep]
theorem rep_obj' {w : Wd} {g : Gh} {c : Str} {fs : List Str} {ds : List D} {v : V} : Rep w g (.obj c fs ds) v ↔ w.kc c ∧ ∃ a C dx vs, v = .ref a ∧ w.mg c = some (.ref C) ∧ g.F a = some (.ins C dx (fs.zip vs)) ∧ fs.length = vs.length ∧ RepL w g ds vs := by simp only [Rep]

theorem RepL.eq_nil {w : Wd} {g : Gh} {ds : List D} {vs : List V} (r : RepL w g ds vs) : ds = [] ↔ vs = [] := by
  have := r.length
  constructor
  · rintro rfl; exact List.length_eq_zero_iff.mp (by simpa using this.symm)
  · rintro rfl; exact List.length_eq_zero_iff.mp (by simpa using this)

theorem ok_add : OpR X (binaryOp .Add) (rD (wd X cl) addD) := by
  intro pins s σ H x y v u Q I rx ry ⟨d1, d2, d, g, S, sim, r1, r2, e, q⟩
  unfold addD at e
  split at e
  · cases e
    rw [rep_int] at r1 r2
    subst r1 r2
    exact op_add pins s σ H _ _ v u Q I rx ry ⟨_, _, rfl, rfl, q _ g H sim .refl (rep_int.mpr rfl)⟩
  · split at e
    · rename_i hz
      cases e
      rw [rep_str] at r1 r2
      subst r1 r2
      exact op_add_str pins s σ H _ _ v u Q I rx ry ⟨_, _, rfl, rfl, hz, q _ g H sim .refl (rep_str.mpr rfl)⟩
    · cases e
  · rename_i xs ys
    split at e
    · rename_i hz
      cases e
      have r1' := r1
      have r2' := r2
      rw [rep_tup'] at r1 r2
      obtain ⟨a, vs, rfl, s1, l1⟩ := r1
      obtain ⟨b, us, rfl, s2, l2⟩ := r2
      refine op_catA pins s σ H _ _ v u Q I rx ry ⟨a, b, vs, us, rfl, rfl, sqT_sub sim.sub (SqT.of s1), sqT_sub sim.sub (SqT.of s2), by rw [← l1.length, ← l2.length]; exact hz, fun z => ?_, fun _ z => ?_, fun _ _ p hp => ?_⟩
      · obtain rfl := l1.eq_nil.mpr z
        exact q _ g H sim .refl r2'
      · obtain rfl := l2.eq_nil.mpr z
        rw [List.append_nil] at q
        exact q _ g H sim .refl r1'
      · obtain ⟨t, f⟩ := sim.put (u := .tup (vs ++ us)) hp
        exact q _ _ _ t f (rep_tup f.le (l1.append l2))
    · cases e
  · rename_i xs ys
    split at e
    · rename_i hz
      cases e
      rw [rep_lst'] at r1 r2
      obtain ⟨a, vs, rfl, s1, l1⟩ := r1
      obtain ⟨b, us, rfl, s2, l2⟩ := r2
      refine op_cat pins s σ H _ _ v u Q I rx ry ⟨a, b, vs, us, rfl, rfl, sub_lst sim.sub (fun z => z) s1, sub_lst sim.sub (fun z => z) s2, by rw [← l1.length, ← l2.length]; exact hz, fun p hp => ?_⟩
      obtain ⟨t, f⟩ := sim.put (u := .lst (vs ++ us)) hp
      exact q _ _ _ t f (rep_lst f.le (l1.append l2))
    · cases e
  · cases e
theorem ok_sub : OpR X (binaryOp .Sub) (rD (wd X cl) subD) := by
  intro pins s σ H x y v u Q I rx ry ⟨d1, d2, d, g, S, sim, r1, r2, e, q⟩
  unfold subD at e
  split at e
  · cases e
    rw [rep_int] at r1 r2
    subst r1 r2
    exact op_sub pins s σ H _ _ v u Q I rx ry ⟨_, _, rfl, rfl, q _ g H sim .refl (rep_int.mpr rfl)⟩
  · cases e
theorem ok_mul : OpR X (binaryOp .Mult) (rD (wd X cl) mulD) := by
  intro pins s σ H x y v u Q I rx ry ⟨d1, d2, d, g, S, sim, r1, r2, e, q⟩
  unfold mulD at e
  split at e
  · split at e
    · rename_i hz
      cases e
      rw [rep_int] at r1 r2
      subst r1 r2
      have hz' := of_decide_eq_true (show decide (_ < 1000000) = true from hz)
      exact op_mulW pins s σ H _ _ v u Q I rx ry ⟨_, _, rfl, rfl, hz', q _ g H sim .refl (rep_int.mpr rfl)⟩
    · cases e
  · cases e
theorem ok_fdiv : OpR X (binaryOp .FloorDiv) (rD (wd X cl) fdivD) := by
  intro pins s σ H x y v u Q I rx ry ⟨d1, d2, d, g, S, sim, r1, r2, e, q⟩
  unfold fdivD at e
  split at e
  · split at e
    · rename_i hz
      cases e
      rw [rep_int] at r1 r2
      subst r1 r2
      obtain ⟨h1, h2⟩ := Bool.and_eq_true_iff.mp hz
      exact op_fdivW pins s σ H _ _ v u Q I rx ry ⟨_, _, rfl, rfl, ⟨of_decide_eq_true h1, of_decide_eq_true h2⟩, q _ g H sim .refl (rep_int.mpr rfl)⟩
    · cases e
  · cases e
theorem ok_mod : OpR X (binaryOp .Mod) (rD (wd X cl) modD) := by
  intro pins s σ H x y v u Q I rx ry ⟨d1, d2, d, g, S, sim, r1, r2, e, q⟩
  unfold modD at e
  split at e
  · split at e
    · rename_i hz
      cases e
      rw [rep_int] at r1 r2
      subst r1 r2
      exact op_mod pins s σ H _ _ v u Q I rx ry ⟨_, _, rfl, rfl, hz, q _ g H sim .refl (rep_int.mpr rfl)⟩
    · cases e
  · cases e
theorem ok_pow : OpR X (binaryOp .Pow) (rD (wd X cl) powD) := by
  intro pins s σ H x y v u Q I rx ry ⟨d1, d2, d, g, S, sim, r1, r2, e, q⟩
  unfold powD at e
  split at e
  · split at e
    · rename_i hz
      cases e
      rw [rep_int] at r1 r2
      subst r1 r2
      exact op_pow pins s σ H _ _ v u Q I rx ry ⟨_, _, rfl, rfl, hz, q _ g H sim .refl (rep_int.mpr rfl)⟩
    · cases e
  · cases e
theorem ok_neg : UnR X (unaryOp .USub) (fun x H Q => ∃ d1 d g S, SimS (wd X cl) g H S ∧ Rep (wd X cl) g d1 x ∧ negD d1 = some d ∧ ∀ v g' H', SimS (wd X cl) g' H' S → Fr g H g' H' → Rep (wd X cl) g' d v → Q v H') := by
  intro pins s σ H x v Q I rx ⟨d1, d, g, S, sim, r1, e, q⟩
  unfold negD at e
  split at e
  · cases e
    rw [rep_int] at r1
    subst r1
    exact un_neg pins s σ H _ v Q I rx ⟨_, rfl, q _ g H sim .refl (rep_int.mpr rfl)⟩
  · cases e

/-! ### comparisons -/
theorem ok_lt : OpR X (compareOp .Lt) (rC (wd X cl) ltD) := by
  intro pins s σ H x y v u Q I rx ry ⟨d1, d2, d, g, S, sim, r1, r2, e, q⟩
  unfold ltD at e
  split at e
  · cases e
    rw [rep_int] at r1 r2
    subst r1 r2
    exact op_lt pins s σ H _ _ v u Q I rx ry ⟨_, _, rfl, rfl, q⟩
  · cases e
theorem ok_le : OpR X (compareOp .LtE) (rC (wd X cl) leD) := by
  intro pins s σ H x y v u Q I rx ry ⟨d1, d2, d, g, S, sim, r1, r2, e, q⟩
  unfold leD at e
  split at e
  · cases e
    rw [rep_int] at r1 r2
    subst r1 r2
    exact op_le pins s σ H _ _ v u Q I rx ry ⟨_, _, rfl, rfl, q⟩
  · cases e
    rw [rep_str] at r1 r2
    subst r1 r2
    exact op_le_str pins s σ H _ _ v u Q I rx ry ⟨_, _, rfl, rfl, q⟩
  · cases e
theorem ok_gt : OpR X (compareOp .Gt) (rC (wd X cl) gtD) := by
  intro pins s σ H x y v u Q I rx ry ⟨d1, d2, d, g, S, sim, r1, r2, e, q⟩
  unfold gtD at e
  split at e
  · cases e
    rw [rep_int] at r1 r2
    subst r1 r2
    exact op_gt pins s σ H _ _ v u Q I rx ry ⟨_, _, rfl, rfl, q⟩
  · cases e
theorem ok_ge : OpR X (compareOp .GtE) (rC (wd X cl) geD) := by
  intro pins s σ H x y v u Q I rx ry ⟨d1, d2, d, g, S, sim, r1, r2, e, q⟩
  unfold geD at e
  split at e
  · cases e
    rw [rep_int] at r1 r2
    subst r1 r2
    exact op_ge pins s σ H _ _ v u Q I rx ry ⟨_, _, rfl, rfl, q⟩
  · cases e

mutual
theorem dp_of {w : Wd} {g : Gh} {H : Hp} (sb : Sub g.F H) : ∀ {d : D} {v : V} {p : PyData}, Rep w g d v → toPy d = some p → Dp w.K H v p
  | .non, _, _, r, e => by simp only [toPy] at e; cases e; rw [rep_non] at r; subst r; exact .non
  | .bl _, _, _, r, e => by simp only [toPy] at e; cases e; rw [rep_bl] at r; subst r; exact .bl _
  | .int _, _, _, r, e => by simp only [toPy] at e; cases e; rw [rep_int] at r; subst r; exact .int _
  | .str _, _, _, r, e => by simp only [toPy] at e; cases e; rw [rep_str] at r; subst r; exact .str _
  | .tup ds, _, _, r, e => by
    simp only [toPy, Option.map_eq_some_iff] at e
    obtain ⟨ps, e, rfl⟩ := e
    rw [rep_tup'] at r
    obtain ⟨a, vs, rfl, s, l⟩ := r
    exact .tup (sqT_sub sb (SqT.of s)) (dpAll_of sb l e)
  | .lst ds, _, _, r, e => by
    simp only [toPy, Option.map_eq_some_iff] at e
    obtain ⟨ps, e, rfl⟩ := e
    rw [rep_lst'] at r
    obtain ⟨a, vs, rfl, s, l⟩ := r
    exact .lst (sqL_sub sb (SqL.of s)) (dpAll_of sb l e)
  | .gl _, _, _, _, e => by simp only [toPy] at e; cases e
  | .ktp _, _, _, _, e => by simp only [toPy] at e; cases e
  | .frl _, _, _, _, e => by simp only [toPy] at e; cases e
  | .dic _ _, _, _, _, e => by simp only [toPy] at e; cases e
  | .obj _ _ _, _, _, _, e => by simp only [toPy] at e; cases e
  | .ptr _, _, _, _, e => by simp only [toPy] at e; cases e
  | .clo _ _, _, _, _, e => by simp only [toPy] at e; cases e
theorem dpAll_of {w : Wd} {g : Gh} {H : Hp} (sb : Sub g.F H) : ∀ {ds : List D} {vs : List V} {ps : List PyData}, RepL w g ds vs → toPyL ds = some ps → DpAll w.K H vs ps
  | [], _, _, r, e => by simp only [toPyL] at e; cases e; rw [r.cases0]; exact .nil
  | d :: ds, _, _, r, e => by
    simp only [toPyL, Option.bind_eq_some_iff, Option.map_eq_some_iff] at e
    obtain ⟨p, e1, q, e2, rfl⟩ := e
    obtain ⟨v, l, rfl, q1, q2⟩ := r.cases
    exact .cons (dp_of sb q1 e1) (dpAll_of sb q2 e2)
end
theorem eqD_some {a b : D} {k : Bool} (e : eqD a b = some k) : ∃ p q, toPy a = some p ∧ toPy b = some q ∧ SeqAt.shaped p = true ∧ SeqAt.shaped q = true ∧ k = PyData.eqv p q := by
  unfold eqD at e
  simp only [Option.bind_eq_some_iff] at e
  obtain ⟨p, e1, q, e2, e⟩ := e
  split at e
  · rename_i h
    cases e
    obtain ⟨h1, h2⟩ := Bool.and_eq_true_iff.mp h
    exact ⟨p, q, e1, e2, h1, h2, rfl⟩
  · cases e
theorem ok_eq (hu : X.A.units + 64 < cLine) : OpR X (compareOp .Eq) (rC (wd X cl) eqD) := by
  intro pins s σ H x y v u Q I rx ry ⟨d1, d2, d, g, S, sim, r1, r2, e, q⟩
  obtain ⟨p, p', e1, e2, h1, h2, rfl⟩ := eqD_some e
  exact op_eqD hu pins s σ H _ _ v u Q I rx ry ⟨p, p', dp_of (w := wd X cl) sim.sub r1 e1, dp_of (w := wd X cl) sim.sub r2 e2, h1, h2, q⟩
theorem ok_ne (hu : X.A.units + 64 < cLine) : OpR X (compareOp .NotEq) (rC (wd X cl) neD) := by
  intro pins s σ H x y v u Q I rx ry ⟨d1, d2, d, g, S, sim, r1, r2, e, q⟩
  unfold neD at e
  rw [Option.map_eq_some_iff] at e
  obtain ⟨k, e, rfl⟩ := e
  obtain ⟨p, p', e1, e2, h1, h2, rfl⟩ := eqD_some e
  exact op_neD hu pins s σ H _ _ v u Q I rx ry ⟨p, p', dp_of (w := wd X cl) sim.sub r1 e1, dp_of (w := wd X cl) sim.sub r2 e2, h1, h2, q⟩
theorem isNon_iff {w : Wd} {g : Gh} {d : D} {v : V} (r : Rep w g d v) : isNon d = decide (v = .non) := by
  cases d <;> simp only [Rep] at r
  all_goals first
    | (subst r; rfl)
    | (obtain ⟨a, _, rfl⟩ := r; rfl)
    | (obtain ⟨a, vs, rfl, _⟩ := r; rfl)
    | (obtain ⟨a, vs, u, rfl, _⟩ := r; rfl)
    | (obtain ⟨_, a, vs, u, z, rfl, _⟩ := r; rfl)
theorem ok_is : OpR X (compareOp .Is) (rC (wd X cl) isD) := by
  intro pins s σ H x y v u Q I rx ry ⟨d1, d2, d, g, S, sim, r1, r2, e, q⟩
  unfold isD at e
  split at e
  · cases e
    rw [rep_non] at r2
    subst r2
    exact op_isN pins s σ H _ _ v u Q I rx ry ⟨rfl, by rw [← isNon_iff r1]; exact q⟩
  · cases e
theorem ok_isnot : OpR X (compareOp .IsNot) (rC (wd X cl) notD) := by
  intro pins s σ H x y v u Q I rx ry ⟨d1, d2, d, g, S, sim, r1, r2, e, q⟩
  unfold notD at e
  split at e
  · cases e
    rw [rep_non] at r2
    subst r2
    exact op_notN pins s σ H _ _ v u Q I rx ry ⟨rfl, by rw [← isNon_iff r1]; exact q⟩
  · cases e
end
end GG
end

section
/-! G.D: expressions: names, constants, operators, tests, argument lists, displays. -/
set_option linter.all false
set_option maxRecDepth 100000
namespace GG
open PySem L2
section
variable {cl : Wp} {X : Cx} {a b c e : Expr} {es : List Expr} {da db dc : EX} {pos : Pos}

/-- the first part of a reading -/
theorem Con.go {w : Wd} {W : WX} {σ : St} {α β γ δ : Type} {R : Gh → Hp → α → β → Prop} {R' : Gh → Hp → γ → δ → Prop} {ρ : LEnv} {S : Store} {g : Gh} {H : Hp} {Q' : δ → Hp → Prop} {T : β → Hp → Prop}
    (sim : Sim w g H ρ σ S) {den : LEnv → Store → Out (α × Store)} {k : α × Store → Out (γ × Store)} (c : Con w W σ R' g H Q' ((den ρ S).bind k))
    (h : ∀ b H1 a S1 g1, den ρ S = .ok (a, S1) → Sim w g1 H1 ρ σ S1 → Fr g H g1 H1 → R g1 H1 a b → Con w W σ R' g1 H1 Q' (k (a, S1)) → T b H1) : tX w W R den σ H T :=
  ⟨ρ, S, g, sim, (Con.bind (R := R) c).mono fun b H1 ⟨a, S1, g1, e, s, f, r, c1⟩ => h b H1 a S1 g1 e (sim.fr f s) f r c1⟩
theorem Con.opt {w : Wd} {W : WX} {σ : St} {α γ δ : Type} {R' : Gh → Hp → γ → δ → Prop} {g : Gh} {H : Hp} {Q' : δ → Hp → Prop} {o : Option α} {k : α → Out (γ × Store)} (c : Con w W σ R' g H Q' ((Out.opt o).bind k)) :
    ∃ x, o = some x ∧ Con w W σ R' g H Q' (k x) := by
  cases o with
  | none => exact c.elim
  | some x => exact ⟨x, rfl, c⟩
theorem Con.val {w : Wd} {W : WX} {σ : St} {α β : Type} {R : Gh → Hp → α → β → Prop} {g : Gh} {H : Hp} {Q : β → Hp → Prop} {a : α} {S : Store} {b : β} (c : Con w W σ R g H Q (.ok (a, S))) (s : SimS w g H S) (r : R g H a b) : Q b H := c b g H s .refl r

/-! ### names and constants -/
theorem ge_c {v : V} {d : D} {e : Expr} (h : ∀ W, Takes X W → PE X e (tC v)) (r : ∀ g, Rep (wd X cl) g d v) : GE cl X e (eC d) := fun W tk => PE.weak (h W tk) fun σ H Q ⟨ρ, S, g, sim, c⟩ => Con.val c sim.st (r g)
theorem ge_int {i : Int} {j : Nat} : GE cl X (.Constant (.int i) j pos) (eC (.int i)) := ge_c (fun _ _ => pe_int) fun _ => rep_int.mpr rfl
theorem ge_bl {i : Bool} {j : Nat} : GE cl X (.Constant (.bool i) j pos) (eC (.bl i)) := ge_c (fun _ _ => pe_bl) fun _ => rep_bl.mpr rfl
theorem ge_non {j : Nat} : GE cl X (.Constant .none j pos) (eC .non) := ge_c (fun _ _ => pe_non) fun _ => rep_non.mpr rfl
theorem ge_str {x : Str} {j : Nat} : GE cl X (.Constant (.str x) j pos) (eC (.str x)) := ge_c (fun _ _ => pe_str) fun _ => rep_str.mpr rfl
theorem ge_var {i : Nat} {x : Str} (hN : X.N[i]? = some x) (hv : Vis X.env.scope x) (hd : (x == ("__debug__" : Str)) = false) (hcd : (x == ("__classdict__" : Str)) = false) : GE cl X (.Name x pos) (eV i) := fun W tk =>
  PE.weak (pe_var hN hv hd hcd) fun σ H Q ⟨ρ, S, g, sim, c⟩ => by
    unfold eV at c
    split at c
    · rename_i d e
      obtain ⟨v, h1, h2⟩ := sim.val i d e
      exact ⟨v, h1, Con.val c sim.st h2⟩
    · exact c.elim
theorem ge_gl {x : Str} {f : Addr} (hg : Gl X x) (hm : X.mg x = some (.ref f)) (hd : (x == ("__debug__" : Str)) = false) : GE cl X (.Name x pos) (eC (.gl x)) :=
  ge_c (v := .ref f) (fun _ _ => pe_glob hg hm rfl hd) fun _ => rep_gl.mpr ⟨f, hm, rfl⟩
theorem ge_const {x : Str} {u : Value} {v : V} {d : D} (hg : Gl X x) (hm : X.mg x = some u) (r : RelV v u) (rd : ∀ g, Rep (wd X cl) g d v) (hd : (x == ("__debug__" : Str)) = false) : GE cl X (.Name x pos) (eC d) :=
  ge_c (v := v) (fun _ _ => pe_glob hg hm r hd) rd

/-! ### operators -/
theorem ge_bin {op : Operator} {f : D → D → Option D} (ho : OpR X (binaryOp op) (rD (wd X cl) f)) (ha : GE cl X a da) (hb : GE cl X b db) : GE cl X (.BinOp a op b pos) (eBin f da db) := fun W tk =>
  PE.weak (pe_op ho (ha W tk) (hb W tk)) fun σ H Q ⟨ρ, S, g, sim, c⟩ =>
    Con.go sim c fun v H1 d1 S1 g1 e1 s1 f1 r1 c1 => Con.go s1 c1 fun u H2 d2 S2 g2 e2 s2 f2 r2 c2 => by
      obtain ⟨d, e, c3⟩ := c2.opt
      exact ⟨d1, d2, d, g2, S2, s2.st, Rep.mono f2.le r1, r2, e, fun v g' H' s f r => c3 v g' H' s f r⟩
theorem ge_neg (ha : GE cl X a da) : GE cl X (.UnaryOp .USub a pos) (eUn negD da) := fun W tk =>
  PE.weak (pe_un ok_neg (ha W tk)) fun σ H Q ⟨ρ, S, g, sim, c⟩ =>
    Con.go sim c fun v H1 d1 S1 g1 e1 s1 f1 r1 c1 => by
      obtain ⟨d, e, c3⟩ := c1.opt
      exact ⟨d1, d, g1, S1, s1.st, r1, e, fun v g' H' s f r => c3 v g' H' s f r⟩
theorem rd_cmp {f : D → D → Option Bool} {W : WX} {σ : St} {H : Hp} {Q : VK} (h : tX (wd X cl) W (RE (wd X cl)) (eCmp f da db) σ H Q) :
    tOp (rC (wd X cl) f) (tX (wd X cl) W (RE (wd X cl)) da) (tX (wd X cl) W (RE (wd X cl)) db) σ H Q := by
  obtain ⟨ρ, S, g, sim, c⟩ := h
  exact Con.go sim c fun v H1 d1 S1 g1 e1 s1 f1 r1 c1 => Con.go s1 c1 fun u H2 d2 S2 g2 e2 s2 f2 r2 c2 => by
    obtain ⟨d, e, c3⟩ := c2.opt
    exact ⟨d1, d2, d, g2, S2, s2.st, Rep.mono f2.le r1, r2, e, Con.val c3 s2.st (rep_bl.mpr rfl)⟩
theorem ge_cmp {op : CmpOp} {f : D → D → Option Bool} (ho : OpR X (compareOp op) (rC (wd X cl) f)) (ha : GE cl X a da) (hb : GE cl X b db) (hm : behindInMarks op b = false) : GE cl X (.Compare a [op] [b] pos) (eCmp f da db) := fun W tk =>
  PE.weak (pe_cmpR ho (ha W tk) (hb W tk) hm) fun σ H Q h => rd_cmp h
/-- a value that is a bool, tested -/
theorem rd_bV {W : WX} {σ : St} {H : Hp} {Q : Bool → Hp → Prop} {den : EX} (h : tX (wd X cl) W RB (bV den) σ H Q) : tX (wd X cl) W (RE (wd X cl)) den σ H (fun x H' => ∃ k, x = .bl k ∧ Q k H') := by
  obtain ⟨ρ, S, g, sim, c⟩ := h
  refine Con.go sim c fun v H1 d1 S1 g1 e1 s1 f1 r1 c1 => ?_
  obtain ⟨k, e, c3⟩ := c1.opt
  cases d1 with
  | bl k' =>
    have e : k' = k := Option.some.inj e
    subst e
    exact ⟨k', rep_bl.mp r1, Con.val c3 s1.st rfl⟩
  | _ => cases e
theorem gt_cmp {op : CmpOp} {f : D → D → Option Bool} (ho : OpR X (compareOp op) (rC (wd X cl) f)) (ha : GE cl X a da) (hb : GE cl X b db) (hm : behindInMarks op b = false) : GT cl X (.Compare a [op] [b] pos) (bV (eCmp f da db)) := fun W tk =>
  PT.weak (pt_cmpR ho (ha W tk) (hb W tk) hm) fun σ H Q h => rd_cmp (rd_bV h)
theorem rd_chain {f f' : D → D → Option Bool} {W : WX} {σ : St} {H : Hp} {Q : VK} (h : tX (wd X cl) W (RE (wd X cl)) (eChain f f' da db dc) σ H Q) :
    tChain (rC (wd X cl) f) (rC (wd X cl) f') (tX (wd X cl) W (RE (wd X cl)) da) (tX (wd X cl) W (RE (wd X cl)) db) (tX (wd X cl) W (RE (wd X cl)) dc) σ H Q := by
  obtain ⟨ρ, S, g, sim, c⟩ := h
  refine Con.go sim c fun v H1 d1 S1 g1 e1 s1 f1 r1 c1 => Con.go s1 c1 fun u H2 d2 S2 g2 e2 s2 f2 r2 c2 => ?_
  obtain ⟨k, e, c3⟩ := c2.opt
  refine ⟨d1, d2, k, g2, S2, s2.st, Rep.mono f2.le r1, r2, e, k, rfl, ?_⟩
  cases k with
  | true =>
    rw [if_pos rfl] at c3 ⊢
    refine Con.go s2 c3 fun y H3 d3 S3 g3 e3 s3 f3 r3 c4 => ?_
    obtain ⟨d, e', c5⟩ := c4.opt
    exact ⟨d2, d3, d, g3, S3, s3.st, Rep.mono f3.le r2, r3, e', Con.val c5 s3.st (rep_bl.mpr rfl)⟩
  | false =>
    rw [if_neg Bool.false_ne_true] at c3 ⊢
    exact Con.val c3 s2.st (rep_bl.mpr rfl)
theorem ge_chain {op op' : CmpOp} {f f' : D → D → Option Bool} (ho : OpR X (compareOp op) (rC (wd X cl) f)) (ho' : OpR X (compareOp op') (rC (wd X cl) f')) (ha : GE cl X a da) (hb : GE cl X b db) (hc : GE cl X c dc) (hm : lastMarks [op, op'] [b, c] = false) :
    GE cl X (.Compare a [op, op'] [b, c] pos) (eChain f f' da db dc) := fun W tk => PE.weak (pe_chain ho ho' (ha W tk) (hb W tk) (hc W tk) hm) fun σ H Q h => rd_chain h
theorem gt_chain {op op' : CmpOp} {f f' : D → D → Option Bool} (ho : OpR X (compareOp op) (rC (wd X cl) f)) (ho' : OpR X (compareOp op') (rC (wd X cl) f')) (ha : GE cl X a da) (hb : GE cl X b db) (hc : GE cl X c dc) (hm : lastMarks [op, op'] [b, c] = false) :
    GT cl X (.Compare a [op, op'] [b, c] pos) (bV (eChain f f' da db dc)) := fun W tk => PT.weak (pt_chain ho ho' (ha W tk) (hb W tk) (hc W tk) hm) fun σ H Q h => rd_chain (rd_bV h)

/-! ### and, or, not, if -/
theorem ge_one {op : BoolOp} (ha : GE cl X a da) : GE cl X (.BoolOp op [a] pos) da := fun W tk => pe_one (ha W tk)
theorem ge_and (ha : GE cl X a da) (hb : GE cl X (.BoolOp .And (b :: es) pos) db) : GE cl X (.BoolOp .And (a :: b :: es) pos) (eAnd da db) := fun W tk =>
  PE.weak (pe_and (ha W tk) (hb W tk)) fun σ H Q ⟨ρ, S, g, sim, c⟩ =>
    Con.go sim c fun v H1 d1 S1 g1 e1 s1 f1 r1 c1 => by
      obtain ⟨k, e, c3⟩ := c1.opt
      cases d1 with
      | bl k' =>
        have e : k' = k := Option.some.inj e
        subst e
        refine ⟨k', rep_bl.mp r1, ?_⟩
        cases k' with
        | true => exact ⟨ρ, S1, g1, s1, c3⟩
        | false => exact Con.val c3 s1.st (rep_bl.mpr rfl)
      | _ => cases e
theorem ge_or (ha : GE cl X a da) (hb : GE cl X (.BoolOp .Or (b :: es) pos) db) : GE cl X (.BoolOp .Or (a :: b :: es) pos) (eOr da db) := fun W tk =>
  PE.weak (pe_or (ha W tk) (hb W tk)) fun σ H Q ⟨ρ, S, g, sim, c⟩ =>
    Con.go sim c fun v H1 d1 S1 g1 e1 s1 f1 r1 c1 => by
      obtain ⟨k, e, c3⟩ := c1.opt
      cases d1 with
      | bl k' =>
        have e : k' = k := Option.some.inj e
        subst e
        refine ⟨k', rep_bl.mp r1, ?_⟩
        cases k' with
        | false => exact ⟨ρ, S1, g1, s1, c3⟩
        | true => exact Con.val c3 s1.st (rep_bl.mpr rfl)
      | _ => cases e
theorem ge_not (ha : GE cl X a da) : GE cl X (.UnaryOp .Not a pos) (eNot da) := fun W tk =>
  PE.weak (pe_not (ha W tk)) fun σ H Q ⟨ρ, S, g, sim, c⟩ =>
    Con.go sim c fun v H1 d1 S1 g1 e1 s1 f1 r1 c1 => by
      obtain ⟨k, e, c3⟩ := c1.opt
      cases d1 with
      | bl k' =>
        have e : k' = k := Option.some.inj e
        subst e
        exact ⟨k', rep_bl.mp r1, Con.val c3 s1.st (rep_bl.mpr rfl)⟩
      | _ => cases e
theorem ge_if {ta : BX} (hc : GT cl X c ta) (ha : GE cl X a da) (hb : GE cl X b db) : GE cl X (.IfExp c a b pos) (eIf ta da db) := fun W tk =>
  PE.weak (pe_ifExp (hc W tk) (ha W tk) (hb W tk)) fun σ H Q ⟨ρ, S, g, sim, c⟩ =>
    Con.go sim c fun k H1 k' S1 g1 e1 s1 f1 r1 c1 => by
      have r1 : k' = k := r1
      subst r1
      cases k' with
      | true => exact ⟨ρ, S1, g1, s1, c1⟩
      | false => exact ⟨ρ, S1, g1, s1, c1⟩
/-! tests -/
variable {ta tb : BX}
theorem gw_and1 (ha : GT cl X a ta) : GW cl X (.BoolOp .And [a] pos) ta := fun W tk => pw_and1 (ha W tk)
theorem gw_or1 (ha : GT cl X a ta) : GW cl X (.BoolOp .Or [a] pos) ta := fun W tk => pw_or1 (ha W tk)
theorem gw_and (ha : GT cl X a ta) (hb : GW cl X (.BoolOp .And (b :: es) pos) tb) : GW cl X (.BoolOp .And (a :: b :: es) pos) (bAnd ta tb) := fun W tk =>
  PW.weak (pw_and (ha W tk) (hb W tk)) fun σ H Q ⟨ρ, S, g, sim, c⟩ =>
    Con.go sim c fun k H1 k' S1 g1 e1 s1 f1 r1 c1 => by
      have r1 : k' = k := r1
      subst r1
      cases k' with
      | true => exact ⟨ρ, S1, g1, s1, c1⟩
      | false => exact Con.val c1 s1.st rfl
theorem gw_or (ha : GT cl X a ta) (hb : GW cl X (.BoolOp .Or (b :: es) pos) tb) : GW cl X (.BoolOp .Or (a :: b :: es) pos) (bOr ta tb) := fun W tk =>
  PW.weak (pw_or (ha W tk) (hb W tk)) fun σ H Q ⟨ρ, S, g, sim, c⟩ =>
    Con.go sim c fun k H1 k' S1 g1 e1 s1 f1 r1 c1 => by
      have r1 : k' = k := r1
      subst r1
      cases k' with
      | false => exact ⟨ρ, S1, g1, s1, c1⟩
      | true => exact Con.val c1 s1.st rfl
theorem gw_pt (h : GW cl X e ta) : GT cl X e ta := fun W tk => (h W tk).pt
theorem gt_not (ha : GT cl X a ta) : GT cl X (.UnaryOp .Not a pos) (bNot ta) := fun W tk =>
  PT.weak (pt_not (ha W tk)) fun σ H Q ⟨ρ, S, g, sim, c⟩ =>
    Con.go sim c fun k H1 k' S1 g1 e1 s1 f1 r1 c1 => by
      have r1 : k' = k := r1
      subst r1
      exact Con.val c1 s1.st rfl
/-- a value's truth -/
def truD : D → Option Bool
  | .non => some false
  | .bl b => some b
  | .int i => some (i != 0)
  | .str x => if x.length ≤ sizeLine then some ((x.length : Int) != 0) else none
  | .lst xs => some (!xs.isEmpty)
  | .tup xs => some (!xs.isEmpty)
  | _ => none
def bT (e : EX) : BX := fun ρ S => (e ρ S).bind fun p => (Out.opt (truD p.1)).bind fun c => .ok (c, p.2)
theorem tru_of {g : Gh} {H : Hp} {S : Store} {d : D} {v : V} {k : Bool} (s : SimS (wd X cl) g H S) (r : Rep (wd X cl) g d v) (e : truD d = some k) : TruV X.K v H k := by
  cases d with
  | non => cases e; rw [rep_non] at r; subst r; rfl
  | bl b => cases e; rw [rep_bl] at r; subst r; rfl
  | int i => cases e; rw [rep_int] at r; subst r; rfl
  | str x =>
    rw [rep_str] at r; subst r
    unfold truD at e
    dsimp only at e
    split at e
    · rename_i hz; cases e; exact ⟨hz, rfl⟩
    · cases e
  | lst xs =>
    cases e
    rw [rep_lst'] at r
    obtain ⟨a, vs, rfl, q, l⟩ := r
    refine .inl ⟨vs, sqL_sub s.sub (SqL.of q), ?_⟩
    cases xs with
    | nil => rw [l.cases0]; rfl
    | cons x xs => obtain ⟨_, _, rfl, _⟩ := l.cases; rfl
  | tup xs =>
    cases e
    rw [rep_tup'] at r
    obtain ⟨a, vs, rfl, q, l⟩ := r
    refine .inr (.inl ⟨vs, sqT_sub s.sub (SqT.of q), ?_⟩)
    cases xs with
    | nil => rw [l.cases0]; rfl
    | cons x xs => obtain ⟨_, _, rfl, _⟩ := l.cases; rfl
  | _ => cases e
theorem gt_val (ha : GE cl X a da) (he : ∀ whole, isTrue a X.env whole = (do let v ← whole; standAt a.pos; holding [v] (truthy v))) : GT cl X a (bT da) := fun W tk =>
  PT.weak (pt_truth (ha W tk) he) fun σ H Q ⟨ρ, S, g, sim, c⟩ =>
    Con.go sim c fun v H1 d1 S1 g1 e1 s1 f1 r1 c1 => by
      obtain ⟨k, e, c3⟩ := c1.opt
      exact ⟨k, tru_of s1.st r1 e, Con.val c3 s1.st rfl⟩

/-! ### argument lists, displays -/
theorem ga_nil : GA cl X [] aN := fun W tk => PA.weak pa_nil fun σ H Q ⟨ρ, S, g, sim, c⟩ => Con.val c sim.st .nil
theorem ga_cons {r : AX} (ha : GE cl X e da) (hr : GA cl X es r) (hs : starEach (e :: es) X.env = (false, eval e X.env) :: starEach es X.env) : GA cl X (e :: es) (aC da r) := fun W tk =>
  PA.weak (pa_cons (ha W tk) (hr W tk) hs) fun σ H Q ⟨ρ, S, g, sim, c⟩ =>
    Con.go sim c fun v H1 d1 S1 g1 e1 s1 f1 r1 c1 => Con.go s1 c1 fun vs H2 d2 S2 g2 e2 s2 f2 r2 c2 =>
      Con.val c2 s2.st (.cons (Rep.mono f2.le r1) r2)
theorem ge_tup {x1 : Nat} {t : AX} (h : GA cl X es t) : GE cl X (.Tuple es x1 pos) (eTup t) := fun W tk =>
  PE.weak (pe_tup (h W tk)) fun σ H Q ⟨ρ, S, g, sim, c⟩ =>
    Con.go sim c fun vs H1 ds S1 g1 e1 s1 f1 r1 c1 => by
      have r1 : RepL (wd X cl) g1 ds vs := r1
      dsimp only at c1
      split at c1
      · rename_i hz
        refine ⟨by rw [← r1.length]; exact of_decide_eq_true hz, fun p hp => ?_⟩
        obtain ⟨t, f⟩ := s1.st.put (u := .tup vs) hp
        exact c1 _ _ _ t f (rep_tup f.le r1)
      · exact c1.elim
theorem ge_lst {t : AX} (h : GA cl X es t) : GE cl X (.List es pos) (eLst t) := fun W tk =>
  PE.weak (pe_lst (h W tk)) fun σ H Q ⟨ρ, S, g, sim, c⟩ =>
    Con.go sim c fun vs H1 ds S1 g1 e1 s1 f1 r1 c1 => by
      have r1 : RepL (wd X cl) g1 ds vs := r1
      dsimp only at c1
      split at c1
      · rename_i hz
        refine ⟨by rw [← r1.length]; exact of_decide_eq_true hz, fun p hp => ?_⟩
        obtain ⟨t, f⟩ := s1.st.put (u := .lst vs) hp
        exact c1 _ _ _ t f (rep_lst f.le r1)
      · exact c1.elim
end
end GG
end

section
/-! G.E: contents: subscripts, lengths, built-in functions of one value. -/
set_option linter.all false
set_option maxRecDepth 100000
namespace GG
open PySem L2
open PyProof.Rows hiding St

/-- what a value shows at this moment -/
def Shown (w : Wd) (g : Gh) (H : Hp) : D → V → Prop
  | .lst ds, v => ∃ a vs, v = .ref a ∧ H a = some (.lst vs) ∧ RepL w g ds vs
  | .dic ks ds, v => ∃ a vs u, v = .ref a ∧ Rd H a u ∧ DicO ks vs u ∧ RepL w g ds vs
  | .obj c fs ds, v => w.kc c ∧ ∃ a C dx vs, v = .ref a ∧ w.mg c = some (.ref C) ∧ H a = some (.ins C dx (fs.zip vs)) ∧ fs.length = vs.length ∧ RepL w g ds vs
  | d, v => Rep w g d v
def RH (w : Wd) (σ : St) : Gh → Hp → HD → V → Prop := fun g _ hd v => match hd with
  | .d x => Rep w g x v
  | .own i => σ[i]? = some (some v)
theorem Shown.mono {w : Wd} {g g' : Gh} {H : Hp} (l : Le g g') {d : D} {v : V} (h : Shown w g H d v) : Shown w g' H d v := by
  cases d <;> first
    | exact Rep.mono l h
    | (obtain ⟨a, vs, e, q, t⟩ := h; exact ⟨a, vs, e, q, t.mono l⟩)
    | (obtain ⟨kc, a, C, dx, vs, e, q, k, z, t⟩ := h; exact ⟨kc, a, C, dx, vs, e, q, k, z, t.mono l⟩)
    | (obtain ⟨a, vs, u, e, q, k, t⟩ := h; exact ⟨a, vs, u, e, q, k, t.mono l⟩)
theorem shown_rep {w : Wd} {g : Gh} {H : Hp} {S : Store} (s : SimS w g H S) {d : D} {v : V} (h : Rep w g d v) : Shown w g H d v := by
  cases d <;> first
    | exact h
    | (rw [rep_lst'] at h; obtain ⟨a, vs, e, q, t⟩ := h; exact ⟨a, vs, e, sub_lst s.sub (fun z => z) q, t⟩)
    | (rw [rep_obj'] at h; obtain ⟨kc, a, C, dx, vs, e, q, k, z, t⟩ := h; exact ⟨kc, a, C, dx, vs, e, q, sub_lst s.sub (fun z => z) k, z, t⟩)
    | (rw [rep_dic'] at h; obtain ⟨a, vs, u, e, q, ⟨kl, k⟩, t⟩ := h
       rcases k with ⟨l, e1, o, rfl⟩ | ⟨l, ln, e1, rfl⟩
       · exact ⟨a, vs, .dK (l.zip vs), e, .inr ⟨o, sub_lst s.sub (fun z => z) q⟩, ⟨kl, .inl ⟨l, e1, rfl⟩⟩, t⟩
       · exact ⟨a, vs, .dT (l.zip vs), e, .inl (sub_lst s.sub (fun z => z) q), ⟨kl, .inr ⟨l, ln, e1, rfl⟩⟩, t⟩)
theorem shown_mok {w : Wd} {g : Gh} {H : Hp} {a : Addr} : ∀ {o : MO}, MOk w g H a o → Shown w g H o.now (.ref a)
  | .lst xs, ⟨vs, h, r⟩ => ⟨a, vs, rfl, h, r⟩
  | .dic ks vs, ⟨us, u, h, k, r⟩ => ⟨a, us, u, rfl, .inl h, k, r⟩
  | .ins c fs vs, ⟨kc, C, dx, us, k, h, z, r⟩ => ⟨kc, a, C, dx, us, rfl, k, h, z, r⟩
theorem shown_of {w : Wd} {g : Gh} {H : Hp} {ρ : LEnv} {σ : St} {S : Store} (s : Sim w g H ρ σ S) {hd : HD} {d : D} {v : V} (r : RH w σ g H hd v) (e : deref ρ S hd = some d) : Shown w g H d v := by
  unfold deref at e
  split at e
  · rename_i n
    have r : Rep w g (.ptr n) v := r
    rw [rep_ptr] at r
    obtain ⟨a, hm, rfl⟩ := r
    rw [Option.map_eq_some_iff] at e
    obtain ⟨o, h, rfl⟩ := e
    exact shown_mok (s.st.at_ n _ a h hm).2
  · cases e
    exact shown_rep s.st r
  · rename_i i
    have r : σ[i]? = some (some v) := r
    split at e
    · rename_i o h
      cases e
      obtain ⟨a, h1, _, _, mo⟩ := s.own i _ h
      rw [r] at h1; cases h1
      exact shown_mok mo
    · cases e

variable (cl : Wp)
def GHd (X : Cx) (e : Expr) (den : HX) : Prop := ∀ W, Takes X W → PE X e (fun σ H Q => tX (wd X cl) W (RH (wd X cl) σ) den σ H Q)
variable {cl} {X : Cx} {a b c e : Expr} {es : List Expr} {da db dc : EX} {ha hb : HX} {pos : Pos}
theorem gh_of (h : GE cl X e da) : GHd cl X e (hE da) := fun W tk => PE.weak (h W tk) fun σ H Q ⟨ρ, S, g, sim, c⟩ =>
  Con.go sim c fun v H1 d1 S1 g1 e1 s1 f1 r1 c1 => Con.val c1 s1.st r1
theorem gh_var {i : Nat} {x : Str} (hN : X.N[i]? = some x) (hv : Vis X.env.scope x) (hd : (x == ("__debug__" : Str)) = false) (hcd : (x == ("__classdict__" : Str)) = false) : GHd cl X (.Name x pos) (hV i) := fun W tk =>
  PE.weak (pe_var hN hv hd hcd) fun σ H Q ⟨ρ, S, g, sim, c⟩ => by
    unfold hV at c
    split at c
    · rename_i d e
      obtain ⟨v, h1, h2⟩ := sim.val i d e
      exact ⟨v, h1, Con.val (a := HD.d d) c sim.st h2⟩
    · rename_i o e
      obtain ⟨a, h1, _⟩ := sim.own i o e
      exact ⟨_, h1, Con.val (a := HD.own i) c sim.st h1⟩
    · exact c.elim

/-! ### subscripts -/
def keyK : D → Option L2.Key
  | .int i => some (.inl i)
  | .str x => some (.inr x)
  | _ => none
def keysL : List D → Option (List L2.Key)
  | [] => some []
  | d :: ds => (keyK d).bind fun k => (keysL ds).map fun r => k :: r
def keyD : D → Option KK
  | .int i => some (.k (.inl i))
  | .str x => some (.k (.inr x))
  | .tup ds => (keysL ds).map .t
  | _ => none
def lookD (ks : List KK) (vs : List D) (k : KK) : Option D := ((ks.zip vs).find? fun p => decide (p.1 = k)).map (·.2)
def sameKind : KK → KK → Bool
  | .k _, .k _ => true
  | .t _, .t _ => true
  | _, _ => false
def idxD : D → D → Option D
  | .lst xs, .int i => atI xs i
  | .tup xs, .int i => atI xs i
  | .frl xs, .int i => atI xs i
  | .ktp xs, .int i => atI xs i
  | .str z, .int i => if z.length ≤ sizeLine then (atI z.cps.toList i).map fun c => .str ⟨#[c]⟩ else none
  | .dic ks vs, y => (keyD y).bind fun k => if ks.all (sameKind k) then lookD ks vs k else none
  | _, _ => none

theorem repL_atI {w : Wd} {g : Gh} {ds : List D} {vs : List V} {i : Int} {d : D} (r : RepL w g ds vs) (e : atI ds i = some d) : ∃ v, atI vs i = some v ∧ Rep w g d v := by
  unfold atI at e ⊢
  rw [Option.bind_eq_some_iff] at e
  obtain ⟨j, e1, e2⟩ := e
  obtain ⟨v, h1, h2⟩ := r.get e2
  exact ⟨v, by rw [← r.length, e1]; exact h1, h2⟩
theorem keyK_rep {w : Wd} {g : Gh} {d : D} {k : L2.Key} {v : V} (e : keyK d = some k) (r : Rep w g d v) : v = kV k := by
  cases d <;> simp only [keyK] at e <;> first | (cases e; done) | skip
  · cases e; rw [rep_int] at r; exact r
  · cases e; rw [rep_str] at r; exact r
theorem keysL_rep {w : Wd} {g : Gh} : ∀ {ds : List D} {ks : List L2.Key} {vs : List V}, keysL ds = some ks → RepL w g ds vs → vs = ks.map kV
  | [], _, _, e, r => by simp only [keysL] at e; cases e; rw [r.cases0]; rfl
  | d :: ds, _, _, e, r => by
    simp only [keysL, Option.bind_eq_some_iff, Option.map_eq_some_iff] at e
    obtain ⟨k, e1, r', e2, rfl⟩ := e
    obtain ⟨v, l, rfl, q1, q2⟩ := r.cases
    rw [keyK_rep e1 q1, keysL_rep e2 q2]; rfl
theorem find_zip {α β γ : Type} [DecidableEq γ] {f : α → γ} : ∀ {ks : List γ} {l : List α} {ds : List D} {vs : List V} {w : Wd} {g : Gh} {k : α}, ks = l.map f → (∀ x y, f x = f y → x = y) → [DecidableEq α] → RepL w g ds vs → ks.length = vs.length →
    (match ((ks.zip ds).find? fun p => decide (p.1 = f k)) with
      | some p => ∃ v, (valV (l.zip vs) k) = some v ∧ Rep w g p.2 v
      | none => valV (l.zip vs) k = none)
  | _, [], _, _, _, _, _, rfl, _, _, _, _ => by simp [valV]
  | _, x :: l, [], vs, w, g, k, rfl, _, _, r, hl => by
    rw [r.cases0] at hl; simp at hl
  | _, x :: l, d :: ds, vs, w, g, k, rfl, inj, _, r, hl => by
    obtain ⟨v, vr, rfl, q1, q2⟩ := r.cases
    have ih := find_zip (β := β) (ks := l.map f) (l := l) (ds := ds) (vs := vr) (k := k) rfl inj q2 (by simpa using hl)
    by_cases hx : x = k
    · subst hx
      simp only [List.map_cons, List.zip_cons_cons, List.find?_cons, decide_true]
      exact ⟨v, by rw [valV_pos rfl], q1⟩
    · have hf : ¬ f x = f k := fun z => hx (inj _ _ z)
      simp only [List.map_cons, List.zip_cons_cons, List.find?_cons, decide_eq_false hf]
      rw [valV_neg hx]
      exact ih
theorem KKk_inj (x y : L2.Key) (h : KK.k x = KK.k y) : x = y := by cases h; rfl
theorem KKt_inj (x y : List L2.Key) (h : KK.t x = KK.t y) : x = y := by cases h; rfl

/-- an empty dict, for either kind of keys -/
def DEmp (H : Hp) (a : Addr) (y : V) : Prop := (Rd H a (.dK []) ∧ ∃ (q : List L2.Key) (b : Addr), y = .ref b ∧ H b = some (.tup (q.map kV))) ∨ (Rd H a (.dT []) ∧ ∃ k, y = kV k)
def DGet2 (H : Hp) (a : Addr) (y : V) (r : Option V) : Prop := DGet H a y r ∨ (DEmp H a y ∧ r = none)
theorem dget_of {w : Wd} {g : Gh} {H : Hp} {S : Store} (s : SimS w g H S) {ks : List KK} {ds : List D} {vs : List V} {u : HO} {a : Addr} {y : D} {k : KK} {v : V} (hu : Rd H a u) (hd : DicO ks vs u) (r : RepL w g ds vs) (ey : keyD y = some k) (ry : Rep w g y v)
    (hk : ks.all (sameKind k) = true) : match lookD ks ds k with
      | some d => ∃ x, DGet H a v (some x) ∧ Rep w g d x
      | none => DGet2 H a v none := by
  obtain ⟨hl, hd⟩ := hd
  have kinds : (∃ q, k = .k q ∧ v = kV q) ∨ ∃ q b, k = .t q ∧ v = .ref b ∧ H b = some (.tup (q.map kV)) := by
    cases y <;> simp only [keyD] at ey <;> first | (cases ey; done) | skip
    · cases ey; rw [rep_int] at ry; exact .inl ⟨_, rfl, ry⟩
    · cases ey; rw [rep_str] at ry; exact .inl ⟨_, rfl, ry⟩
    · rw [Option.map_eq_some_iff] at ey
      obtain ⟨q, e1, rfl⟩ := ey
      rw [rep_tup'] at ry
      obtain ⟨b, vs', rfl, hb, l⟩ := ry
      rw [keysL_rep e1 l] at hb
      exact .inr ⟨q, b, rfl, rfl, sub_lst s.sub (fun z => z) hb⟩
  rcases hd with ⟨l, rfl, rfl⟩ | ⟨l, ln, rfl, rfl⟩
  · rcases kinds with ⟨q, rfl, rfl⟩ | ⟨q, b, rfl, rfl, hb⟩
    · have f := find_zip (β := Unit) (k := q) rfl KKk_inj r hl
      unfold lookD
      cases e : ((l.map KK.k).zip ds).find? (fun p => decide (p.1 = KK.k q)) with
      | some p =>
        rw [e] at f
        obtain ⟨x, h1, h2⟩ := f
        exact ⟨x, .inl ⟨_, q, hu, rfl, h1.symm⟩, h2⟩
      | none =>
        rw [e] at f
        exact .inl (.inl ⟨_, q, hu, rfl, f.symm⟩)
    · cases l with
      | nil => exact .inr ⟨.inl ⟨hu, q, b, rfl, hb⟩, rfl⟩
      | cons x l => simp [sameKind] at hk
  · rcases kinds with ⟨q, rfl, rfl⟩ | ⟨q, b, rfl, rfl, hb⟩
    · cases l with
      | nil => exact .inr ⟨.inr ⟨hu, q, rfl⟩, rfl⟩
      | cons x l => simp [sameKind] at hk
    · have f := find_zip (β := Unit) (k := q) rfl KKt_inj r hl
      unfold lookD
      cases e : ((l.map KK.t).zip ds).find? (fun p => decide (p.1 = KK.t q)) with
      | some p =>
        rw [e] at f
        obtain ⟨x, h1, h2⟩ := f
        exact ⟨x, .inr ⟨_, q, b, hu, rfl, hb, h1.symm⟩, h2⟩
      | none =>
        rw [e] at f
        exact .inl (.inr ⟨_, q, b, hu, rfl, hb, f.symm⟩)

def rIxD (w : Wd) (f : D → D → Option D) : R2 := fun x y H Q => ∃ dc di d g S, SimS w g H S ∧ Shown w g H dc x ∧ Rep w g di y ∧ f dc di = some d ∧ ∀ v, Rep w g d v → Q v H
theorem ok_ix (hu : X.A.units + 1 < cLine) : IxR X (rIxD (wd X cl) idxD) := by
  intro value slice pins s σ H x y v u Q I rx ry ⟨dc, di, d, g, S, sim, sh, r, e, q⟩ hs
  unfold idxD at e
  split at e
  · rw [rep_int] at r; subst r
    obtain ⟨a, vs, rfl, h, l⟩ := sh
    obtain ⟨z, h1, h2⟩ := repL_atI l e
    exact ix_list value slice pins s σ H _ _ v u Q I rx ry ⟨a, vs, _, z, rfl, rfl, SqL.of h, h1, q _ h2⟩ hs
  · rw [rep_int] at r; subst r
    have sh := (rep_tup' (w := wd X cl) (g := g)).mp sh
    obtain ⟨a, vs, rfl, h, l⟩ := sh
    obtain ⟨z, h1, h2⟩ := repL_atI l e
    exact ix_tup value slice pins s σ H _ _ v u Q I rx ry ⟨a, vs, _, z, rfl, rfl, SqT.of (sub_lst sim.sub (fun z => z) h), h1, q _ h2⟩ hs
  · rw [rep_int] at r; subst r
    have sh := (rep_frl' (w := wd X cl) (g := g)).mp sh
    obtain ⟨a, vs, rfl, h, l⟩ := sh
    obtain ⟨z, h1, h2⟩ := repL_atI l e
    exact ix_list value slice pins s σ H _ _ v u Q I rx ry ⟨a, vs, _, z, rfl, rfl, sqL_sub sim.sub h, h1, q _ h2⟩ hs
  · rw [rep_int] at r; subst r
    have sh := (rep_ktp' (w := wd X cl) (g := g)).mp sh
    obtain ⟨a, vs, rfl, h, l⟩ := sh
    obtain ⟨z, h1, h2⟩ := repL_atI l e
    exact ix_tup value slice pins s σ H _ _ v u Q I rx ry ⟨a, vs, _, z, rfl, rfl, sqT_sub sim.sub h, h1, q _ h2⟩ hs
  · rw [rep_int] at r; subst r
    have sh := (rep_str (w := wd X cl) (g := g)).mp sh
    subst sh
    split at e
    · rename_i hz
      rw [Option.map_eq_some_iff] at e
      obtain ⟨c, e, rfl⟩ := e
      exact ix_str value slice pins s σ H _ _ v u Q I rx ry ⟨_, _, c, rfl, rfl, hz, e, q _ (rep_str.mpr rfl)⟩ hs
    · cases e
  · rw [Option.bind_eq_some_iff] at e
    obtain ⟨k, e1, e⟩ := e
    split at e
    · rename_i hk
      obtain ⟨a, vs, o, rfl, h1, h2, l⟩ := sh
      have z := dget_of sim h1 h2 l e1 r hk
      rw [e] at z
      obtain ⟨x, hx, rx'⟩ := z
      obtain rfl : v = Value.ref a := rx
      exact tail_any (dict_typeIs I hx) PySem.F.slot_dict_getitem.lookup (d_getItem hu I hx ry fun w' s' I' rw' => ⟨x, H, I', rw', q _ rx'⟩) hs
    · cases e
  · cases e
theorem ge_sub (hu : X.A.units + 1 < cLine) (h1 : GHd cl X a ha) (h2 : GE cl X b db) (hs : PlainIx b) : GE cl X (.Subscript a b pos) (eHB ha db idxD) := fun W tk =>
  PE.weak (pe_ix (ok_ix (cl := cl) hu) (h1 W tk) (h2 W tk) hs) fun σ H Q ⟨ρ, S, g, sim, c⟩ =>
    Con.go sim c fun v H1 hd S1 g1 e1 s1 f1 r1 c1 => Con.go s1 c1 fun u H2 d2 S2 g2 e2 s2 f2 r2 c2 => by
      obtain ⟨d, e, c3⟩ := c2.opt
      rw [Option.bind_eq_some_iff] at e
      obtain ⟨dc, e3, e4⟩ := e
      have r1' : RH (wd X cl) σ g2 H2 hd v := by
        cases hd with
        | d x => exact Rep.mono f2.le r1
        | own i => exact r1
      exact ⟨dc, d2, d, g2, S2, s2.st, shown_of s2 r1' e3, r2, e4, fun z hz => Con.val c3 s2.st hz⟩

/-! ### built-in functions of one content -/
def rS1 (w : Wd) (f : D → Option D) : List V → Hp → VK → Prop := fun xs H Q => ∃ x dc d g S, xs = [x] ∧ SimS w g H S ∧ Shown w g H dc x ∧ f dc = some d ∧ ∀ v g' H', SimS w g' H' S → Fr g H g' H' → Rep w g' d v → Q v H'
theorem rd_b1 {W : WX} {σ : St} {H : Hp} {Q : VK} {f : D → Option D} (h : tX (wd X cl) W (RE (wd X cl)) (eH ha f) σ H Q) :
    tCB (rS1 (wd X cl) f) (tCons (fun σ H Q => tX (wd X cl) W (RH (wd X cl) σ) ha σ H Q) tNil) σ H Q := by
  obtain ⟨ρ, S, g, sim, c⟩ := h
  refine Con.go sim c fun v H1 hd S1 g1 e1 s1 f1 r1 c1 => ?_
  obtain ⟨d, e, c3⟩ := c1.opt
  rw [Option.bind_eq_some_iff] at e
  obtain ⟨dc, e3, e4⟩ := e
  exact ⟨v, dc, d, g1, S1, rfl, s1.st, shown_of s1 r1 e3, e4, fun z g' H' s f r => c3 z g' H' s f r⟩
theorem ge_b1 {x : Str} {p : Pos} {id : String} {f : D → Option D} (hc : CallR X (.builtin id) (rS1 (wd X cl) f)) (hg : Gl X x) (hm : X.mg x = none) (hv : bootBuiltins x = some (.builtin id)) (h : GHd cl X a ha) (hn : x ≠ "__name__") (hdb : (x == ("__debug__" : Str)) = false)
    (hs : starEach [a] X.env = [(false, eval a X.env)]) : GE cl X (.Call (.Name x p) [a] [] pos) (eH ha f) := fun W tk =>
  PE.weak (pe_callB hc hg hm hv (pa_cons (h W tk) pa_nil hs) hn hdb hs rfl) fun σ H Q h => rd_b1 h
theorem ge_t1 {x : Str} {p : Pos} {id : String} {f : D → Option D} (hc : CallR X (.type id) (rS1 (wd X cl) f)) (hg : Gl X x) (hm : X.mg x = none) (hv : bootBuiltins x = some (.type id)) (h : GHd cl X a ha) (hn : x ≠ "__name__") (hdb : (x == ("__debug__" : Str)) = false)
    (hs : starEach [a] X.env = [(false, eval a X.env)]) : GE cl X (.Call (.Name x p) [a] [] pos) (eH ha f) := fun W tk =>
  PE.weak (pe_callTy hc hg hm hv (pa_cons (h W tk) pa_nil hs) hn hdb hs rfl) fun σ H Q h => rd_b1 h

def lenD : D → Option D
  | .lst xs => some (.int xs.length)
  | .frl xs => some (.int xs.length)
  | .tup xs => some (.int xs.length)
  | .ktp xs => some (.int xs.length)
  | .str z => if z.length ≤ sizeLine then some (.int z.length) else none
  | .dic ks vs => some (.int ks.length)
  | _ => none
theorem ok_len : CallR X (.builtin "len") (rS1 (wd X cl) lenD) := by
  intro pins s σ H xs us Q I r h
  obtain ⟨x, dc, d, g, S, rfl, sim, sh, e, q⟩ := h
  have fin : ∀ n : Int, d = .int n → Q (.int n) H := fun n e => by subst e; exact q _ g H sim .refl (rep_int.mpr rfl)
  unfold lenD at e
  split at e
  · obtain ⟨a, vs, rfl, h, l⟩ := sh
    cases e
    exact call_len_seq pins s σ H _ us Q I r ⟨a, vs, rfl, .inl (SqL.of h), by rw [← l.length]; exact fin _ rfl⟩
  · obtain ⟨a, vs, rfl, h, l⟩ := (rep_frl' (w := wd X cl) (g := g)).mp sh
    cases e
    exact call_len_seq pins s σ H _ us Q I r ⟨a, vs, rfl, .inl (sqL_sub sim.sub h), by rw [← l.length]; exact fin _ rfl⟩
  · obtain ⟨a, vs, rfl, h, l⟩ := (rep_tup' (w := wd X cl) (g := g)).mp sh
    cases e
    exact call_len_seq pins s σ H _ us Q I r ⟨a, vs, rfl, .inr (sqT_sub sim.sub (SqT.of h)), by rw [← l.length]; exact fin _ rfl⟩
  · obtain ⟨a, vs, rfl, h, l⟩ := (rep_ktp' (w := wd X cl) (g := g)).mp sh
    cases e
    exact call_len_seq pins s σ H _ us Q I r ⟨a, vs, rfl, .inr (sqT_sub sim.sub h), by rw [← l.length]; exact fin _ rfl⟩
  · have sh := (rep_str (w := wd X cl) (g := g)).mp sh
    subst sh
    split at e
    · rename_i hz
      cases e
      exact call_len_str pins s σ H _ us Q I r ⟨_, rfl, hz, fin _ rfl⟩
    · cases e
  · cases e
    obtain ⟨a, vs, u, rfl, h1, ⟨hl, hd⟩, l⟩ := sh
    obtain ⟨u', rfl, ru⟩ := vals1 r
    obtain rfl : u' = Value.ref a := ru
    rcases hd with ⟨ks, rfl, rfl⟩ | ⟨ks, ln, rfl, rfl⟩
    · refine d_len I h1 fun t s' I' => ⟨.int (ks.zip vs).length, H, I', ⟨_, rfl⟩, ?_⟩
      have e1 : (ks.zip vs).length = (ks.map KK.k).length := by
        simp only [List.length_map] at hl ⊢
        rw [List.length_zip]; omega
      rw [e1]
      exact fin _ rfl
    · obtain ⟨z, hd, xs, rel, dd⟩ := dt_rd I.hok h1
      have hlen : (ks.zip vs).length = xs.length := Paired.length rel
      have hs : sizeLine = 16777216 := sizeLine_eq
      refine call_len_dictH hd dd (by omega) ?_
      have e1 : xs.length = (ks.map KK.t).length := by
        rw [← hlen]
        simp only [List.length_map] at hl ⊢
        rw [List.length_zip, hl, Nat.min_self]
      rw [e1]
      exact ⟨.int (ks.map KK.t).length, H, I.tok _, ⟨_, rfl⟩, fin _ rfl⟩
  · cases e
end GG
end

section
/-! G.F: more built-in functions; in, not in; slices; isinstance. -/
set_option linter.all false
set_option maxRecDepth 100000
namespace GG
open PySem L2
open PyProof.Rows hiding St

def intsOf : List D → Option (List Int)
  | [] => some []
  | .int i :: r => (intsOf r).map fun l => i :: l
  | _ => none
def boolsOf : List D → Option (List Bool)
  | [] => some []
  | .bl i :: r => (boolsOf r).map fun l => i :: l
  | _ => none
def strsOf : List D → Option (List Str)
  | [] => some []
  | .str i :: r => (strsOf r).map fun l => i :: l
  | _ => none
section
variable {w : Wd} {g : Gh}
theorem intsOf_rep : ∀ {ds : List D} {ns : List Int} {vs : List V}, intsOf ds = some ns → RepL w g ds vs → vs = ns.map V.int
  | [], _, _, e, r => by simp only [intsOf] at e; cases e; rw [r.cases0]; rfl
  | d :: ds, _, _, e, r => by
    obtain ⟨v, l, rfl, q1, q2⟩ := r.cases
    cases d <;> simp only [intsOf] at e <;> first | (cases e; done) | skip
    rw [Option.map_eq_some_iff] at e
    obtain ⟨ns, e, rfl⟩ := e
    rw [rep_int] at q1
    rw [q1, intsOf_rep e q2]; rfl
theorem boolsOf_rep : ∀ {ds : List D} {ns : List Bool} {vs : List V}, boolsOf ds = some ns → RepL w g ds vs → vs = ns.map V.bl
  | [], _, _, e, r => by simp only [boolsOf] at e; cases e; rw [r.cases0]; rfl
  | d :: ds, _, _, e, r => by
    obtain ⟨v, l, rfl, q1, q2⟩ := r.cases
    cases d <;> simp only [boolsOf] at e <;> first | (cases e; done) | skip
    rw [Option.map_eq_some_iff] at e
    obtain ⟨ns, e, rfl⟩ := e
    rw [rep_bl] at q1
    rw [q1, boolsOf_rep e q2]; rfl
theorem strsOf_rep : ∀ {ds : List D} {ns : List Str} {vs : List V}, strsOf ds = some ns → RepL w g ds vs → vs = ns.map V.str
  | [], _, _, e, r => by simp only [strsOf] at e; cases e; rw [r.cases0]; rfl
  | d :: ds, _, _, e, r => by
    obtain ⟨v, l, rfl, q1, q2⟩ := r.cases
    cases d <;> simp only [strsOf] at e <;> first | (cases e; done) | skip
    rw [Option.map_eq_some_iff] at e
    obtain ⟨ns, e, rfl⟩ := e
    rw [rep_str] at q1
    rw [q1, strsOf_rep e q2]; rfl
end

/-! ### sum, all, any, max, min, tuple, list, int, abs -/
def sumD : D → Option D
  | .lst xs => (intsOf xs).map fun ns => .int ns.sum
  | _ => none
def allD : D → Option D
  | .lst xs => (boolsOf xs).map fun ns => .bl (ns.all id)
  | _ => none
def anyD : D → Option D
  | .lst xs => (boolsOf xs).map fun ns => .bl (ns.any id)
  | _ => none
def maxL : List Int → Option Int
  | [] => none
  | n :: ns => some (ns.foldl max n)
def minL : List Int → Option Int
  | [] => none
  | n :: ns => some (ns.foldl min n)
def maxLD : D → Option D
  | .lst xs => ((intsOf xs).bind maxL).map .int
  | _ => none
def minLD : D → Option D
  | .lst xs => ((intsOf xs).bind minL).map .int
  | _ => none
def tupleD : D → Option D
  | .lst xs => some (.tup xs)
  | .tup xs => some (.tup xs)
  | _ => none
def listD : D → Option D
  | .lst xs => some (.lst xs)
  | .frl xs => some (.lst xs)
  | .tup xs => some (.lst xs)
  | .ktp xs => some (.lst xs)
  | _ => none
def intD : D → Option D
  | .int i => some (.int i)
  | .bl b => some (.int (if b then 1 else 0))
  | _ => none
def absD : D → Option D
  | .int i => some (.int (if i < 0 then -i else i))
  | _ => none
theorem maxL_le : ∀ (ns : List Int) (n : Int), n ≤ ns.foldl max n ∧ ∀ y ∈ ns, y ≤ ns.foldl max n
  | [], n => ⟨Int.le_refl _, fun y h => by cases h⟩
  | m :: ns, n => by
    obtain ⟨h1, h2⟩ := maxL_le ns (max n m)
    refine ⟨by show n ≤ ns.foldl max (max n m); omega, fun y hy => ?_⟩
    show y ≤ ns.foldl max (max n m)
    rcases List.mem_cons.mp hy with rfl | hy
    · omega
    · exact h2 y hy
theorem maxL_mem : ∀ (ns : List Int) (n : Int), ns.foldl max n = n ∨ ns.foldl max n ∈ ns
  | [], n => .inl rfl
  | m :: ns, n => by
    show ns.foldl max (max n m) = n ∨ ns.foldl max (max n m) ∈ m :: ns
    rcases maxL_mem ns (max n m) with h | h
    · rw [h]
      by_cases q : n ≤ m
      · exact .inr (by rw [show max n m = m by omega]; exact List.mem_cons_self)
      · exact .inl (by omega)
    · exact .inr (List.mem_cons_of_mem _ h)
theorem minL_le : ∀ (ns : List Int) (n : Int), ns.foldl min n ≤ n ∧ ∀ y ∈ ns, ns.foldl min n ≤ y
  | [], n => ⟨Int.le_refl _, fun y h => by cases h⟩
  | m :: ns, n => by
    obtain ⟨h1, h2⟩ := minL_le ns (min n m)
    refine ⟨by show ns.foldl min (min n m) ≤ n; omega, fun y hy => ?_⟩
    show ns.foldl min (min n m) ≤ y
    rcases List.mem_cons.mp hy with rfl | hy
    · omega
    · exact h2 y hy
theorem minL_mem : ∀ (ns : List Int) (n : Int), ns.foldl min n = n ∨ ns.foldl min n ∈ ns
  | [], n => .inl rfl
  | m :: ns, n => by
    show ns.foldl min (min n m) = n ∨ ns.foldl min (min n m) ∈ m :: ns
    rcases minL_mem ns (min n m) with h | h
    · rw [h]
      by_cases q : m ≤ n
      · exact .inr (by rw [show min n m = m by omega]; exact List.mem_cons_self)
      · exact .inl (by omega)
    · exact .inr (List.mem_cons_of_mem _ h)

variable {cl : Wp} {X : Cx} {a b c e : Expr} {es : List Expr} {da db dc : EX} {ha hb : HX} {pos : Pos}
theorem ok_sum (hc : X.calm = true) : CallR X (.builtin "sum") (rS1 (wd X cl) sumD) := by
  intro pins s σ H xs us Q I r h
  obtain ⟨x, dc, d, g, S, rfl, sim, sh, e, q⟩ := h
  unfold sumD at e
  split at e
  · rw [Option.map_eq_some_iff] at e
    obtain ⟨ns, e, rfl⟩ := e
    obtain ⟨a, vs, rfl, h, l⟩ := sh
    rw [intsOf_rep e l] at h
    exact cr_sum hc pins s σ H _ us Q I r ⟨a, ns, rfl, SqL.of h, q _ g H sim .refl (rep_int.mpr rfl)⟩
  · cases e
theorem ok_all (hc : X.calm = true) : CallR X (.builtin "all") (rS1 (wd X cl) allD) := by
  intro pins s σ H xs us Q I r h
  obtain ⟨x, dc, d, g, S, rfl, sim, sh, e, q⟩ := h
  unfold allD at e
  split at e
  · rw [Option.map_eq_some_iff] at e
    obtain ⟨ns, e, rfl⟩ := e
    obtain ⟨a, vs, rfl, h, l⟩ := sh
    rw [boolsOf_rep e l] at h
    exact cr_all hc pins s σ H _ us Q I r ⟨a, ns, rfl, SqL.of h, q _ g H sim .refl (rep_bl.mpr rfl)⟩
  · cases e
theorem ok_any (hc : X.calm = true) : CallR X (.builtin "any") (rS1 (wd X cl) anyD) := by
  intro pins s σ H xs us Q I r h
  obtain ⟨x, dc, d, g, S, rfl, sim, sh, e, q⟩ := h
  unfold anyD at e
  split at e
  · rw [Option.map_eq_some_iff] at e
    obtain ⟨ns, e, rfl⟩ := e
    obtain ⟨a, vs, rfl, h, l⟩ := sh
    rw [boolsOf_rep e l] at h
    exact cr_any hc pins s σ H _ us Q I r ⟨a, ns, rfl, SqL.of h, q _ g H sim .refl (rep_bl.mpr rfl)⟩
  · cases e
theorem ok_maxL (hc : X.calm = true) : CallR X (.builtin "max") (rS1 (wd X cl) maxLD) := by
  intro pins s σ H xs us Q I r h
  obtain ⟨x, dc, d, g, S, rfl, sim, sh, e, q⟩ := h
  unfold maxLD at e
  split at e
  · rw [Option.map_eq_some_iff] at e
    obtain ⟨m, e, rfl⟩ := e
    rw [Option.bind_eq_some_iff] at e
    obtain ⟨ns, e1, e2⟩ := e
    obtain ⟨a, vs, rfl, h, l⟩ := sh
    rw [intsOf_rep e1 l] at h
    cases ns with
    | nil => cases e2
    | cons n ns =>
      have e2 : ns.foldl max n = m := Option.some.inj e2
      refine cr_max hc pins s σ H _ us Q I r ⟨a, n :: ns, rfl, SqL.of h, by simp, fun m' h1 h2 => ?_⟩
      have : m' = m := by
        have q1 := maxL_le ns n
        have q2 := maxL_mem ns n
        rw [e2] at q1 q2
        have z1 : m' ≤ m := by
          rcases List.mem_cons.mp h1 with rfl | h
          · exact q1.1
          · exact q1.2 _ h
        have z2 : m ≤ m' := h2 m (by rcases q2 with rfl | h; exact List.mem_cons_self; exact List.mem_cons_of_mem _ h)
        omega
      subst this
      exact q _ g H sim .refl (rep_int.mpr rfl)
  · cases e
theorem ok_minL (hc : X.calm = true) : CallR X (.builtin "min") (rS1 (wd X cl) minLD) := by
  intro pins s σ H xs us Q I r h
  obtain ⟨x, dc, d, g, S, rfl, sim, sh, e, q⟩ := h
  unfold minLD at e
  split at e
  · rw [Option.map_eq_some_iff] at e
    obtain ⟨m, e, rfl⟩ := e
    rw [Option.bind_eq_some_iff] at e
    obtain ⟨ns, e1, e2⟩ := e
    obtain ⟨a, vs, rfl, h, l⟩ := sh
    rw [intsOf_rep e1 l] at h
    cases ns with
    | nil => cases e2
    | cons n ns =>
      have e2 : ns.foldl min n = m := Option.some.inj e2
      refine cr_min hc pins s σ H _ us Q I r ⟨a, n :: ns, rfl, SqL.of h, by simp, fun m' h1 h2 => ?_⟩
      have : m' = m := by
        have q1 := minL_le ns n
        have q2 := minL_mem ns n
        rw [e2] at q1 q2
        have z1 : m ≤ m' := by
          rcases List.mem_cons.mp h1 with rfl | h
          · exact q1.1
          · exact q1.2 _ h
        have z2 : m' ≤ m := h2 m (by rcases q2 with rfl | h; exact List.mem_cons_self; exact List.mem_cons_of_mem _ h)
        omega
      subst this
      exact q _ g H sim .refl (rep_int.mpr rfl)
  · cases e
theorem ok_tuple : CallR X (.type "tuple") (rS1 (wd X cl) tupleD) := by
  intro pins s σ H xs us Q I r h
  obtain ⟨x, dc, d, g, S, rfl, sim, sh, e, q⟩ := h
  unfold tupleD at e
  split at e
  · cases e
    obtain ⟨a, vs, rfl, h, l⟩ := sh
    refine call_tuple_of pins s σ H _ us Q I r ⟨a, vs, rfl, .inl ⟨SqL.of h, fun p hp => ?_⟩⟩
    obtain ⟨t, f⟩ := sim.put (u := .tup vs) hp
    exact q _ _ _ t f (rep_tup f.le l)
  · cases e
    have sh' : Rep (wd X cl) g (.tup _) x := sh
    obtain ⟨a, vs, rfl, h, l⟩ := (rep_tup' (w := wd X cl) (g := g)).mp sh
    exact call_tuple_of pins s σ H _ us Q I r ⟨a, vs, rfl, .inr ⟨sqT_sub sim.sub (SqT.of h), q _ g H sim .refl sh'⟩⟩
  · cases e
theorem ok_list : CallR X (.type "list") (rS1 (wd X cl) listD) := by
  intro pins s σ H xs us Q I r h
  obtain ⟨x, dc, d, g, S, rfl, sim, sh, e, q⟩ := h
  have fin : ∀ {ds : List D} {a : Addr} {vs : List V}, d = .lst ds → RepL (wd X cl) g ds vs → (SqL X.K H a vs ∨ SqT X.K H a vs) → x = .ref a → wpAny (model X.prog X.w) X.A (call (.type "list") us) (EP X pins σ Q) X.xe s := by
    intro ds a vs ed l h ex
    subst ed ex
    refine call_list_of pins s σ H _ us Q I r ⟨a, vs, rfl, h, fun p hp => ?_⟩
    obtain ⟨t, f⟩ := sim.put (u := .lst vs) hp
    exact q _ _ _ t f (rep_lst f.le l)
  unfold listD at e
  split at e
  · cases e
    obtain ⟨a, vs, rfl, h, l⟩ := sh
    exact fin rfl l (.inl (SqL.of h)) rfl
  · cases e
    obtain ⟨a, vs, rfl, h, l⟩ := (rep_frl' (w := wd X cl) (g := g)).mp sh
    exact fin rfl l (.inl (sqL_sub sim.sub h)) rfl
  · cases e
    obtain ⟨a, vs, rfl, h, l⟩ := (rep_tup' (w := wd X cl) (g := g)).mp sh
    exact fin rfl l (.inr (sqT_sub sim.sub (SqT.of h))) rfl
  · cases e
    obtain ⟨a, vs, rfl, h, l⟩ := (rep_ktp' (w := wd X cl) (g := g)).mp sh
    exact fin rfl l (.inr (sqT_sub sim.sub h)) rfl
  · cases e
theorem ok_int : CallR X (.type "int") (rS1 (wd X cl) intD) := by
  intro pins s σ H xs us Q I r h
  obtain ⟨x, dc, d, g, S, rfl, sim, sh, e, q⟩ := h
  unfold intD at e
  split at e
  · cases e
    have sh := (rep_int (w := wd X cl) (g := g)).mp sh
    subst sh
    exact call_int1 pins s σ H _ us Q I r (.inl ⟨_, rfl, q _ g H sim .refl (rep_int.mpr rfl)⟩)
  · cases e
    have sh := (rep_bl (w := wd X cl) (g := g)).mp sh
    subst sh
    exact call_int1 pins s σ H _ us Q I r (.inr ⟨_, rfl, q _ g H sim .refl (rep_int.mpr rfl)⟩)
  · cases e
theorem ok_abs : CallR X (.builtin "abs") (rS1 (wd X cl) absD) := by
  intro pins s σ H xs us Q I r h
  obtain ⟨x, dc, d, g, S, rfl, sim, sh, e, q⟩ := h
  unfold absD at e
  split at e
  · cases e
    have sh := (rep_int (w := wd X cl) (g := g)).mp sh
    subst sh
    exact call_abs pins s σ H _ us Q I r ⟨_, rfl, q _ g H sim .refl (rep_int.mpr rfl)⟩
  · cases e

/-! ### built-in functions of several values -/
def rSn (w : Wd) (f : List D → Option D) : List V → Hp → VK → Prop := fun xs H Q => ∃ ds d g S, SimS w g H S ∧ RepL w g ds xs ∧ f ds = some d ∧ ∀ v g' H', SimS w g' H' S → Fr g H g' H' → Rep w g' d v → Q v H'
theorem ge_bn {x : Str} {p : Pos} {id : String} {f : List D → Option D} {r : AX} (hc : CallR X (.builtin id) (rSn (wd X cl) f)) (hg : Gl X x) (hm : X.mg x = none) (hv : bootBuiltins x = some (.builtin id)) (h : GA cl X (a :: es) r) (hn : x ≠ "__name__") (hdb : (x == ("__debug__" : Str)) = false)
    (hs : starEach (a :: es) X.env = (false, eval a X.env) :: starEach es X.env) (hpl : (backTo pos (starEach es X.env)).any (·.1) = false) : GE cl X (.Call (.Name x p) (a :: es) [] pos) (eB f r) := fun W tk =>
  PE.weak (pe_callB hc hg hm hv (h W tk) hn hdb hs hpl) fun σ H Q ⟨ρ, S, g, sim, c⟩ =>
    Con.go sim c fun vs H1 ds S1 g1 e1 s1 f1 r1 c1 => by
      obtain ⟨d, e, c3⟩ := c1.opt
      exact ⟨ds, d, g1, S1, s1.st, r1, e, fun z g' H' s f r => c3 z g' H' s f r⟩
def max2D : List D → Option D
  | [.int i, .int j] => some (.int (if j > i then j else i))
  | _ => none
def min2D : List D → Option D
  | [.int i, .int j] => some (.int (if j < i then j else i))
  | _ => none
theorem repL2 {w : Wd} {g : Gh} {a b : D} {vs : List V} (r : RepL w g [a, b] vs) : ∃ x y, vs = [x, y] ∧ Rep w g a x ∧ Rep w g b y := by
  obtain ⟨x, l, rfl, h1, r⟩ := r.cases
  obtain ⟨y, l, rfl, h2, r⟩ := r.cases
  obtain rfl := r.cases0
  exact ⟨x, y, rfl, h1, h2⟩
theorem ok_max2 (hc : X.calm = true) : CallR X (.builtin "max") (rSn (wd X cl) max2D) := by
  intro pins s σ H xs us Q I r h
  obtain ⟨ds, d, g, S, sim, l, e, q⟩ := h
  unfold max2D at e
  split at e
  · cases e
    obtain ⟨x, y, rfl, h1, h2⟩ := repL2 l
    rw [rep_int] at h1 h2
    subst h1 h2
    exact call_max2 hc pins s σ H _ us Q I r ⟨_, _, rfl, q _ g H sim .refl (rep_int.mpr rfl)⟩
  · cases e
theorem ok_min2 (hc : X.calm = true) : CallR X (.builtin "min") (rSn (wd X cl) min2D) := by
  intro pins s σ H xs us Q I r h
  obtain ⟨ds, d, g, S, sim, l, e, q⟩ := h
  unfold min2D at e
  split at e
  · cases e
    obtain ⟨x, y, rfl, h1, h2⟩ := repL2 l
    rw [rep_int] at h1 h2
    subst h1 h2
    exact call_min2 hc pins s σ H _ us Q I r ⟨_, _, rfl, q _ g H sim .refl (rep_int.mpr rfl)⟩
  · cases e
end GG
end

section
/-! G.G: isinstance, in, slices. -/
set_option linter.all false
set_option maxRecDepth 100000
namespace GG
open PySem L2
open PyProof.Rows hiding St

/-! ### isinstance -/
inductive IsT where
  | ty (n : String)
  | cl (c : Str)
  deriving DecidableEq
def biTypes : List String := ["int", "bool", "str", "tuple", "list", "dict"]
def srcTypes : List String := ["NoneType", "int", "bool", "str", "tuple", "list", "dict"]
def typN (S : Store) : D → Option (String ⊕ Str)
  | .non => some (.inl "NoneType")
  | .bl _ => some (.inl "bool")
  | .int _ => some (.inl "int")
  | .str _ => some (.inl "str")
  | .tup _ => some (.inl "tuple")
  | .ktp _ => some (.inl "tuple")
  | .lst _ => some (.inl "list")
  | .frl _ => some (.inl "list")
  | .dic _ _ => some (.inl "dict")
  | .obj c _ _ => some (.inr c)
  | .ptr n => match S[n]? with
    | some (.lst _) => some (.inl "list")
    | some (.ins c _ _) => some (.inr c)
    | _ => none
  | _ => none
abbrev CTab := List (Str × List Str)
def biB (n m : String) : Bool := n == m || (n == "bool" && m == "int")
def isOne (tab : CTab) : String ⊕ Str → IsT → Option Bool
  | .inl n, .ty m => if srcTypes.contains n && biTypes.contains m then some (biB n m) else none
  | .inl n, .cl c => if srcTypes.contains n && (tab.lookup c).isSome then some false else none
  | .inr c, .ty m => if (tab.lookup c).isSome && biTypes.contains m then some false else none
  | .inr c, .cl d => if (tab.lookup d).isSome then (tab.lookup c).map fun l => l.contains d else none
def isAny (tab : CTab) (t : String ⊕ Str) : List IsT → Option Bool
  | [] => some false
  | c :: r => (isOne tab t c).bind fun b => if b then some true else isAny tab t r
def eIsi (tab : CTab) (ts : List IsT) (a : EX) : EX := fun ρ S => (a ρ S).bind fun p => (Out.opt ((typN p.2 p.1).bind fun t => isAny tab t ts)).bind fun b => .ok (.bl b, p.2)
def eIsi1 (tab : CTab) (t : IsT) (a : EX) : EX := fun ρ S => (a ρ S).bind fun p => (Out.opt ((typN p.2 p.1).bind fun u => isOne tab u t)).bind fun b => .ok (.bl b, p.2)

/-- what the text must say of the classes in the table -/
structure CFact (K : PySem.W.Frag) (C : Addr) : Prop where
  cl : Cls K C
  ha : PySem.W.findIn K (.ref C) "__class__" = some (some (.builtin "object.__class__"))
  hn : PySem.W.specialIn K (.builtin "object.__class__") "__get__" = some (some (.builtin "getset_descriptor.__get__"))
  htk : PySem.W.takesIn K (.builtin "object.__class__") = some true
  hm : PySem.W.mroIn K C (.type "object") = some true
  no : ∀ m, biTypes.contains m = true → PySem.W.kitOne K (.ref C) (.type m) = some false
  non : ∀ n, srcTypes.contains n = true → PySem.W.kitOne K (.type n) (.ref C) = some false
structure CTabOk (K : PySem.W.Frag) (mg : Str → Option Value) (tab : CTab) : Prop where
  cls : ∀ c l, tab.lookup c = some l → ∃ C, mg c = some (.ref C) ∧ CFact K C
  two : ∀ c d l l' C D, tab.lookup c = some l → tab.lookup d = some l' → mg c = some (.ref C) → mg d = some (.ref D) → PySem.W.kitOne K (.ref C) (.ref D) = some (l.contains d)
theorem kit_bi {K : PySem.W.Frag} {n m : String} (h1 : srcTypes.contains n = true) (h2 : biTypes.contains m = true) : PySem.W.kitOne K (.type n) (.type m) = some (biB n m) := by
  have h1 : n ∈ srcTypes := by simpa using h1
  have h2 : m ∈ biTypes := by simpa using h2
  simp only [srcTypes, List.mem_cons, List.not_mem_nil, or_false] at h1
  simp only [biTypes, List.mem_cons, List.not_mem_nil, or_false] at h2
  refine kit_ty ?_
  rcases h1 with rfl | rfl | rfl | rfl | rfl | rfl | rfl <;> rcases h2 with rfl | rfl | rfl | rfl | rfl | rfl <;> decide +kernel
section
variable {cl : Wp} {X : Cx} {a b c e : Expr} {es : List Expr} {da db dc : EX} {ha hb : HX} {pos : Pos} {tab : CTab}
def CVal (mg : Str → Option Value) : IsT → Value → Prop
  | .ty m, cv => cv = .type m
  | .cl c, cv => ∃ C, mg c = some (.ref C) ∧ cv = .ref C
/-- the class of a value, as the fragment tells it -/
def TyVal (K : PySem.W.Frag) (mg : Str → Option Value) : String ⊕ Str → Value → Prop
  | .inl n, t => t = .type n
  | .inr c, t => ∃ C, mg c = some (.ref C) ∧ t = .ref C
theorem tyX_of {g : Gh} {H : Hp} {S : Store} {d : D} {v : V} {n : String ⊕ Str} (tb : CTabOk X.K X.mg tab) (s : SimS (wd X cl) g H S) (r : Rep (wd X cl) g d v) (e : typN S d = some n)
    (hc : ∀ c, n = .inr c → (tab.lookup c).isSome = true) : ∃ t, TyX X.K H v t ∧ TyVal X.K X.mg n t := by
  have own : ∀ {a : Addr} {c : Str} {C dx : Addr} {fs : List (Str × V)}, X.mg c = some (.ref C) → (tab.lookup c).isSome = true → H a = some (.ins C dx fs) → ∃ t, TyX X.K H (.ref a) t ∧ TyVal X.K X.mg (.inr c) t := by
    intro a c C dx fs hm hl h
    obtain ⟨l, hl⟩ := Option.isSome_iff_exists.mp hl
    obtain ⟨C', hm', f⟩ := tb.cls c l hl
    rw [hm] at hm'; cases hm'
    exact ⟨_, .base (.ins h f.cl f.ha f.hn f.htk f.hm), C, hm, rfl⟩
  cases d with
  | non => cases e; rw [rep_non] at r; subst r; exact ⟨_, .base .non, rfl⟩
  | bl b => cases e; rw [rep_bl] at r; subst r; exact ⟨_, .base (.bl _), rfl⟩
  | int b => cases e; rw [rep_int] at r; subst r; exact ⟨_, .base (.int _), rfl⟩
  | str b => cases e; rw [rep_str] at r; subst r; exact ⟨_, .base (.str _), rfl⟩
  | tup ds =>
    cases e
    obtain ⟨a, vs, rfl, h, l⟩ := rep_tup'.mp r
    exact ⟨_, .base (.tup (sub_lst s.sub (fun z => z) h)), rfl⟩
  | lst ds =>
    cases e
    obtain ⟨a, vs, rfl, h, l⟩ := rep_lst'.mp r
    exact ⟨_, .base (.lst (sub_lst s.sub (fun z => z) h)), rfl⟩
  | ktp ds =>
    cases e
    obtain ⟨a, vs, rfl, h, l⟩ := rep_ktp'.mp r
    rcases sqT_sub s.sub h with (h | ⟨o, h⟩) | ⟨o, _, _, hk, hc, _⟩
    · exact ⟨_, .base (.tup h), rfl⟩
    · exact ⟨_, .fTuple h, rfl⟩
    · exact ⟨_, .kTuple hk hc, rfl⟩
  | frl ds =>
    cases e
    obtain ⟨a, vs, rfl, h, l⟩ := rep_frl'.mp r
    rcases sqL_sub s.sub h with (h | ⟨o, h⟩) | ⟨o, _, _, hk, hc, _⟩
    · exact ⟨_, .base (.lst h), rfl⟩
    · exact ⟨_, .base (.frz h), rfl⟩
    · exact ⟨_, .kList hk hc, rfl⟩
  | dic ks vs =>
    cases e
    obtain ⟨a, us, u, rfl, h, ⟨_, hd⟩, l⟩ := rep_dic'.mp r
    rcases hd with ⟨q, _, o, rfl⟩ | ⟨q, _, _, rfl⟩
    · exact ⟨_, .fDict (sub_lst s.sub (fun z => z) h), rfl⟩
    · exact ⟨_, .base (.dT (sub_lst s.sub (fun z => z) h)), rfl⟩
  | obj c fs ds =>
    cases e
    obtain ⟨_, a, C, dx, vs, rfl, hm, h, _⟩ := rep_obj'.mp r
    exact own hm (hc c rfl) (sub_lst s.sub (fun z => z) h)
  | ptr i =>
    obtain ⟨a, hm, rfl⟩ := rep_ptr.mp r
    unfold typN at e
    dsimp only at e
    split at e
    · rename_i xs hx
      cases e
      obtain ⟨_, vs, h, _⟩ := s.at_ i _ a hx hm
      exact ⟨_, .base (.lst h), rfl⟩
    · rename_i c fs vs hx
      cases e
      obtain ⟨_, _, C, dx, us, hm', h, _⟩ := s.at_ i _ a hx hm
      exact own hm' (hc c rfl) h
    · cases e
  | _ => cases e
theorem tyX_one {g : Gh} {H : Hp} {S : Store} {d : D} {v : V} {n : String ⊕ Str} {k : IsT} {b : Bool} {cv : Value} (tb : CTabOk X.K X.mg tab) (s : SimS (wd X cl) g H S) (r : Rep (wd X cl) g d v) (e : typN S d = some n) (e1 : isOne tab n k = some b)
    (hcv : CVal X.mg k cv) : ∃ t, TyX X.K H v t ∧ PySem.W.kitOne X.K t cv = some b := by
  have hc : ∀ c, n = .inr c → (tab.lookup c).isSome = true := by
    rintro c rfl
    cases k with
    | ty m =>
      simp only [isOne] at e1
      split at e1
      · rename_i z; exact (Bool.and_eq_true_iff.mp z).1
      · cases e1
    | cl d =>
      simp only [isOne] at e1
      split at e1
      · rw [Option.map_eq_some_iff] at e1
        obtain ⟨l, e1, _⟩ := e1
        rw [e1]; rfl
      · cases e1
  obtain ⟨t, h1, h2⟩ := tyX_of tb s r e hc
  refine ⟨t, h1, ?_⟩
  cases n with
  | inl n =>
    have h2 : t = .type n := h2
    subst h2
    cases k with
    | ty m =>
      have hcv : cv = .type m := hcv
      subst hcv
      simp only [isOne] at e1
      split at e1
      · rename_i z
        obtain ⟨z1, z2⟩ := Bool.and_eq_true_iff.mp z
        cases e1
        exact kit_bi z1 z2
      · cases e1
    | cl c =>
      obtain ⟨C, hm, rfl⟩ := hcv
      simp only [isOne] at e1
      split at e1
      · rename_i z
        obtain ⟨z1, z2⟩ := Bool.and_eq_true_iff.mp z
        cases e1
        obtain ⟨l, hl⟩ := Option.isSome_iff_exists.mp z2
        obtain ⟨C', hm', f⟩ := tb.cls c l hl
        rw [hm] at hm'; cases hm'
        exact f.non n z1
      · cases e1
  | inr c =>
    obtain ⟨C, hm, rfl⟩ := h2
    cases k with
    | ty m =>
      have hcv : cv = .type m := hcv
      subst hcv
      simp only [isOne] at e1
      split at e1
      · rename_i z
        obtain ⟨z1, z2⟩ := Bool.and_eq_true_iff.mp z
        cases e1
        obtain ⟨l, hl⟩ := Option.isSome_iff_exists.mp z1
        obtain ⟨C', hm', f⟩ := tb.cls c l hl
        rw [hm] at hm'; cases hm'
        exact f.no m z2
      · cases e1
    | cl d =>
      obtain ⟨D', hmd, rfl⟩ := hcv
      simp only [isOne] at e1
      split at e1
      · rename_i z
        rw [Option.map_eq_some_iff] at e1
        obtain ⟨l, e1, rfl⟩ := e1
        obtain ⟨l', hl'⟩ := Option.isSome_iff_exists.mp z
        exact tb.two c d l l' C D' e1 hl' hm hmd
      · cases e1
/-- the expression that names one type -/
def NamesT (X : Cx) (e : Expr) (k : IsT) : Prop := match k with
  | .ty m => PE X e (tC (.ty m))
  | .cl c => ∃ C, X.mg c = some (.ref C) ∧ PE X e (tC (.ref C))
theorem ge_isi1 {t : Expr} {k : IsT} {p : Pos} (tb : CTabOk X.K X.mg tab) (hg : Gl X "isinstance") (hm : X.mg "isinstance" = none) (h : GE cl X a da) (ht : NamesT X t k)
    (hs1 : starEach [a, t] X.env = (false, eval a X.env) :: starEach [t] X.env) (hs2 : starEach [t] X.env = (false, eval t X.env) :: starEach [] X.env) :
    GE cl X (.Call (.Name "isinstance" p) [a, t] [] pos) (eIsi1 tab k da) := fun W tk => by
  have go : ∀ (c : V) (cv : Value), ClsV c cv → PE X t (tC c) → CVal X.mg k cv →
      PE X (.Call (.Name "isinstance" p) [a, t] [] pos) (tX (wd X cl) W (RE (wd X cl)) (eIsi1 tab k da)) := fun c cv hc hp hcv =>
    PE.weak (pe_callB call_isi hg hm (by decide +kernel) (pa_cons (h W tk) (pa_cons hp pa_nil hs2) hs1) (by decide) (by decide) hs1 (by rw [hs2]; rfl)) fun σ H Q ⟨ρ, S, g, sim, c0⟩ =>
      Con.go sim c0 fun v H1 d1 S1 g1 e1 s1 f1 r1 c1 => by
        obtain ⟨b, e, c3⟩ := c1.opt
        rw [Option.bind_eq_some_iff] at e
        obtain ⟨n, e2, e3⟩ := e
        obtain ⟨t', h1, h2⟩ := tyX_one (cv := cv) tb s1.st r1 e2 e3 hcv
        exact ⟨v, c, t', cv, b, rfl, hc, h1, h2, Con.val c3 s1.st (rep_bl.mpr rfl)⟩
  cases k with
  | ty m => exact go _ _ (.ty m) ht rfl
  | cl c =>
    obtain ⟨C, hC, hp⟩ := ht
    exact go _ _ (.own C) hp ⟨C, hC, rfl⟩

/-! ### in, not in -/
def flatD : D → Bool
  | .non => true | .bl _ => true | .int _ => true | .str _ => true
  | _ => false
def eqF : D → D → Bool
  | .non, .non => true
  | .bl a, .bl b => a == b
  | .bl a, .int j => (if a then 1 else 0) == j
  | .int i, .bl b => i == (if b then 1 else 0)
  | .int i, .int j => i == j
  | .str x, .str y => x == y
  | _, _ => false
def inD (x : D) : D → Option Bool
  | .lst xs => if flatD x && xs.all flatD then some (xs.any fun y => eqF y x) else none
  | .tup xs => if flatD x && xs.all flatD then some (xs.any fun y => eqF y x) else none
  | .ktp xs => if flatD x && xs.all flatD then some (xs.any fun y => eqF y x) else none
  | .str z => match x with
    | .str y => some (!(Builtin.Str.occurrences z y 0 z.length 1).isEmpty)
    | _ => none
  | .dic ks vs => (keyD x).bind fun k => if ks.all (sameKind k) then some ((lookD ks vs k).isSome) else none
  | _ => none
def eInH (neg : Bool) (a : EX) (h : HX) : EX := fun ρ S => (a ρ S).bind fun p => (h ρ p.2).bind fun q => (Out.opt ((deref ρ q.2 q.1).bind (inD p.1))).bind fun b => .ok (.bl (if neg then !b else b), q.2)
theorem flatV_of {w : Wd} {g : Gh} {d : D} {v : V} (r : Rep w g d v) (f : flatD d = true) : flatV v = true := by
  cases d <;> first | (exact absurd (show false = true from f) Bool.false_ne_true) | skip
  · rw [rep_non] at r; subst r; rfl
  · rw [rep_bl] at r; subst r; rfl
  · rw [rep_int] at r; subst r; rfl
  · rw [rep_str] at r; subst r; rfl
theorem eqV_of {w : Wd} {g : Gh} {d d' : D} {v v' : V} (r : Rep w g d v) (f : flatD d = true) (r' : Rep w g d' v') (f' : flatD d' = true) : eqV v v' = eqF d d' := by
  cases d <;> first | (exact absurd (show false = true from f) Bool.false_ne_true) | skip
  all_goals (cases d' <;> first | (exact absurd (show false = true from f') Bool.false_ne_true) | skip)
  all_goals (simp only [Rep] at r r'; subst r r'; rfl)
theorem flatL_of {w : Wd} {g : Gh} : ∀ {ds : List D} {vs : List V}, RepL w g ds vs → ds.all flatD = true → vs.all flatV = true
  | [], _, r, _ => by rw [r.cases0]; rfl
  | d :: ds, _, r, h => by
    obtain ⟨v, l, rfl, q1, q2⟩ := r.cases
    rw [List.all_cons, Bool.and_eq_true] at h ⊢
    exact ⟨flatV_of q1 h.1, flatL_of q2 h.2⟩
theorem inL_of {w : Wd} {g : Gh} {x : D} {vx : V} (rx : Rep w g x vx) (fx : flatD x = true) : ∀ {ds : List D} {vs : List V}, RepL w g ds vs → ds.all flatD = true → inV vx vs = ds.any fun y => eqF y x
  | [], _, r, _ => by rw [r.cases0]; rfl
  | d :: ds, _, r, h => by
    obtain ⟨v, l, rfl, q1, q2⟩ := r.cases
    rw [List.all_cons, Bool.and_eq_true] at h
    show (eqV v vx || inV vx l) = (eqF d x || ds.any fun y => eqF y x)
    rw [eqV_of q1 h.1 rx fx, inL_of rx fx q2 h.2]

/-! an empty dict is one of either kind -/
theorem dkT {P : Program} {w : World} {H : Hp} {h : Heap} {a : Addr} (ok : HOk P w H h) (e : Rd H a (.dK [])) : (a == sysModules) = false ∧ h.DictOfH (tupleKind (mixKind P w)) a [] := by
  obtain ⟨_, hd, vs, rel, o, es, ep, h1, h2, h3, _, h5, _⟩ := dk_rd ok e
  cases rel
  refine ⟨hd, o, es, ep, h1, h2, h3, ?_, fun x hx => absurd hx (by simp), by simp⟩
  generalize es.toList = l at h5
  cases h5
  rfl
theorem dtK {P : Program} {w : World} {H : Hp} {h : Heap} {a : Addr} (ok : HOk P w H h) (e : Rd H a (.dT [])) : (a == sysModules) = false ∧ h.DictOf (mixKind P w) a [] := by
  obtain ⟨_, hd, vs, rel, o, es, ep, h1, h2, h3, h4, _⟩ := dt_rd ok e
  cases rel
  have e0 : es.toList = [] := h4
  refine ⟨hd, o, es, ep, h1, h2, h3, fun x hx => ?_, ?_, by simp⟩
  · have : x ∈ es.toList := by simpa using hx
    rw [e0] at this; cases this
  · rw [e0]; exact .nil
theorem d_in2 {pins : List (Addr × Obj)} {σ : St} {H : Hp} {s : Shared} {a : Addr} {y : V} {u : Value} {o : Option V} {A : Around} {E : Value → Shared → Prop} {Q : Value → Shared → Prop} (hu : A.units + 1 < cLine) (I : Inv X pins σ H s) (g : DGet2 H a y o) (ry : RelV y u)
    (h : ∀ s', Inv X pins σ H s' → Q (.bool o.isSome) s') : wpAny (model X.prog X.w) A (compareOp .In u (.ref a)) Q E s := by
  rcases g with g | ⟨⟨e, q, b, rfl, hb⟩ | ⟨e, k, rfl⟩, rfl⟩
  · exact d_in hu I g ry h
  · cases (show u = Value.ref b from ry)
    obtain ⟨hd, dd⟩ := dkT I.hok e
    exact wpAny_in_heap (tupleKind_room_in1 hu) (key_of I.hok hb) hd dd (h _ (I.tok _))
  · obtain ⟨hd, dd⟩ := dtK I.hok e
    exact wpAny_in_of (kV_is ry) hd dd.mapOf (h _ (I.tok _))
theorem d_notIn2 {pins : List (Addr × Obj)} {σ : St} {H : Hp} {s : Shared} {a : Addr} {y : V} {u : Value} {o : Option V} {A : Around} {E : Value → Shared → Prop} {Q : Value → Shared → Prop} (hu : A.units + 1 < cLine) (I : Inv X pins σ H s) (g : DGet2 H a y o) (ry : RelV y u)
    (h : ∀ s', Inv X pins σ H s' → Q (.bool (!o.isSome)) s') : wpAny (model X.prog X.w) A (compareOp .NotIn u (.ref a)) Q E s := by
  rcases g with g | ⟨⟨e, q, b, rfl, hb⟩ | ⟨e, k, rfl⟩, rfl⟩
  · exact d_notIn hu I g ry h
  · cases (show u = Value.ref b from ry)
    obtain ⟨hd, dd⟩ := dkT I.hok e
    exact wpAny_notIn_heap (tupleKind_room_in1 hu) (key_of I.hok hb) hd dd (h _ (I.tok _))
  · obtain ⟨hd, dd⟩ := dtK I.hok e
    exact wpAny_notIn_of (kV_is ry) hd dd.mapOf (h _ (I.tok _))
def inOp (neg : Bool) : CmpOp := if neg then .NotIn else .In
def rInD (w : Wd) (neg : Bool) : R2 := fun x y H Q => ∃ d dc b g S, SimS w g H S ∧ Rep w g d x ∧ Shown w g H dc y ∧ inD d dc = some b ∧ Q (.bl (if neg then !b else b)) H
theorem ok_in (hu : X.A.units + 1 < cLine) (neg : Bool) : OpR X (compareOp (inOp neg)) (rInD (wd X cl) neg) := by
  intro pins s σ H x y v u Q I rx ry h
  obtain ⟨d, dc, b, g, S, sim, r, sh, e, q⟩ := h
  have seq : ∀ {xs : List D} {p : Addr} {vs : List V}, y = .ref p → (SqL X.K H p vs ∨ SqT X.K H p vs) → RepL (wd X cl) g xs vs → (if (flatD d && xs.all flatD) = true then some (xs.any fun y => eqF y d) else none) = some b →
      wpAny (model X.prog X.w) X.A (compareOp (inOp neg) v u) (EP X pins σ Q) X.xe s := by
    intro xs p vs ey h l e
    subst ey
    split at e
    · rename_i z
      obtain ⟨z1, z2⟩ := Bool.and_eq_true_iff.mp z
      have e := Option.some.inj e
      have e2 := inL_of r z1 l z2
      cases neg with
      | true => exact op_notIn_seq pins s σ H _ _ v u Q I rx ry ⟨p, vs, rfl, h, flatV_of r z1, flatL_of l z2, by rw [if_pos rfl, e2, e]; exact q⟩
      | false => exact op_in_seq pins s σ H _ _ v u Q I rx ry ⟨p, vs, rfl, h, flatV_of r z1, flatL_of l z2, by rw [if_neg Bool.false_ne_true, e2, e]; exact q⟩
    · cases e
  unfold inD at e
  split at e
  · obtain ⟨a, vs, ey, h, l⟩ := sh
    exact seq ey (.inl (SqL.of h)) l e
  · obtain ⟨a, vs, ey, h, l⟩ := (rep_tup' (w := wd X cl) (g := g)).mp sh
    exact seq ey (.inr (sqT_sub sim.sub (SqT.of h))) l e
  · obtain ⟨a, vs, ey, h, l⟩ := (rep_ktp' (w := wd X cl) (g := g)).mp sh
    exact seq ey (.inr (sqT_sub sim.sub h)) l e
  · have sh := (rep_str (w := wd X cl) (g := g)).mp sh
    subst sh
    split at e
    · cases e
      rw [rep_str] at r
      subst r
      cases neg with
      | true => exact op_notin_str pins s σ H _ _ v u Q I rx ry ⟨_, _, rfl, rfl, q⟩
      | false => exact op_in_str pins s σ H _ _ v u Q I rx ry ⟨_, _, rfl, rfl, q⟩
    · cases e
  · rw [Option.bind_eq_some_iff] at e
    obtain ⟨k, e1, e⟩ := e
    split at e
    · rename_i hk
      cases e
      obtain ⟨a, vs, o, rfl, h1, h2, l⟩ := sh
      obtain rfl : u = Value.ref a := ry
      have z := dget_of sim h1 h2 l e1 r hk
      have fin : ∀ o : Option V, DGet2 H a x o → o.isSome = (lookD _ _ k).isSome → wpAny (model X.prog X.w) X.A (compareOp (inOp neg) v (.ref a)) (EP X pins σ Q) X.xe s := fun o g2 eo => by
        cases neg with
        | true => exact d_notIn2 hu I g2 rx fun s' I' => ⟨.bl (!o.isSome), H, I', rfl, by rw [eo]; exact q⟩
        | false => exact d_in2 hu I g2 rx fun s' I' => ⟨.bl o.isSome, H, I', rfl, by rw [eo]; exact q⟩
      split at z
      · rename_i d' ed
        obtain ⟨x', hx, _⟩ := z
        exact fin _ (.inl hx) (by rw [ed]; rfl)
      · rename_i ed
        exact fin _ z (by rw [ed]; rfl)
    · cases e
  · cases e
theorem rd_in {neg : Bool} {W : WX} {σ : St} {H : Hp} {Q : VK} (h : tX (wd X cl) W (RE (wd X cl)) (eInH neg da hb) σ H Q) :
    tOp (rInD (wd X cl) neg) (tX (wd X cl) W (RE (wd X cl)) da) (fun σ H Q => tX (wd X cl) W (RH (wd X cl) σ) hb σ H Q) σ H Q := by
  obtain ⟨ρ, S, g, sim, c⟩ := h
  exact Con.go sim c fun v H1 d1 S1 g1 e1 s1 f1 r1 c1 => Con.go s1 c1 fun u H2 hd S2 g2 e2 s2 f2 r2 c2 => by
    obtain ⟨k, e, c3⟩ := c2.opt
    rw [Option.bind_eq_some_iff] at e
    obtain ⟨dc, e3, e4⟩ := e
    exact ⟨d1, dc, k, g2, S2, s2.st, Rep.mono f2.le r1, shown_of s2 r2 e3, e4, Con.val c3 s2.st (rep_bl.mpr rfl)⟩
theorem ge_in (hu : X.A.units + 1 < cLine) (neg : Bool) (h1 : GE cl X a da) (h2 : GHd cl X b hb) (hm : behindInMarks (inOp neg) b = false) : GE cl X (.Compare a [inOp neg] [b] pos) (eInH neg da hb) := fun W tk =>
  PE.weak (pe_cmpR (ok_in (cl := cl) hu neg) (h1 W tk) (h2 W tk) hm) fun σ H Q h => rd_in h
theorem gt_in (hu : X.A.units + 1 < cLine) (neg : Bool) (h1 : GE cl X a da) (h2 : GHd cl X b hb) (hm : behindInMarks (inOp neg) b = false) : GT cl X (.Compare a [inOp neg] [b] pos) (bV (eInH neg da hb)) := fun W tk =>
  PT.weak (pt_cmpR (ok_in (cl := cl) hu neg) (h1 W tk) (h2 W tk) hm) fun σ H Q h => rd_in (rd_bV h)

/-! ### slices -/
def cutD (xs : List D) (lo hi : Option Int) : List D := (xs.drop (HT.sIx xs.length 0 lo)).take (HT.sIx xs.length xs.length hi - HT.sIx xs.length 0 lo)
def sliceD (lo hi : Option Int) : D → Option D
  | .lst xs => some (.lst (cutD xs lo hi))
  | .frl xs => some (.lst (cutD xs lo hi))
  | .tup xs => some (.tup (cutD xs lo hi))
  | _ => none
def oX (o : Option EX) : LEnv → Store → Out (Option Int × Store) := fun ρ S => match o with
  | none => .ok (none, S)
  | some e => (e ρ S).bind fun q => match q.1 with
    | .int i => Out.ok (some i, q.2)
    | _ => Out.stuck
def eSl (h : HX) (lo hi : Option EX) : EX := fun ρ S => (h ρ S).bind fun p => (oX lo ρ p.2).bind fun l => (oX hi ρ l.2).bind fun u =>
  (Out.opt ((deref ρ u.2 p.1).bind (sliceD l.1 u.1))).bind fun d => .ok (d, u.2)
def RO : Gh → Hp → Option Int → Option Int → Prop := fun _ _ a b => a = b
def GO (X : Cx) (e : Option Expr) (den : LEnv → Store → Out (Option Int × Store)) : Prop := ∀ W, Takes X W → PO X e (tX (wd X cl) W RO den)
theorem PO.weak {X : Cx} {e : Option Expr} {t t' : TO} (h : PO X e t) (k : ∀ σ H Q, t' σ H Q → t σ H Q) : PO X e t' := ⟨fun pins s σ H Q I q => h.run pins s σ H Q I (k _ _ _ q)⟩
theorem go_none : GO (cl := cl) X none (oX none) := fun W tk => PO.weak po_none fun σ H Q ⟨ρ, S, g, sim, c⟩ => Con.val c sim.st rfl
theorem go_some (h : GE cl X e da) : GO (cl := cl) X (some e) (oX (some da)) := fun W tk => PO.weak (po_some (h W tk)) fun σ H Q ⟨ρ, S, g, sim, c⟩ =>
  Con.go sim c fun v H1 d1 S1 g1 e1 s1 f1 r1 c1 => by
    cases d1 with
    | int i => exact ⟨i, rep_int.mp r1, Con.val c1 s1.st rfl⟩
    | _ => exact c1.elim
theorem cut_rep {w : Wd} {g : Gh} {ds : List D} {vs : List V} (r : RepL w g ds vs) (lo hi : Option Int) : RepL w g (cutD ds lo hi) (cutV vs lo hi) := by
  unfold cutD cutV
  rw [r.length]
  exact (r.drop _).take _
def rSlD (w : Wd) : V → Option Int → Option Int → Hp → VK → Prop := fun x lo hi H Q => ∃ dc d g S, SimS w g H S ∧ Shown w g H dc x ∧ sliceD lo hi dc = some d ∧ ∀ v g' H', SimS w g' H' S → Fr g H g' H' → Rep w g' d v → Q v H'
theorem ok_sl : SlR X (rSlD (wd X cl)) := by
  intro pins s σ H x v vl vu lo hi sl Q I rx hs pl pu h
  obtain ⟨dc, d, g, S, sim, sh, e, q⟩ := h
  unfold sliceD at e
  split at e
  · cases e
    obtain ⟨a, vs, rfl, h, l⟩ := sh
    refine sl_list pins s σ H _ v vl vu lo hi sl Q I rx hs pl pu ⟨a, vs, rfl, SqL.of h, fun p hp => ?_⟩
    obtain ⟨t, f⟩ := sim.put (u := .lst (cutV vs lo hi)) hp
    exact q _ _ _ t f (rep_lst f.le (cut_rep l lo hi))
  · cases e
    obtain ⟨a, vs, rfl, h, l⟩ := (rep_frl' (w := wd X cl) (g := g)).mp sh
    refine sl_list pins s σ H _ v vl vu lo hi sl Q I rx hs pl pu ⟨a, vs, rfl, sqL_sub sim.sub h, fun p hp => ?_⟩
    obtain ⟨t, f⟩ := sim.put (u := .lst (cutV vs lo hi)) hp
    exact q _ _ _ t f (rep_lst f.le (cut_rep l lo hi))
  · cases e
    have sh' : Rep (wd X cl) g (.tup _) x := sh
    obtain ⟨a, vs, rfl, h, l⟩ := (rep_tup' (w := wd X cl) (g := g)).mp sh
    refine sl_tupA pins s σ H _ v vl vu lo hi sl Q I rx hs pl pu ⟨a, vs, rfl, sqT_sub sim.sub (SqT.of h), fun z => ?_, fun _ p hp => ?_⟩
    · refine q _ g H sim .refl ?_
      have e : ∀ xs : List D, HT.sIx xs.length 0 lo = 0 ∧ HT.sIx xs.length xs.length hi = xs.length → cutD xs lo hi = xs := fun xs ⟨z1, z2⟩ => by
        unfold cutD; rw [z1, z2, List.drop_zero, Nat.sub_zero, List.take_length]
      rw [e _ (by rw [l.length]; exact z)]
      exact sh'
    · obtain ⟨t, f⟩ := sim.put (u := .tup (cutV vs lo hi)) hp
      exact q _ _ _ t f (rep_tup f.le (cut_rep l lo hi))
  · cases e
theorem ge_slice {lo hi : Option Expr} {dl dh : Option EX} {p2 : Pos} (h : GHd cl X a ha) (hl : GO (cl := cl) X lo (oX dl)) (hh : GO (cl := cl) X hi (oX dh)) : GE cl X (.Subscript a (.Slice lo hi none p2) pos) (eSl ha dl dh) := fun W tk =>
  PE.weak (pe_slice (ok_sl (cl := cl)) (h W tk) (hl W tk) (hh W tk)) fun σ H Q ⟨ρ, S, g, sim, c⟩ =>
    Con.go sim c fun v H1 hd S1 g1 e1 s1 f1 r1 c1 => Con.go s1 (den := oX dl) c1 fun u H2 l S2 g2 e2 s2 f2 r2 c2 => Con.go s2 (den := oX dh) c2 fun u' H3 l' S3 g3 e3 s3 f3 r3 c3 => by
      obtain ⟨d, e, c4⟩ := c3.opt
      rw [Option.bind_eq_some_iff] at e
      obtain ⟨dc, e4, e5⟩ := e
      have r2 : l = u := r2
      have r3 : l' = u' := r3
      subst r2 r3
      have r1' : RH (wd X cl) σ g3 H3 hd v := by
        cases hd with
        | d x => exact Rep.mono (f2.trans f3).le r1
        | own i => exact r1
      exact ⟨dc, d, g3, S3, s3.st, shown_of s3 r1' e4, e5, fun z g' H' s f r => c4 z g' H' s f r⟩
end
end GG
end

section
/-! G.H: statements: outcomes, the frame of a def, names set, if, while, return, expressions. -/
set_option linter.all false
set_option maxRecDepth 100000
namespace GG
open PySem L2

/-- a statement's outcome -/
inductive SOut where
  | nx (ρ : LEnv) (S : Store)
  | rt (d : D) (S : Store)
  | bk (ρ : LEnv) (S : Store)
  | ct (ρ : LEnv) (S : Store)
  | ex (c : Str) (fs : List (Str × D)) (ρ : LEnv) (S : Store)
  | stuck
abbrev SX := LEnv → Store → SOut
def SOut.seq (o : SOut) (k : SX) : SOut := match o with
  | .nx ρ S => k ρ S
  | o => o
@[simp] theorem SOut.seq_nx (ρ : LEnv) (S : Store) (k : SX) : (SOut.nx ρ S).seq k = k ρ S := rfl
@[simp] theorem SOut.seq_rt (d : D) (S : Store) (k : SX) : (SOut.rt d S).seq k = .rt d S := rfl
@[simp] theorem SOut.seq_bk (ρ : LEnv) (S : Store) (k : SX) : (SOut.bk ρ S).seq k = .bk ρ S := rfl
@[simp] theorem SOut.seq_ct (ρ : LEnv) (S : Store) (k : SX) : (SOut.ct ρ S).seq k = .ct ρ S := rfl
@[simp] theorem SOut.seq_ex (c : Str) (fs : List (Str × D)) (ρ : LEnv) (S : Store) (k : SX) : (SOut.ex c fs ρ S).seq k = .ex c fs ρ S := rfl
@[simp] theorem SOut.seq_stuck (k : SX) : (SOut.stuck).seq k = .stuck := rfl
/-- an expression within a statement -/
def Out.st {α : Type} (ρ : LEnv) (o : Out (α × Store)) (k : α → Store → SOut) : SOut := match o with
  | .ok p => k p.1 p.2
  | .exc c fs S => .ex c fs ρ S
  | .stuck => .stuck
@[simp] theorem Out.st_ok {α : Type} (ρ : LEnv) (p : α × Store) (k : α → Store → SOut) : (Out.ok p).st ρ k = k p.1 p.2 := rfl
@[simp] theorem Out.st_exc {α : Type} (ρ : LEnv) (c : Str) (fs : List (Str × D)) (S : Store) (k : α → Store → SOut) : (Out.exc c fs S).st ρ k = .ex c fs ρ S := rfl
@[simp] theorem Out.st_stuck {α : Type} (ρ : LEnv) (k : α → Store → SOut) : (Out.stuck).st ρ k = .stuck := rfl

/-- the entry of a def: its ghost, its heap, what was given to it -/
structure Bs where
  g : Gh
  H : Hp
  O : Addr → Prop
  /-- what the slot 0 owns all along -/
  fix : Option Addr
structure Out0 (B : Bs) (g : Gh) (H : Hp) : Prop where
  le : Le B.g g
  out : ∀ a u, B.H a = some u → B.g.F a = none → (∀ j, B.g.m j ≠ some a) → ¬ B.O a → H a = some u ∧ g.F a = none ∧ ∀ j, g.m j ≠ some a
  th : ∀ a u, B.H a = some u → ∃ u', H a = some u'
structure Outr (B : Bs) (g : Gh) (H : Hp) (ρ : LEnv) (σ : St) : Prop where
  o : Out0 B g H
  ow : ∀ (i : Nat) o a, ρ[i]? = some (Slot.own o) → σ[i]? = some (some (V.ref a)) → B.H a = none ∨ B.O a
  fx : ∀ p o, B.fix = some p → ρ[0]? = some (Slot.own o) → σ[0]? = some (some (V.ref p))
theorem Out0.fr {B : Bs} {g g' : Gh} {H H' : Hp} (o : Out0 B g H) (f : Fr g H g' H') : Out0 B g' H' := ⟨o.le.trans f.le, fun a u e1 e2 e3 e4 => by
  obtain ⟨h1, h2, h3⟩ := o.out a u e1 e2 e3 e4
  exact f.out a u h1 h2 h3, fun a u e => by
  obtain ⟨_, h⟩ := o.th a u e
  exact f.th a _ h⟩
theorem Outr.fr {B : Bs} {g g' : Gh} {H H' : Hp} {ρ : LEnv} {σ : St} (o : Outr B g H ρ σ) (f : Fr g H g' H') : Outr B g' H' ρ σ := ⟨o.o.fr f, o.ow, o.fx⟩
theorem Out0.toFr {g g' : Gh} {H H' : Hp} (o : Out0 ⟨g, H, fun _ => False, none⟩ g' H') : Fr g H g' H' := ⟨o.le, fun a u h f m => o.out a u h f m (fun z => z), o.th⟩
theorem Outr.set {B : Bs} {g : Gh} {H : Hp} {ρ : LEnv} {σ : St} (o : Outr B g H ρ σ) (i : Nat) (d : D) (v : Option V) : Outr B g H (ρ.set i (.val d)) (σ.set i v) := ⟨o.o, fun j u a e1 e2 => by
  by_cases hj : i = j
  · subst hj
    by_cases hl : i < ρ.length
    · rw [List.getElem?_set_self hl] at e1; cases e1
    · rw [List.getElem?_eq_none (by simpa using hl)] at e1; cases e1
  · rw [List.getElem?_set_ne hj] at e1 e2
    exact o.ow j u a e1 e2, fun p u e1 e2 => by
  by_cases hj : i = 0
  · subst hj
    by_cases hl : 0 < ρ.length
    · rw [List.getElem?_set_self hl] at e2; cases e2
    · rw [List.getElem?_eq_none (by simpa using hl)] at e2; cases e2
  · rw [List.getElem?_set_ne hj] at e2 ⊢
    exact o.fx p u e1 e2⟩
theorem Sim.set {w : Wd} {g : Gh} {H : Hp} {ρ : LEnv} {σ : St} {S : Store} (s : Sim w g H ρ σ S) (i : Nat) {d : D} {v : V} (r : Rep w g d v) : Sim w g H (ρ.set i (.val d)) (σ.set i (some v)) S where
  st := s.st
  len := by rw [List.length_set, List.length_set]; exact s.len
  val := fun j x e => by
    by_cases hj : i = j
    · subst hj
      by_cases hl : i < ρ.length
      · rw [List.getElem?_set_self hl] at e; cases e
        exact ⟨v, List.getElem?_set_self (by rw [← s.len]; exact hl), r⟩
      · rw [List.getElem?_eq_none (by simpa using hl)] at e; cases e
    · rw [List.getElem?_set_ne hj] at e ⊢
      exact s.val j x e
  own := fun j x e => by
    by_cases hj : i = j
    · subst hj
      by_cases hl : i < ρ.length
      · rw [List.getElem?_set_self hl] at e; cases e
      · rw [List.getElem?_eq_none (by simpa using hl)] at e; cases e
    · rw [List.getElem?_set_ne hj] at e ⊢
      exact s.own j x e
  apart := fun j k o u a e1 e2 e3 e4 => by
    have h1 : i ≠ j := fun z => by
      subst z
      by_cases hl : i < ρ.length
      · rw [List.getElem?_set_self hl] at e1; cases e1
      · rw [List.getElem?_eq_none (by simpa using hl)] at e1; cases e1
    have h2 : i ≠ k := fun z => by
      subst z
      by_cases hl : i < ρ.length
      · rw [List.getElem?_set_self hl] at e2; cases e2
      · rw [List.getElem?_eq_none (by simpa using hl)] at e2; cases e2
    rw [List.getElem?_set_ne h1] at e1 e3
    rw [List.getElem?_set_ne h2] at e2 e4
    exact s.apart j k o u a e1 e2 e3 e4
  xc := fun j e => by
    have h1 : i ≠ j := fun z => by
      subst z
      by_cases hl : i < ρ.length
      · rw [List.getElem?_set_self hl] at e; cases e
      · rw [List.getElem?_eq_none (by simpa using hl)] at e; cases e
    rw [List.getElem?_set_ne h1] at e ⊢
    exact s.xc j e

/-- what is wanted of a statement's outcome -/
def ConS (w : Wd) (W : WX) (B : Bs) (D : Ends) : SOut → Prop
  | .nx ρ S => ∀ σ g H, Sim w g H ρ σ S → Outr B g H ρ σ → D.nx σ H
  | .bk ρ S => ∀ σ g H, Sim w g H ρ σ S → Outr B g H ρ σ → D.bk σ H
  | .ct ρ S => ∀ σ g H, Sim w g H ρ σ S → Outr B g H ρ σ → D.ct σ H
  | .rt d S => ∀ v g H, SimS w g H S → Out0 B g H → Rep w g d v → D.rt v H
  | .ex c fs ρ S => ∀ C d σ g H, Sim w g H ρ σ S → Outr B g H ρ σ → w.mg c = some (.ref C) → XRep w g H d fs → W (.ref C) d σ H
  | .stuck => False
def tS (w : Wd) (W : WX) (den : SX) : TS := fun D σ H => ∃ ρ S g B, Sim w g H ρ σ S ∧ Outr B g H ρ σ ∧ ConS w W B D (den ρ S)
/-- what an expression's outcome wants, from what the statement wants -/
theorem ConS.go {w : Wd} {W : WX} {B : Bs} {D : Ends} {α β : Type} {R : Gh → Hp → α → β → Prop} {ρ : LEnv} {σ : St} {S : Store} {g : Gh} {H : Hp} {den : LEnv → Store → Out (α × Store)} {k : α → Store → SOut} {T : β → Hp → Prop}
    (sim : Sim w g H ρ σ S) (o : Outr B g H ρ σ) (c : ConS w W B D ((den ρ S).st ρ k))
    (h : ∀ b H1 a S1 g1, den ρ S = .ok (a, S1) → Sim w g1 H1 ρ σ S1 → Outr B g1 H1 ρ σ → Fr g H g1 H1 → R g1 H1 a b → ConS w W B D (k a S1) → T b H1) : tX w W R den σ H T := by
  refine ⟨ρ, S, g, sim, ?_⟩
  cases e : den ρ S with
  | ok p =>
    rw [e] at c
    exact fun b g' H' s f r => h b H' p.1 p.2 g' e (sim.fr f s) (o.fr f) f r c
  | exc x fs S' =>
    rw [e] at c
    exact fun C d g' H' s f m x => c C d σ g' H' (sim.fr f s) (o.fr f) m x
  | stuck => rw [e] at c; exact c
theorem Con.opt' {w : Wd} {W : WX} {B : Bs} {D : Ends} {α : Type} {o : Option α} {k : α → SOut} (c : ConS w W B D (match o with | some x => k x | none => .stuck)) : ∃ x, o = some x ∧ ConS w W B D (k x) := by
  cases o with
  | none => exact c.elim
  | some x => exact ⟨x, rfl, c⟩

variable (cl : Wp)
def GS (X : Cx) (s : Stmt) (den : SX) : Prop := ∀ W, Takes X W → PassesOwn (model X.prog X.w) X.A X.env X.xe → PS X s (tS (wd X cl) W den)
def GSs (X : Cx) (s : List Stmt) (den : SX) : Prop := ∀ W, Takes X W → PassesOwn (model X.prog X.w) X.A X.env X.xe → PSs X s (tS (wd X cl) W den)
theorem PS.weak {X : Cx} {e : Stmt} {t t' : TS} (h : PS X e t) (k : ∀ D σ H, t' D σ H → t D σ H) : PS X e t' := ⟨fun pins s σ H Q I q => h.run pins s σ H Q I (k _ _ _ q)⟩
theorem PSs.weak {X : Cx} {e : List Stmt} {t t' : TS} (h : PSs X e t) (k : ∀ D σ H, t' D σ H → t D σ H) : PSs X e t' := ⟨fun pins s σ H Q I q => h.run pins s σ H Q I (k _ _ _ q)⟩
def sNo : SX := fun _ _ => .stuck
def sNil : SX := fun ρ S => .nx ρ S
def sSeq (a b : SX) : SX := fun ρ S => (a ρ S).seq b
def sExpr (e : EX) : SX := fun ρ S => (e ρ S).st ρ fun _ S => .nx ρ S
def sRet (e : EX) : SX := fun ρ S => (e ρ S).st ρ fun d S => .rt d S
def sRetN : SX := fun _ S => .rt .non S
def sIf (c : BX) (a b : SX) : SX := fun ρ S => (c ρ S).st ρ fun k S => if k then a ρ S else b ρ S
def sBrk : SX := fun ρ S => .bk ρ S
def sCnt : SX := fun ρ S => .ct ρ S
def sSet (i : Nat) (e : EX) : SX := fun ρ S => (e ρ S).st ρ fun d S => .nx (ρ.set i (.val d)) S
section
variable {cl} {X : Cx} {a b c e : Expr} {es : List Expr} {da db dc : EX} {ta tb : BX} {pos : Pos} {st : Stmt} {ss ss' : List Stmt} {p q : SX}
theorem gs_no : GS cl X st sNo := fun W tk hp => PS.weak ps_never fun D σ H ⟨ρ, S, g, B, sim, o, c⟩ => c.elim
theorem gss_no : GSs cl X ss sNo := fun W tk hp => PSs.weak pss_never fun D σ H ⟨ρ, S, g, B, sim, o, c⟩ => c.elim
theorem gss_nil : GSs cl X [] sNil := fun W tk hp => PSs.weak pss_nil fun D σ H ⟨ρ, S, g, B, sim, o, c⟩ => c σ g H sim o
theorem gss_one (h : GS cl X st p) : GSs cl X [st] p := fun W tk hp => pss_one (h W tk hp)
theorem gss_cons (h : GS cl X st p) (hr : GSs cl X ss q) : GSs cl X (st :: ss) (sSeq p q) := fun W tk hp => PSs.weak (pss_cons (h W tk hp) (hr W tk hp)) fun D σ H ⟨ρ, S, g, B, sim, o, c⟩ => by
  refine ⟨ρ, S, g, B, sim, o, ?_⟩
  unfold sSeq at c
  cases e : p ρ S with
  | nx ρ' S' => rw [e] at c; exact fun σ g H s o => ⟨ρ', S', g, B, s, o, c⟩
  | _ => rw [e] at c; exact c
theorem gs_expr (h : GE cl X e da) (hs : swapsWith e none pos.line X.env = pure false) : GS cl X (.Expr e pos) (sExpr da) := fun W tk hp =>
  PS.weak (ps_expr (h W tk) hs) fun D σ H ⟨ρ, S, g, B, sim, o, c⟩ => ConS.go sim o c fun v H1 d S1 g1 e1 s1 o1 f1 r1 c1 => c1 σ g1 H1 s1 o1
theorem gs_doc {x : Str} {j : Nat} {p' : Pos} : GS cl X (.Expr (.Constant (.str x) j p') pos) sNil := fun W tk hp => PS.weak ps_doc fun D σ H ⟨ρ, S, g, B, sim, o, c⟩ => c σ g H sim o
theorem gs_pass : GS cl X (.Pass pos) sNil := fun W tk hp => PS.weak ps_pass fun D σ H ⟨ρ, S, g, B, sim, o, c⟩ => c σ g H sim o
theorem gs_brk : GS cl X (.Break pos) sBrk := fun W tk hp => PS.weak ps_break fun D σ H ⟨ρ, S, g, B, sim, o, c⟩ => c σ g H sim o
theorem gs_cnt : GS cl X (.Continue pos) sCnt := fun W tk hp => PS.weak ps_continue fun D σ H ⟨ρ, S, g, B, sim, o, c⟩ => c σ g H sim o
theorem gs_ret (h : GE cl X e da) : GS cl X (.Return (some e) pos) (sRet da) := fun W tk hp =>
  PS.weak (ps_ret (h W tk)) fun D σ H ⟨ρ, S, g, B, sim, o, c⟩ => ConS.go sim o c fun v H1 d S1 g1 e1 s1 o1 f1 r1 c1 => c1 v g1 H1 s1.st o1.o r1
theorem gs_retN : GS cl X (.Return none pos) sRetN := fun W tk hp => PS.weak ps_retN fun D σ H ⟨ρ, S, g, B, sim, o, c⟩ => c .non g H sim.st o.o (rep_non.mpr rfl)
theorem gs_if (hc : GT cl X c ta) (ha : GSs cl X ss p) (hb : GSs cl X ss' q) : GS cl X (.If c ss ss' pos) (sIf ta p q) := fun W tk hp =>
  PS.weak (ps_if (hc W tk) (ha W tk hp) (hb W tk hp)) fun D σ H ⟨ρ, S, g, B, sim, o, c⟩ => ConS.go sim o c fun k H1 k' S1 g1 e1 s1 o1 f1 r1 c1 => by
    have r1 : k' = k := r1
    subst r1
    cases k' with
    | true => exact ⟨ρ, S1, g1, B, s1, o1, c1⟩
    | false => exact ⟨ρ, S1, g1, B, s1, o1, c1⟩
theorem gs_set {i : Nat} {x : Str} {p' : Pos} (hN : X.N.Nodup) (hi : X.N[i]? = some x) (hx : Loc X.env.scope x) (h : GE cl X e da) (hs : swapsWith e (some (.Name x p')) pos.line X.env = pure false)
    (hf : X.fn x = true ∨ X.env.scope.names.lookup x = some .local) : GS cl X (.Assign [.Name x p'] e pos) (sSet i da) := fun W tk hp =>
  PS.weak (ps_set hN hi hx (h W tk) hs hf) fun D σ H ⟨ρ, S, g, B, sim, o, c⟩ => ConS.go sim o c fun v H1 d S1 g1 e1 s1 o1 f1 r1 c1 => c1 _ g1 H1 (s1.set i r1) (o1.set i d (some v))
end

/-! ### while -/
def SOut.loop (o : SOut) (k : SX) : SOut := match o with
  | .nx ρ S => k ρ S
  | .ct ρ S => k ρ S
  | .bk ρ S => .nx ρ S
  | o => o
@[simp] theorem SOut.loop_nx (ρ : LEnv) (S : Store) (k : SX) : (SOut.nx ρ S).loop k = k ρ S := rfl
@[simp] theorem SOut.loop_ct (ρ : LEnv) (S : Store) (k : SX) : (SOut.ct ρ S).loop k = k ρ S := rfl
@[simp] theorem SOut.loop_bk (ρ : LEnv) (S : Store) (k : SX) : (SOut.bk ρ S).loop k = .nx ρ S := rfl
@[simp] theorem SOut.loop_rt (d : D) (S : Store) (k : SX) : (SOut.rt d S).loop k = .rt d S := rfl
@[simp] theorem SOut.loop_ex (c : Str) (fs : List (Str × D)) (ρ : LEnv) (S : Store) (k : SX) : (SOut.ex c fs ρ S).loop k = .ex c fs ρ S := rfl
@[simp] theorem SOut.loop_stuck (k : SX) : (SOut.stuck).loop k = .stuck := rfl
def whileN (c : BX) (body : SX) : Nat → SX
  | 0 => fun _ _ => .stuck
  | n + 1 => fun ρ S => (c ρ S).st ρ fun k S => if k then (body ρ S).loop (whileN c body n) else .nx ρ S
theorem whileN_s {c : BX} {body : SX} {n : Nat} {ρ : LEnv} {S : Store} : whileN c body (n + 1) ρ S = (c ρ S).st ρ fun k S => if k then (body ρ S).loop (whileN c body n) else .nx ρ S := rfl
theorem whileN_up {c : BX} {body : SX} : ∀ {n : Nat} {ρ : LEnv} {S : Store}, whileN c body n ρ S ≠ .stuck → whileN c body (n + 1) ρ S = whileN c body n ρ S
  | 0, _, _, h => absurd rfl h
  | n + 1, ρ, S, h => by
    show (c ρ S).st ρ (fun k S => if k then (body ρ S).loop (whileN c body (n + 1)) else .nx ρ S) = (c ρ S).st ρ (fun k S => if k then (body ρ S).loop (whileN c body n) else .nx ρ S)
    have h : (c ρ S).st ρ (fun k S => if k then (body ρ S).loop (whileN c body n) else .nx ρ S) ≠ .stuck := h
    cases e : c ρ S with
    | ok p =>
      rw [e] at h
      simp only [Out.st_ok] at h ⊢
      split
      · rename_i hk
        rw [if_pos hk] at h
        cases e2 : body ρ p.2 with
        | nx ρ' S' => rw [e2] at h; exact whileN_up h
        | ct ρ' S' => rw [e2] at h; exact whileN_up h
        | _ => rfl
      · rfl
    | _ => rfl
theorem whileN_le {c : BX} {body : SX} {n m : Nat} {ρ : LEnv} {S : Store} (h : whileN c body n ρ S ≠ .stuck) (l : n ≤ m) : whileN c body m ρ S = whileN c body n ρ S := by
  induction l with
  | refl => rfl
  | step _ ih => rw [whileN_up (by rw [ih]; exact h), ih]
open Classical in
noncomputable def sWhile (c : BX) (body : SX) : SX := fun ρ S => if h : ∃ n, whileN c body n ρ S ≠ .stuck then whileN c body (choose h) ρ S else .stuck
theorem sWhile_of {c : BX} {body : SX} {n : Nat} {ρ : LEnv} {S : Store} (h : whileN c body n ρ S ≠ .stuck) : sWhile c body ρ S = whileN c body n ρ S := by
  have hh : ∃ n, whileN c body n ρ S ≠ .stuck := ⟨n, h⟩
  unfold sWhile
  rw [dif_pos hh]
  have h1 := Classical.choose_spec hh
  rcases Nat.le_total n (Classical.choose hh) with l | l
  · exact whileN_le h l
  · exact (whileN_le h1 l).symm
theorem sWhile_ex {c : BX} {body : SX} {ρ : LEnv} {S : Store} (h : sWhile c body ρ S ≠ .stuck) : ∃ n, sWhile c body ρ S = whileN c body n ρ S := by
  unfold sWhile at h ⊢
  split at h
  · rename_i hh
    rw [dif_pos hh]
    exact ⟨_, rfl⟩
  · exact absurd rfl h
/-- the loop's one turn -/
theorem sWhile_eq (c : BX) (body : SX) (ρ : LEnv) (S : Store) : sWhile c body ρ S = (c ρ S).st ρ fun k S => if k then (body ρ S).loop (sWhile c body) else .nx ρ S := by
  have key : ∀ r : SOut, r ≠ .stuck → ((∃ n, whileN c body n ρ S = r) ↔ ((c ρ S).st ρ fun k S => if k then (body ρ S).loop (sWhile c body) else .nx ρ S) = r) := by
    intro r hr
    have one : ∀ ρ' S', (∃ n, whileN c body n ρ' S' = r) ↔ sWhile c body ρ' S' = r := fun ρ' S' => ⟨fun ⟨n, e⟩ => by rw [sWhile_of (n := n) (by rw [e]; exact hr), e], fun e => by
      obtain ⟨n, h⟩ := sWhile_ex (c := c) (body := body) (ρ := ρ') (S := S') (by rw [e]; exact hr)
      exact ⟨n, h.symm.trans e⟩⟩
    cases e : c ρ S with
    | ok p =>
      simp only [Out.st_ok]
      by_cases hk : p.1 = true
      · have step : ∀ n, whileN c body (n + 1) ρ S = (body ρ p.2).loop (whileN c body n) := fun n => by
          rw [whileN_s, e]; simp only [Out.st_ok]; rw [if_pos hk]
        rw [if_pos hk]
        have pre : (∃ n, whileN c body n ρ S = r) ↔ ∃ n, (body ρ p.2).loop (whileN c body n) = r := ⟨fun ⟨n, h⟩ => by
          cases n with
          | zero => exact absurd h.symm hr
          | succ n => exact ⟨n, by rw [← step]; exact h⟩, fun ⟨n, h⟩ => ⟨n + 1, by rw [step]; exact h⟩⟩
        rw [pre]
        cases e2 : body ρ p.2 with
        | nx ρ' S' => exact one ρ' S'
        | ct ρ' S' => exact one ρ' S'
        | bk ρ' S' => exact ⟨fun ⟨_, h⟩ => h, fun h => ⟨0, h⟩⟩
        | rt d S' => exact ⟨fun ⟨_, h⟩ => h, fun h => ⟨0, h⟩⟩
        | ex x fs ρ' S' => exact ⟨fun ⟨_, h⟩ => h, fun h => ⟨0, h⟩⟩
        | stuck => exact ⟨fun ⟨_, h⟩ => h, fun h => ⟨0, h⟩⟩
      · rw [if_neg hk]
        refine ⟨fun ⟨n, h⟩ => ?_, fun h => ⟨1, ?_⟩⟩
        · cases n with
          | zero => exact absurd h.symm hr
          | succ n =>
            have h : (c ρ S).st ρ (fun k S => if k then (body ρ S).loop (whileN c body n) else .nx ρ S) = r := h
            rw [e] at h; simp only [Out.st_ok] at h; rw [if_neg hk] at h; exact h
        · show (c ρ S).st ρ (fun k S => if k then (body ρ S).loop (whileN c body 0) else .nx ρ S) = r
          rw [e]; simp only [Out.st_ok]; rw [if_neg hk]; exact h
    | exc x fs S' =>
      refine ⟨fun ⟨n, h⟩ => ?_, fun h => ⟨1, ?_⟩⟩
      · cases n with
        | zero => exact absurd h.symm hr
        | succ n =>
          have h : (c ρ S).st ρ (fun k S => if k then (body ρ S).loop (whileN c body n) else .nx ρ S) = r := h
          rw [e] at h; exact h
      · show (c ρ S).st ρ (fun k S => if k then (body ρ S).loop (whileN c body 0) else .nx ρ S) = r
        rw [e]; exact h
    | stuck =>
      refine ⟨fun ⟨n, h⟩ => ?_, fun h => absurd h.symm hr⟩
      cases n with
      | zero => exact absurd h.symm hr
      | succ n =>
        have h : (c ρ S).st ρ (fun k S => if k then (body ρ S).loop (whileN c body n) else .nx ρ S) = r := h
        rw [e] at h; exact absurd h.symm hr
  by_cases h1 : ((c ρ S).st ρ fun k S => if k then (body ρ S).loop (sWhile c body) else .nx ρ S) = .stuck
  · rw [h1]
    by_cases h2 : sWhile c body ρ S = .stuck
    · exact h2
    · obtain ⟨n, h3⟩ := sWhile_ex h2
      have := (key _ h2).mp ⟨n, h3.symm⟩
      rw [h1] at this; exact this.symm
  · obtain ⟨n, h⟩ := (key _ h1).mpr rfl
    rw [sWhile_of (n := n) (by rw [h]; exact h1), h]
theorem gs_while {cl : Wp} {X : Cx} {c : Expr} {ss : List Stmt} {pos : Pos} {tc : BX} {p : SX} (hc : GT cl X c tc) (hb : GSs cl X ss p) : GS cl X (.While c ss [] pos) (sWhile tc p) := fun W tk hp =>
  PS.weak (ps_while hp (hc W tk) (hb W tk hp)) fun D σ H ⟨ρ, S, g, B, sim, o, cs⟩ => by
    refine ⟨fun m σ H => ∃ ρ S g, Sim (wd X cl) g H ρ σ S ∧ Outr B g H ρ σ ∧ ConS (wd X cl) W B D (whileN tc p m ρ S), ?_, ?_⟩
    · have ns : sWhile tc p ρ S ≠ .stuck := fun z => by rw [z] at cs; exact cs
      obtain ⟨n, e⟩ := sWhile_ex ns
      rw [e] at cs
      exact ⟨n, ρ, S, g, sim, o, cs⟩
    · rintro m σ H ⟨ρ, S, g, sim, o, cs⟩
      cases m with
      | zero => exact cs.elim
      | succ m =>
        rw [whileN_s] at cs
        refine ConS.go sim o cs fun k H1 k' S1 g1 e1 s1 o1 f1 r1 c1 => ?_
        have r1 : k' = k := r1
        subst r1
        cases k' with
        | true =>
          rw [if_pos rfl] at c1 ⊢
          refine ⟨fun σ H => ∃ ρ S g, Sim (wd X cl) g H ρ σ S ∧ Outr B g H ρ σ ∧ ConS (wd X cl) W B D (whileN tc p m ρ S), fun σ' H' h => ⟨m, Nat.lt_succ_self m, h⟩, ρ, S1, g1, B, s1, o1, ?_⟩
          cases e2 : p ρ S1 with
          | nx ρ' S' => rw [e2] at c1; exact fun σ g H s o => ⟨ρ', S', g, s, o, c1⟩
          | ct ρ' S' => rw [e2] at c1; exact fun σ g H s o => ⟨ρ', S', g, s, o, c1⟩
          | _ => rw [e2] at c1; exact c1
        | false =>
          rw [if_neg Bool.false_ne_true] at c1 ⊢
          exact c1 σ g1 H1 s1 o1
end GG
end

section
/-! G.I: targets, what a loop walks, for. -/
set_option linter.all false
set_option maxRecDepth 100000
namespace GG
open PySem L2
open PyProof.Rows hiding St

/-! ### targets -/
abbrev NX := D → LEnv → Option LEnv
def gN (i : Nat) : NX := fun d ρ => some (ρ.set i (.val d))
def gAll : List NX → List D → LEnv → Option LEnv
  | [], [], ρ => some ρ
  | n :: ns, d :: ds, ρ => (n d ρ).bind (gAll ns ds)
  | _, _, _ => none
def gT (ns : List NX) : NX := fun d ρ => match d with
  | .tup ds => gAll ns ds ρ
  | .ktp ds => gAll ns ds ρ
  | _ => none
def gL (ns : List NX) : NX := fun d ρ => match d with
  | .lst ds => gAll ns ds ρ
  | .frl ds => gAll ns ds ρ
  | _ => none
/-- what a target's store keeps -/
structure Kept (vs : List Nat) (ρ ρ' : LEnv) (σ σ' : St) : Prop where
  len : σ'.length = σ.length
  out : ∀ i, i ∉ vs → σ'[i]? = σ[i]?
  own : ∀ (i : Nat) o, ρ'[i]? = some (Slot.own o) → ρ[i]? = some (Slot.own o) ∧ σ'[i]? = σ[i]?
theorem Kept.refl {vs : List Nat} {ρ : LEnv} {σ : St} : Kept vs ρ ρ σ σ := ⟨rfl, fun _ _ => rfl, fun _ _ h => ⟨h, rfl⟩⟩
theorem Kept.trans {vs us : List Nat} {ρ ρ1 ρ2 : LEnv} {σ σ1 σ2 : St} (a : Kept vs ρ ρ1 σ σ1) (b : Kept us ρ1 ρ2 σ1 σ2) : Kept (vs ++ us) ρ ρ2 σ σ2 :=
  ⟨b.len.trans a.len, fun i h => by
    rw [List.mem_append, not_or] at h
    exact (b.out i h.2).trans (a.out i h.1), fun i o h => by
    obtain ⟨h1, h2⟩ := b.own i o h
    obtain ⟨h3, h4⟩ := a.own i o h1
    exact ⟨h3, h2.trans h4⟩⟩
theorem Kept.outr {B : Bs} {g : Gh} {H : Hp} {vs : List Nat} {ρ ρ' : LEnv} {σ σ' : St} (k : Kept vs ρ ρ' σ σ') (o : Outr B g H ρ σ) : Outr B g H ρ' σ' := ⟨o.o, fun i u a e1 e2 => by
  obtain ⟨h1, h2⟩ := k.own i u e1
  exact o.ow i u a h1 (h2 ▸ e2), fun p u e1 e2 => by
  obtain ⟨h1, h2⟩ := k.own 0 u e2
  rw [h2]; exact o.fx p u e1 h1⟩
theorem wipe_get {σ : St} {i : Nat} : ∀ {vs : List Nat}, (wipe σ vs)[i]? = if i ∈ vs ∧ i < σ.length then some none else σ[i]?
  | [] => by simp [wipe]
  | v :: vs => by
    unfold wipe
    by_cases h : v = i
    · subst h
      by_cases hl : v < σ.length
      · rw [List.getElem?_set_self (by rw [wipe_length]; exact hl), if_pos ⟨List.mem_cons_self, hl⟩]
      · rw [List.getElem?_eq_none (by rw [List.length_set, wipe_length]; omega), if_neg (fun z => hl z.2), List.getElem?_eq_none (by omega)]
    · rw [List.getElem?_set_ne h, wipe_get (vs := vs)]
      by_cases hm : i ∈ vs ∧ i < σ.length
      · rw [if_pos hm, if_pos ⟨List.mem_cons_of_mem _ hm.1, hm.2⟩]
      · rw [if_neg hm, if_neg (fun z => hm ⟨(List.mem_cons.mp z.1).resolve_left (fun q => h q.symm), z.2⟩)]
theorem Kept.wipe {vs ws : List Nat} {ρ ρ' : LEnv} {σ σ' : St} (k : Kept vs ρ ρ' σ σ') (h : ∀ i ∈ vs, i ∈ ws) : L2.wipe σ' ws = L2.wipe σ ws := by
  apply List.ext_getElem?
  intro i
  rw [wipe_get, wipe_get, k.len]
  by_cases hm : i ∈ ws ∧ i < σ.length
  · rw [if_pos hm, if_pos hm]
  · rw [if_neg hm, if_neg hm]
    by_cases hl : i < σ.length
    · exact k.out i fun z => hm ⟨h i z, hl⟩
    · rw [List.getElem?_eq_none (by rw [k.len]; omega), List.getElem?_eq_none (by omega)]
def rN (w : Wd) (vs : List Nat) (den : NX) : TG := fun v σ H Q => ∃ d ρ S g ρ', Sim w g H ρ σ S ∧ Rep w g d v ∧ den d ρ = some ρ' ∧ ∀ σ', Sim w g H ρ' σ' S → Kept vs ρ ρ' σ σ' → Q σ' H
def rNs (w : Wd) (vs : List Nat) (dens : List NX) : TGs := fun us σ H Q => ∃ ds ρ S g ρ', Sim w g H ρ σ S ∧ RepL w g ds us ∧ gAll dens ds ρ = some ρ' ∧ ∀ σ', Sim w g H ρ' σ' S → Kept vs ρ ρ' σ σ' → Q σ' H
variable (cl : Wp)
def GN (X : Cx) (vs : List Nat) (tg : Expr) (den : NX) : Prop := PG X tg (rN (wd X cl) vs den)
def GNs (X : Cx) (vs : List Nat) (tg : List Expr) (dens : List NX) : Prop := PGs X tg (rNs (wd X cl) vs dens)
theorem PG.weak {X : Cx} {e : Expr} {t t' : TG} (h : PG X e t) (k : ∀ v σ H Q, t' v σ H Q → t v σ H Q) : PG X e t' := ⟨fun pins s σ H v u Q I r q => h.run pins s σ H v u Q I r (k _ _ _ _ q)⟩
theorem PGs.weak {X : Cx} {e : List Expr} {t t' : TGs} (h : PGs X e t) (k : ∀ v σ H Q, t' v σ H Q → t v σ H Q) : PGs X e t' := ⟨fun pins s σ H v u Q I r q => h.run pins s σ H v u Q I r (k _ _ _ _ q)⟩
section
variable {cl} {X : Cx} {pos : Pos} {e : Expr} {es : List Expr} {vs us : List Nat} {n : NX} {ns : List NX}
theorem gn_name {i : Nat} {x : Str} (hN : X.N.Nodup) (hi : X.N[i]? = some x) (hx : Loc X.env.scope x) (hf : X.fn x = true ∨ X.env.scope.names.lookup x = some .local) : GN cl X [i] (.Name x pos) (gN i) :=
  PG.weak (pg_name hN hi hx hf) fun v σ H Q ⟨d, ρ, S, g, ρ', sim, r, e, k⟩ => by
    cases e
    refine k _ (sim.set i r) ⟨by simp, fun j h => List.getElem?_set_ne fun z => h (by simp [z]), fun j o e => ?_⟩
    have hj : i ≠ j := fun z => by
      subst z
      by_cases hl : i < ρ.length
      · rw [List.getElem?_set_self hl] at e; cases e
      · rw [List.getElem?_eq_none (by simpa using hl)] at e; cases e
    rw [List.getElem?_set_ne hj] at e ⊢
    exact ⟨e, rfl⟩
theorem gns_nil : GNs cl X [] [] [] := PGs.weak pgs_nil fun v σ H Q ⟨ds, ρ, S, g, ρ', sim, r, e, k⟩ => by
  cases ds with
  | nil => cases e; exact ⟨r.cases0, k σ sim .refl⟩
  | cons d ds => cases e
theorem gns_cons (h : GN cl X vs e n) (hr : GNs cl X us es ns) (hs : (assignEach (e :: es) X.env).map (·.2) = assign e X.env :: (assignEach es X.env).map (·.2)) : GNs cl X (vs ++ us) (e :: es) (n :: ns) :=
  PGs.weak (pgs_cons h hr hs) fun v σ H Q ⟨ds, ρ, S, g, ρ', sim, r, e, k⟩ => by
    cases ds with
    | nil => cases e
    | cons d ds =>
      obtain ⟨v1, vr, rfl, q1, q2⟩ := r.cases
      have e : (n d ρ).bind (gAll ns ds) = some ρ' := e
      rw [Option.bind_eq_some_iff] at e
      obtain ⟨ρ1, e1, e2⟩ := e
      exact ⟨v1, vr, rfl, d, ρ, S, g, ρ1, sim, q1, e1, fun σ1 s1 k1 => ⟨ds, ρ1, S, g, ρ', s1, q2, e2, fun σ2 s2 k2 => k σ2 s2 (k1.trans k2)⟩⟩
theorem gAll_len : ∀ {ns : List NX} {ds : List D} {ρ ρ' : LEnv}, gAll ns ds ρ = some ρ' → ds.length = ns.length
  | [], [], _, _, _ => rfl
  | [], _ :: _, _, _, e => by cases e
  | _ :: _, [], _, _, e => by cases e
  | n :: ns, d :: ds, ρ, ρ', e => by
    have e : (n d ρ).bind (gAll ns ds) = some ρ' := e
    rw [Option.bind_eq_some_iff] at e
    obtain ⟨ρ1, _, e2⟩ := e
    simp [gAll_len e2]
theorem gn_tup {k : Nat} (hc : X.calm = true) (h : GNs cl X vs es ns) (hn : (assignEach es X.env).length = ns.length) (hst : (assignEach es X.env).findIdx? (·.1) = none) : GN cl X vs (.Tuple es k pos) (gT ns) :=
  PG.weak (pg_tup hc h hn hst) fun v σ H Q ⟨d, ρ, S, g, ρ', sim, r, e, k⟩ => by
    have key : ∀ ds, (∃ a vs, v = .ref a ∧ SqT X.K g.F a vs ∧ RepL (wd X cl) g ds vs) → gAll ns ds ρ = some ρ' → L2.gTup X.K ns.length (rNs (wd X cl) vs ns) v σ H Q := fun ds ⟨a, vs, ev, q, l⟩ e =>
      ⟨a, vs, ev, sqT_sub sim.st.sub q, by rw [← l.length]; exact gAll_len e, ds, ρ, S, g, ρ', sim, l, e, k⟩
    cases d with
    | tup ds =>
      rw [rep_tup'] at r
      obtain ⟨a, vs, ev, q, l⟩ := r
      exact key ds ⟨a, vs, ev, SqT.of q, l⟩ e
    | ktp ds =>
      rw [rep_ktp'] at r
      exact key ds r e
    | _ => cases e
theorem gn_lst {k : Nat} (hc : X.calm = true) (h : GNs cl X vs es ns) (hn : (assignEach es X.env).length = ns.length) (hst : (assignEach es X.env).findIdx? (·.1) = none) : GN cl X vs (.Tuple es k pos) (gL ns) :=
  PG.weak (pg_lst hc h hn hst) fun v σ H Q ⟨d, ρ, S, g, ρ', sim, r, e, k⟩ => by
    have key : ∀ ds, (∃ a vs, v = .ref a ∧ SqL X.K g.F a vs ∧ RepL (wd X cl) g ds vs) → gAll ns ds ρ = some ρ' → L2.gLst X.K ns.length (rNs (wd X cl) vs ns) v σ H Q := fun ds ⟨a, vs, ev, q, l⟩ e =>
      ⟨a, vs, ev, sqL_sub sim.st.sub q, by rw [← l.length]; exact gAll_len e, ds, ρ, S, g, ρ', sim, l, e, k⟩
    cases d with
    | lst ds =>
      rw [rep_lst'] at r
      obtain ⟨a, vs, ev, q, l⟩ := r
      exact key ds ⟨a, vs, ev, SqL.of q, l⟩ e
    | frl ds =>
      rw [rep_frl'] at r
      exact key ds r e
    | _ => cases e
end

/-! ### what is walked -/
abbrev IX := LEnv → Store → Out (List D × Store)
structure ItD (w : Wd) (g : Gh) (items : List D) (J : It) : Prop where
  sz : items.length ≤ sizeLine
  go : ∀ (g1 : Gh) (H1 : Hp) (S1 : Store), Le g g1 → SimS w g1 H1 S1 → ∀ i, i < items.length → J.go i H1 ∧ ∀ x H', J.yld i H1 x H' → ∃ g2 d, items[i]? = some d ∧ Rep w g2 d x ∧ SimS w g2 H' S1 ∧ GG.Fr g1 H1 g2 H'
  done : ∀ (g1 : Gh) (H1 : Hp) (S1 : Store), Le g g1 → SimS w g1 H1 S1 → J.stop items.length H1
def RI (w : Wd) : Gh → Hp → List D → It → Prop := fun g _ items J => ItD w g items J
def GI (X : Cx) (tg iter : Expr) (den : IX) : Prop := ∀ W, Takes X W → PI X tg iter (tX (wd X cl) W (RI (wd X cl)) den)
theorem PI.weak {X : Cx} {tg e : Expr} {t t' : TI} (h : PI X tg e t) (k : ∀ σ H Q, t' σ H Q → t σ H Q) : PI X tg e t' := ⟨fun pins s σ H Q I q => h.run pins s σ H Q I (k _ _ _ q)⟩

/-- a list or a tuple in the heap -/
inductive Sq where
  | L (a : Addr)
  | T (a : Addr)
def Sq.is (K : PySem.W.Frag) (H : Hp) : Sq → List V → Prop
  | .L a, xs => SqL K H a xs
  | .T a, xs => SqT K H a xs
def Sq.v : Sq → Value
  | .L a => .ref a
  | .T a => .ref a
def Sq.a : Sq → Addr
  | .L a => a
  | .T a => a
def Sq.arr (h : Heap) : Sq → Array Value → Prop
  | .L a, xs => h.IsList a xs
  | .T a, xs => h.IsTuple a xs
def Sq.it (h : Heap) (b : Addr) (i : Nat) : Sq → Prop
  | .L a => h.IsListIter b a i
  | .T a => h.IsTupleIter b a i
def Sq.o : Sq → Obj
  | .L a => { cls := .type "list_iterator", data := .fields #[.ref a, .int 0 0] }
  | .T a => { cls := .type "tuple_iterator", data := .fields #[.ref a, .int 0 0] }
theorem Sq.begins : ∀ (q : Sq) (xs : Array Value), PySem.Begins q.v q.o fun h => q.arr h xs
  | .L a, xs => PySem.begins_list a xs
  | .T a, xs => PySem.begins_tuple a xs
theorem Sq.draws {prog : Program} {w : World} {A : Around} (hh : A.handled = none) (b : Addr) : ∀ (q : Sq) (_ : q.a ≠ b) (xs : Array Value), Draws prog w A b [b, q.a] xs.size (fun i v => xs[i]? = some v) (fun i h => q.it h b i ∧ q.arr h xs)
  | .L a, n, xs => Draws.list hh b a n xs
  | .T a, n, xs => PySem.Draws.tuple hh b a n xs
theorem Sq.it_at {h h' : Heap} {b : Addr} {i : Nat} : ∀ {q : Sq}, q.it h b i → (∀ o, h.get? b = some o → h'.get? b = some o) → q.it h' b i
  | .L _, x, e => x.at e
  | .T _, x, e => x.at e
theorem Sq.it_obj {h : Heap} {b : Addr} {i : Nat} : ∀ {q : Sq}, q.it h b i → ∃ o vs, h.get? b = some o ∧ o.data = .fields vs
  | .L _, ⟨o, e, _, d⟩ => ⟨o, _, e, d⟩
  | .T _, ⟨o, e, _, d⟩ => ⟨o, _, e, d⟩
theorem Sq.it_new {h : Heap} {b : Addr} : ∀ {q : Sq}, h.get? b = some q.o → q.it h b 0
  | .L _, e => ⟨_, e, rfl, rfl⟩
  | .T _, e => ⟨_, e, rfl, rfl⟩
theorem Sq.get {X : Cx} {pins : List (Addr × Obj)} {σ : St} {H : Hp} {s : Shared} (I : Inv X pins σ H s) : ∀ {q : Sq} {xs : List V}, q.is X.K H xs → ∃ its : List Value, Vals xs its ∧ q.arr s.heap its.toArray ∧ xs.length ≤ sizeLine ∧ q.a < s.heap.objs.size
  | .L a, xs, h => by
    obtain ⟨its, rv, p, z⟩ := I.list h
    exact ⟨its, rv, p.isList, z, p.lt⟩
  | .T a, xs, h => by
    obtain ⟨its, rv, p, z⟩ := I.tuple h
    exact ⟨its, rv, p, z, p.lt⟩
def seqD : D → Option (List D)
  | .lst xs => some xs
  | .frl xs => some xs
  | .tup xs => some xs
  | .ktp xs => some xs
  | _ => none
theorem Sq.rep {w : Wd} {g : Gh} {d : D} {v : V} {ds : List D} (r : Rep w g d v) (e : seqD d = some ds) : ∃ q : Sq, ∃ vs, (∀ u, RelV v u → u = q.v) ∧ RepL w g ds vs ∧ ∀ g1 H1 S1, Le g g1 → SimS w g1 H1 S1 → q.is w.K H1 vs := by
  cases d <;> first | (cases e; done) | skip
  · cases e
    rw [rep_tup'] at r
    obtain ⟨a, vs, rfl, q, l⟩ := r
    exact ⟨.T a, vs, fun u h => h, l, fun g1 H1 S1 le s => sqT_sub s.sub (SqT.of (le.F _ _ q))⟩
  · cases e
    rw [rep_lst'] at r
    obtain ⟨a, vs, rfl, q, l⟩ := r
    exact ⟨.L a, vs, fun u h => h, l, fun g1 H1 S1 le s => sqL_sub s.sub (SqL.of (le.F _ _ q))⟩
  · cases e
    rw [rep_ktp'] at r
    obtain ⟨a, vs, rfl, q, l⟩ := r
    exact ⟨.T a, vs, fun u h => h, l, fun g1 H1 S1 le s => sqT_sub s.sub (sqT_mono le.F q)⟩
  · cases e
    rw [rep_frl'] at r
    obtain ⟨a, vs, rfl, q, l⟩ := r
    exact ⟨.L a, vs, fun u h => h, l, fun g1 H1 S1 le s => sqL_sub s.sub (sqL_mono le.F q)⟩
end GG
end

section
/-! G.I2: the walks: lists, tuples, texts, ranges, enumerate, zip. -/
set_option linter.all false
set_option maxRecDepth 100000
namespace GG
open PySem L2
open PyProof.Rows hiding St

/-! ### tuples that a walk makes -/
def ItT (K : PySem.W.Frag) (srcs : List (Sq × List V)) (n : Nat) (row : Nat → List V) : It :=
  ⟨fun i H => (∀ p ∈ srcs, p.1.is K H p.2) ∧ i < n, fun i H x H' => ∃ T, x = .ref T ∧ H T = none ∧ H' = upd H T (.tup (row i)), fun i H => (∀ p ∈ srcs, p.1.is K H p.2) ∧ i = n⟩
theorem turn_T {P : Program} {w : World} {K : PySem.W.Frag} {tg : Expr} {srcs : List (Sq × List V)} {n : Nat} {row : Nat → List V} {fp : List Addr} {it : Addr} {tn : Nat → Heap → Prop} (mem : it ∈ fp)
    (obj : ∀ i h, tn i h → ∀ b ∈ fp, ∃ o, h.get? b = some o ∧ ∀ v, o.data ≠ .cell v) (keep : ∀ i h h', tn i h → (∀ b ∈ fp, ∀ o, h.get? b = some o → h'.get? b = some o) → tn i h') (len : ∀ i, (row i).length ≤ sizeLine)
    (self : ∀ (A : Around) (i : Nat) (s : Shared) (Q : Value → Shared → Prop) (E : Value → Shared → Prop), tn i s.heap → Q (.ref it) s → wpAny (model P w) A (pyIter (.ref it)) Q E s)
    (core : ∀ (X : Cx) (pins : List (Addr × Obj)) (σ : L2.St) (H : Hp) (s : Shared) (i : Nat), X.prog = P → X.w = w → X.K = K → X.A.handled = none → Inv X pins σ H s → (∀ p ∈ srcs, p.1.is K H p.2) → tn i s.heap →
      ∃ (fp' wr : List Addr) (Y : Nat → Heap → Value → Heap → Prop) (Z : Nat → Heap → Prop), GoesN P w X.A tg it fp' wr n Y Z ∧ Z i s.heap ∧ (∀ b ∈ wr, b ∈ fp) ∧ (∀ j h, Z j h → tn j h) ∧
        ∀ h0 v h, i < n → Y i h0 v h → ∃ T vals, v = .ref T ∧ h0.objs.size ≤ T ∧ Vals (row i) vals ∧ h.IsTuple T vals.toArray) : Turn P w K tg (ItT K srcs n row) fp it tn where
  mem := mem
  obj := obj
  keep := keep
  self := self
  item := by
    intro X hP hw hK hc i pins s σ H E I hf st ⟨hs, hi⟩
    obtain ⟨fp', wr, Y, Z, W, z, sub, back, yy⟩ := core X pins σ H s i hP hw hK (I.ok.hd hc) I hs st
    subst hP hw hK
    refine W.goes i s _ E hi z fun v h' tk hY z' hk _ => ?_
    obtain ⟨T, vals, rfl, hT, rv, tup⟩ := yy _ _ _ hi hY
    have I1 : Inv X pins σ (upd H T (.tup (row i))) { s with heap := h', toks := tk } := I.turnedNew (ch := fp) (fun b o hb e => hk b o (fun q => hb (sub b q)) e) hf hT ⟨len i, vals, rv, tup⟩
    refine ⟨.ref T, _, I1, rfl, ⟨T, rfl, I.hok.fresh hT, rfl⟩, back _ _ z', fun b hb => ?_⟩
    obtain ⟨o, e, _⟩ := obj _ _ st b hb
    rw [upd_ne (Nat.ne_of_lt (Nat.lt_of_lt_of_le (Heap.lt_size e) hT))]
    exact (hf b hb).1
  done := by
    intro X hP hw hK hc i pins s σ H E I hf st ⟨hs, hi⟩
    obtain ⟨fp', wr, Y, Z, W, z, sub, back, yy⟩ := core X pins σ H s i hP hw hK (I.ok.hd hc) I hs st
    subst hP hw hK hi
    exact W.stops s _ E z fun h' tk hk _ => I.turnedL (ch := fp) (fun b o hb e => hk b o (fun q => hb (sub b q)) e) hf

/-! enumerate -/
theorem vals_getD {xs : List V} {its : List Value} {i : Nat} {u : Value} (r : Vals xs its) (e : its.toArray[i]? = some u) : RelV (xs.getD i .non) u := by
  have e : its[i]? = some u := by simpa using e
  have hi : i < xs.length := by rw [r.length]; exact (List.getElem?_eq_some_iff.mp e).1
  obtain ⟨u', h1, h2⟩ := r.get (List.getElem?_eq_getElem hi)
  rw [e] at h1; cases h1
  rw [List.getD_eq_getElem?_getD, List.getElem?_eq_getElem hi]
  exact h2
theorem two_line : 2 ≤ sizeLine := by rw [sizeLine_eq]; decide
theorem three_line : 3 ≤ sizeLine := by rw [sizeLine_eq]; decide
def rowE (xs : List V) (i : Nat) : List V := [.int (i : Nat), xs.getD i .non]
theorem turn_E {P : Program} {w : World} {K : PySem.W.Frag} {elts : List Expr} {kk : Nat} {tpos : Pos} {q : Sq} {xs : List V} {e it : Addr} (hne : e ≠ it) (h1 : q.a ≠ it) (h2 : q.a ≠ e) :
    Turn P w K (.Tuple elts kk tpos) (ItT K [(q, xs)] xs.length (rowE xs)) [e, it] e (fun i h => (∃ old, IsEnum h e it ((i : Nat) : Int) old) ∧ q.it h it i) :=
  turn_T (by simp) (fun i h ⟨⟨old, he⟩, hi⟩ b hb => by
      obtain ⟨o, vs, e1, e2⟩ := Sq.it_obj hi
      have e' : b = e ∨ b = it := by simpa using hb
      rcases e' with z | z
      · rw [z]; exact ⟨_, he, fun v q => nomatch q⟩
      · rw [z]; exact ⟨o, e1, fun v q => by rw [e2] at q; cases q⟩)
    (fun i h h' ⟨⟨old, he⟩, hi⟩ k => ⟨⟨old, k e (by simp) _ he⟩, Sq.it_at hi fun o q => k it (by simp) o q⟩) (fun _ => two_line)
    (fun A i s Q E ⟨⟨_, he⟩, _⟩ h => wpAny_pyIter_enum he h)
    fun X pins σ H s i hP hw hK hh I hs ⟨⟨old, he⟩, hi⟩ => by
      subst hP hw hK
      obtain ⟨its, rv, ar, _, _⟩ := Sq.get I (hs (q, xs) (by simp))
      have W := GoesN.enumFrom (elts := elts) (x1 := kk) (pos := tpos) 0 (Sq.draws (prog := X.prog) (w := X.w) (A := X.A.in1) hh it q h1 its.toArray) e hne (by simp [hne, Ne.symm h2]) (by simp)
      have hl : its.toArray.size = xs.length := by rw [rv.length]; simp
      rw [hl] at W
      refine ⟨_, _, _, _, W, ⟨⟨old, by rw [Int.zero_add]; exact he⟩, hi, ar⟩, fun b hb => hb, fun j h ⟨⟨o', z⟩, y, _⟩ => ⟨⟨o', by rw [Int.zero_add] at z; exact z⟩, y⟩, ?_⟩
      rintro h0 v h hi ⟨T, t, x, ev, hT, hx, tp⟩
      exact ⟨T, [_, x], ev, hT, .cons ⟨t, by rw [Int.zero_add]⟩ (.cons (vals_getD rv hx) .nil), tp⟩
theorem enum_new1 {v : Value} {o : Obj} {H : Heap → Prop} (B : PySem.Begins v o H) :
    Meets (Builtin.«enumerate.__new__» ⟨[.type "enumerate", v], []⟩) (fun _ R s => H s.heap ∧
      R (.ok (.ret (.ref (s.heap.push o).objs.size))) { s with heap := (s.heap.push o).push { cls := .type "enumerate", data := .fields #[.none, .bool false, .ref s.heap.objs.size, rawInt 0, .none, .none] } }) :=
  .of_wp fun prog w A R s h => by
    obtain ⟨hp, g, d, tk, os⟩ := s
    obtain ⟨h1, h⟩ := h
    have hsub := sub_enumerate
    have begun : ∀ {A' : Around} {E : Value → Shared → Prop} {Q : Value → Shared → Prop}, Q (.ref hp.objs.size) ⟨hp.push o, g, d, tk, os⟩ → wpAny (model prog w) A' (pyIter v) Q E ⟨hp, g, d, tk, os⟩ :=
      fun z => B.iter prog w _ _ ⟨hp, g, d, tk, os⟩ _ h1 z
    wp_walk using begun
    refine wpAny_stack_any fun st => wpAny_pure ?_
    split
    · rename_i c _ _ _ _ _
      cases (c == Value.type "enumerate") <;> (wp_walk using begun; exact ⟨_, rfl, h⟩)
    · wp_walk using begun
      exact ⟨_, rfl, h⟩
theorem enum_call1 {prog : Program} {w : World} {A : Around} {E : Value → Shared → Prop} {s : Shared} {v : Value} {o : Obj} {H : Heap → Prop} {Q : Value → Shared → Prop} (B : PySem.Begins v o H) (h1 : H s.heap)
    (h : ∀ h', IsEnum h' (s.heap.objs.size + 1) s.heap.objs.size 0 .none → h'.get? s.heap.objs.size = some o → (∀ b u, s.heap.get? b = some u → h'.get? b = some u) → Q (.ref (s.heap.objs.size + 1)) { s with heap := h' }) :
    wpAny (model prog w) A (call (.type "enumerate") [v]) Q E s := by
  refine callType_new F.called_enumerate (by decide) (F.typeCall_enumerate_1 v) (F.newCall_enumerate_1 v) (fun ob => F.args_object_init_2 ob v) F.entry_enumerate_new (enum_new1 B) ⟨h1, ?_⟩
  have hz : (s.heap.push o).objs.size = s.heap.objs.size + 1 := Heap.size_push ..
  show _ ∧ _
  rw [hz]
  have he : ((s.heap.push o).push { cls := .type "enumerate", data := .fields #[.none, .bool false, .ref s.heap.objs.size, rawInt 0, .none, .none] }).get? (s.heap.objs.size + 1) = some { cls := .type "enumerate", data := .fields #[.none, .bool false, .ref s.heap.objs.size, rawInt 0, .none, .none] } := by
    rw [← hz]; exact Heap.get?_push_size (s.heap.push o) rfl
  exact ⟨⟨_, he, rfl⟩, h _ he (Heap.get?_push_of_some _ (Heap.get?_push_size _ B.free)) fun b u x => Heap.get?_push_of_some _ (Heap.get?_push_of_some _ x)⟩

/-! zip -/
def rowZ (xs ys : List V) (i : Nat) : List V := [xs.getD i .non, ys.getD i .non]
theorem turn_Z {P : Program} {w : World} {K : PySem.W.Frag} {elts : List Expr} {kk : Nat} {tpos : Pos} {q1 q2 : Sq} {xs ys : List V} {N : Addr} (h1 : q1.a < N) (h2 : q2.a < N) :
    Turn P w K (.Tuple elts kk tpos) (ItT K [(q1, xs), (q2, ys)] (min xs.length ys.length) (rowZ xs ys)) [N + 4, N + 2, N + 3, N, N + 1] (N + 4)
      (fun i h => IsZip h (N + 4) (N + 2) (N + 3) .none ∧ IsTupOf2 h (N + 2) (.ref N) (.ref (N + 1)) ∧ (∃ a1 a2, IsTupOf2 h (N + 3) a1 a2) ∧ q1.it h N i ∧ q2.it h (N + 1) i) :=
  turn_T (by simp) (fun i h ⟨hz, hT, ⟨a1, a2, hO⟩, i1, i2⟩ b hb => by
      obtain ⟨o1, vs1, e1, d1⟩ := Sq.it_obj i1
      obtain ⟨o2, vs2, e2, d2⟩ := Sq.it_obj i2
      have e' : b = N + 4 ∨ b = N + 2 ∨ b = N + 3 ∨ b = N ∨ b = N + 1 := by simpa using hb
      rcases e' with z | z | z | z | z
      · rw [z]; exact ⟨_, hz, fun v q => nomatch q⟩
      · rw [z]; exact ⟨_, hT, fun v q => nomatch q⟩
      · rw [z]; exact ⟨_, hO, fun v q => nomatch q⟩
      · rw [z]; exact ⟨o1, e1, fun v q => by rw [d1] at q; cases q⟩
      · rw [z]; exact ⟨o2, e2, fun v q => by rw [d2] at q; cases q⟩)
    (fun i h h' ⟨hz, hT, ⟨a1, a2, hO⟩, i1, i2⟩ k => ⟨k _ (by simp) _ hz, k _ (by simp) _ hT, ⟨a1, a2, k _ (by simp) _ hO⟩, Sq.it_at i1 fun o q => k N (by simp) o q, Sq.it_at i2 fun o q => k (N + 1) (by simp) o q⟩) (fun _ => two_line)
    (fun A i s Q E st h => wpAny_pyIter_zip st.1 h)
    fun X pins σ H s i hP hw hK hh I hs ⟨hz, hT, hO, i1, i2⟩ => by
      subst hP hw hK
      obtain ⟨its, rv, ar, _, _⟩ := Sq.get I (hs (q1, xs) (by simp))
      obtain ⟨its2, rv2, ar2, _, _⟩ := Sq.get I (hs (q2, ys) (by simp))
      have b1 : ∀ b ∈ [q1.a], b < N := fun b hb => by have e : b = q1.a := by simpa using hb
                                                      rw [e]; exact h1
      have b2 : ∀ b ∈ [q2.a], b < N := fun b hb => by have e : b = q2.a := by simpa using hb
                                                      rw [e]; exact h2
      have W := GoesN.zip2 (elts := elts) (x1 := kk) (pos := tpos) (zip_sep2 (N := N) b1 b2) (Sq.draws (prog := X.prog) (w := X.w) (A := X.A.in1) hh N q1 (Nat.ne_of_lt h1) its.toArray)
        (Sq.draws (prog := X.prog) (w := X.w) (A := X.A.in1) hh (N + 1) q2 (Nat.ne_of_lt (Nat.lt_succ_of_lt h2)) its2.toArray)
      have hl : its.toArray.size = xs.length := by rw [rv.length]; simp
      have hl2 : its2.toArray.size = ys.length := by rw [rv2.length]; simp
      rw [hl, hl2] at W
      refine ⟨_, _, _, _, W, ⟨hz, hT, hO, ⟨i1, ar⟩, ⟨i2, ar2⟩⟩, fun b hb => ?_, fun j h ⟨z1, z2, z3, z4, z5⟩ => ⟨z1, z2, z3, z4.1, z5.1⟩, ?_⟩
      · have e' : b = N + 4 ∨ b = N + 3 ∨ b = N ∨ b = N + 1 := by simpa using hb
        rcases e' with z | z | z | z <;> simp [z]
      rintro h0 v h hi ⟨T, x, y, ev, hT, hx, hy, tp⟩
      exact ⟨T, [x, y], ev, hT, .cons (vals_getD rv hx) (.cons (vals_getD rv2 hy) .nil), tp⟩
def rowZ3 (xs ys zs : List V) (i : Nat) : List V := [xs.getD i .non, ys.getD i .non, zs.getD i .non]
theorem turn_Z3 {P : Program} {w : World} {K : PySem.W.Frag} {elts : List Expr} {kk : Nat} {tpos : Pos} {q1 q2 q3 : Sq} {xs ys zs : List V} {N : Addr} (h1 : q1.a < N) (h2 : q2.a < N) (h3 : q3.a < N) :
    Turn P w K (.Tuple elts kk tpos) (ItT K [(q1, xs), (q2, ys), (q3, zs)] (min (min xs.length ys.length) zs.length) (rowZ3 xs ys zs)) [N + 5, N + 3, N + 4, N, N + 1, N + 2] (N + 5)
      (fun i h => IsZip h (N + 5) (N + 3) (N + 4) .none ∧ IsTupOf3 h (N + 3) (.ref N) (.ref (N + 1)) (.ref (N + 2)) ∧ (∃ a1 a2 a3, IsTupOf3 h (N + 4) a1 a2 a3) ∧ q1.it h N i ∧ q2.it h (N + 1) i ∧ q3.it h (N + 2) i) :=
  turn_T (by simp) (fun i h ⟨hz, hT, ⟨a1, a2, a3, hO⟩, i1, i2, i3⟩ b hb => by
      obtain ⟨o1, vs1, e1, d1⟩ := Sq.it_obj i1
      obtain ⟨o2, vs2, e2, d2⟩ := Sq.it_obj i2
      obtain ⟨o3, vs3, e3, d3⟩ := Sq.it_obj i3
      have e' : b = N + 5 ∨ b = N + 3 ∨ b = N + 4 ∨ b = N ∨ b = N + 1 ∨ b = N + 2 := by simpa using hb
      rcases e' with z | z | z | z | z | z
      · rw [z]; exact ⟨_, hz, fun v q => nomatch q⟩
      · rw [z]; exact ⟨_, hT, fun v q => nomatch q⟩
      · rw [z]; exact ⟨_, hO, fun v q => nomatch q⟩
      · rw [z]; exact ⟨o1, e1, fun v q => by rw [d1] at q; cases q⟩
      · rw [z]; exact ⟨o2, e2, fun v q => by rw [d2] at q; cases q⟩
      · rw [z]; exact ⟨o3, e3, fun v q => by rw [d3] at q; cases q⟩)
    (fun i h h' ⟨hz, hT, ⟨a1, a2, a3, hO⟩, i1, i2, i3⟩ k => ⟨k _ (by simp) _ hz, k _ (by simp) _ hT, ⟨a1, a2, a3, k _ (by simp) _ hO⟩, Sq.it_at i1 fun o q => k N (by simp) o q, Sq.it_at i2 fun o q => k (N + 1) (by simp) o q, Sq.it_at i3 fun o q => k (N + 2) (by simp) o q⟩) (fun _ => three_line)
    (fun A i s Q E st h => wpAny_pyIter_zip st.1 h)
    fun X pins σ H s i hP hw hK hh I hs ⟨hz, hT, hO, i1, i2, i3⟩ => by
      subst hP hw hK
      obtain ⟨its, rv, ar, _, _⟩ := Sq.get I (hs (q1, xs) (by simp))
      obtain ⟨its2, rv2, ar2, _, _⟩ := Sq.get I (hs (q2, ys) (by simp))
      obtain ⟨its3, rv3, ar3, _, _⟩ := Sq.get I (hs (q3, zs) (by simp))
      have b1 : ∀ b ∈ [q1.a], b < N := fun b hb => by have e : b = q1.a := by simpa using hb
                                                      rw [e]; exact h1
      have b2 : ∀ b ∈ [q2.a], b < N := fun b hb => by have e : b = q2.a := by simpa using hb
                                                      rw [e]; exact h2
      have b3 : ∀ b ∈ [q3.a], b < N := fun b hb => by have e : b = q3.a := by simpa using hb
                                                      rw [e]; exact h3
      have W := GoesN.zip3 (elts := elts) (x1 := kk) (pos := tpos) (zip_sep3 (N := N) b1 b2 b3) (Sq.draws (prog := X.prog) (w := X.w) (A := X.A.in1) hh N q1 (Nat.ne_of_lt h1) its.toArray)
        (Sq.draws (prog := X.prog) (w := X.w) (A := X.A.in1) hh (N + 1) q2 (Nat.ne_of_lt (Nat.lt_succ_of_lt h2)) its2.toArray)
        (Sq.draws (prog := X.prog) (w := X.w) (A := X.A.in1) hh (N + 2) q3 (Nat.ne_of_lt (Nat.lt_succ_of_lt (Nat.lt_succ_of_lt h3))) its3.toArray)
      have hl : its.toArray.size = xs.length := by rw [rv.length]; simp
      have hl2 : its2.toArray.size = ys.length := by rw [rv2.length]; simp
      have hl3 : its3.toArray.size = zs.length := by rw [rv3.length]; simp
      rw [hl, hl2, hl3] at W
      refine ⟨_, _, _, _, W, ⟨hz, hT, hO, ⟨i1, ar⟩, ⟨i2, ar2⟩, ⟨i3, ar3⟩⟩, fun b hb => ?_, fun j h ⟨z1, z2, z3, z4, z5, z6⟩ => ⟨z1, z2, z3, z4.1, z5.1, z6.1⟩, ?_⟩
      · have e' : b = N + 5 ∨ b = N + 4 ∨ b = N ∨ b = N + 1 ∨ b = N + 2 := by simpa using hb
        rcases e' with z | z | z | z | z <;> simp [z]
      rintro h0 v h hi ⟨T, x, y, u, ev, hT, hx, hy, hu, tp⟩
      exact ⟨T, [x, y, u], ev, hT, .cons (vals_getD rv hx) (.cons (vals_getD rv2 hy) (.cons (vals_getD rv3 hu) .nil)), tp⟩
end GG
end

section
/-! G.I3: what is walked, by data; for. -/
set_option linter.all false
set_option maxRecDepth 100000
namespace GG
open PySem L2
open PyProof.Rows hiding St

def charsD (z : Str) : List D := z.cps.toList.map fun c => .str ⟨#[c]⟩
/-- the keys of a dict of ints and texts -/
def keysD : List KK → Option (List D)
  | [] => some []
  | .k (.inl i) :: ks => (keysD ks).map (.int i :: ·)
  | .k (.inr x) :: ks => (keysD ks).map (.str x :: ·)
  | .t _ :: _ => none
def walkD : D → Option (List D)
  | .dic ks _ => if ks.length ≤ sizeLine then keysD ks else none
  | .str z => if z.cps.size ≤ sizeLine then some (charsD z) else none
  | d => seqD d
def iS (e : EX) : IX := fun ρ S => (e ρ S).bind fun p => (Out.opt (walkD p.1)).bind fun xs => .ok (xs, p.2)
def iEn (e : EX) : IX := fun ρ S => (e ρ S).bind fun p => (Out.opt (seqD p.1)).bind fun xs => .ok (xs.zipIdx.map fun q => .tup [.int (q.2 : Nat), q.1], p.2)
def iZ (a b : EX) : IX := fun ρ S => (a ρ S).bind fun p => (b ρ p.2).bind fun q => (Out.opt (seqD p.1)).bind fun xs => (Out.opt (seqD q.1)).bind fun ys => .ok ((xs.zip ys).map fun q => .tup [q.1, q.2], q.2)
def iZ3 (a b c : EX) : IX := fun ρ S => (a ρ S).bind fun p => (b ρ p.2).bind fun q => (c ρ q.2).bind fun r => (Out.opt (seqD p.1)).bind fun xs => (Out.opt (seqD q.1)).bind fun ys => (Out.opt (seqD r.1)).bind fun zs =>
  .ok ((xs.zip (ys.zip zs)).map fun q => .tup [q.1, q.2.1, q.2.2], r.2)
def fitI (i : Int) : Bool := decide (-(2 ^ 62) ≤ i) && decide (i < 2 ^ 62)
def rngL (lo c : Int) (n : Nat) : List D := (List.range n).map fun i => .int (lo + (i : Nat) * c)
def rngD1 : List D → Option (List D)
  | [.int j] => if fitI j && szOk j.toNat then some (rngL 0 1 j.toNat) else none
  | _ => none
def rngD2 : List D → Option (List D)
  | [.int i, .int j] => if fitI i && fitI j && szOk (j - i).toNat then some (rngL i 1 (j - i).toNat) else none
  | _ => none
def rngD3 : List D → Option (List D)
  | [.int i, .int j, .int c] => if c == -1 && fitI i && fitI j && szOk (i - j).toNat then some (rngL i (-1) (i - j).toNat) else none
  | _ => none
def iR1 (a : AX) : IX := fun ρ S => (a ρ S).bind fun p => (Out.opt (rngD1 p.1)).bind fun xs => .ok (xs, p.2)
def iR2 (a : AX) : IX := fun ρ S => (a ρ S).bind fun p => (Out.opt (rngD2 p.1)).bind fun xs => .ok (xs, p.2)
def iR3 (a : AX) : IX := fun ρ S => (a ρ S).bind fun p => (Out.opt (rngD3 p.1)).bind fun xs => .ok (xs, p.2)

section
variable {cl : Wp} {X : Cx} {tg a b c e : Expr} {da db dc : EX} {pos : Pos}
/-- the source's own walk -/
def Sq.J (K : PySem.W.Frag) : Sq → It
  | .L a => Itl K a
  | .T a => Itt K a
theorem Sq.itD {w : Wd} {g : Gh} {ds : List D} {vs : List V} {q : Sq} (l : RepL w g ds vs) (h : ∀ g1 H1 S1, Le g g1 → SimS w g1 H1 S1 → q.is w.K H1 vs) (z : vs.length ≤ sizeLine) : ItD w g ds (q.J w.K) := by
  refine ⟨by rw [l.length]; exact z, fun g1 H1 S1 le s i hi => ?_, fun g1 H1 S1 le s => ?_⟩
  · obtain ⟨v, e1, r1⟩ := l.get (List.getElem?_eq_getElem hi)
    cases q with
    | L a => exact ⟨⟨vs, v, h _ _ _ le s, e1⟩, fun x H' ⟨eH, hx⟩ => by
        have e2 := hx vs (h _ _ _ le s)
        rw [e1] at e2; cases e2
        rw [eH]
        exact ⟨g1, _, List.getElem?_eq_getElem hi, r1.mono le, s, .refl⟩⟩
    | T a => exact ⟨⟨vs, v, h _ _ _ le s, e1⟩, fun x H' ⟨eH, hx⟩ => by
        have e2 := hx vs (h _ _ _ le s)
        rw [e1] at e2; cases e2
        rw [eH]
        exact ⟨g1, _, List.getElem?_eq_getElem hi, r1.mono le, s, .refl⟩⟩
  · cases q with
    | L a => exact ⟨vs, h _ _ _ le s, by rw [l.length]; exact Nat.le_refl _⟩
    | T a => exact ⟨vs, h _ _ _ le s, by rw [l.length]; exact Nat.le_refl _⟩
theorem str_itD {w : Wd} {g : Gh} {z : Str} (hz : z.cps.size ≤ sizeLine) : ItD w g (charsD z) (Its z) := by
  have hl : (charsD z).length = z.cps.size := by simp [charsD]
  refine ⟨by rw [hl]; exact hz, fun g1 H1 S1 le s i hi => ⟨by rw [hl] at hi; exact hi, fun x H' ⟨eH, c, e1, e2⟩ => ?_⟩, fun g1 H1 S1 le s => by rw [hl]; exact Nat.le_refl _⟩
  rw [eH]
  refine ⟨g1, .str ⟨#[c]⟩, ?_, rep_str.mpr e2, s, .refl⟩
  unfold charsD
  rw [List.getElem?_map, Array.getElem?_toList, e1]; rfl
/-- a list, a tuple, a text -/
theorem keysD_inv : ∀ {l : List L2.Key} {xs : List D}, keysD (l.map KK.k) = some xs → xs.length = l.length ∧ ∀ (i : Nat) (k : L2.Key), l[i]? = some k → ∃ d, xs[i]? = some d ∧ ∀ (w : Wd) (g : Gh), Rep w g d (kV k)
  | [], xs, e => by cases e; exact ⟨rfl, fun i k h => by simp at h⟩
  | .inl j :: l, xs, e => by
    simp only [List.map_cons, keysD, Option.map_eq_some_iff] at e
    obtain ⟨r, e1, rfl⟩ := e
    obtain ⟨h1, h2⟩ := keysD_inv e1
    refine ⟨by simp [h1], fun i k h => ?_⟩
    cases i with
    | zero => simp at h; subst h; exact ⟨_, rfl, fun w g => rep_int.mpr rfl⟩
    | succ i => exact h2 i k (by simpa using h)
  | .inr j :: l, xs, e => by
    simp only [List.map_cons, keysD, Option.map_eq_some_iff] at e
    obtain ⟨r, e1, rfl⟩ := e
    obtain ⟨h1, h2⟩ := keysD_inv e1
    refine ⟨by simp [h1], fun i k h => ?_⟩
    cases i with
    | zero => simp at h; subst h; exact ⟨_, rfl, fun w g => rep_str.mpr rfl⟩
    | succ i => exact h2 i k (by simpa using h)
theorem dic_itD {w : Wd} {g : Gh} {d : Addr} {o : Obj} {l : List L2.Key} {vs : List V} {xs : List D} (hl : l.length = vs.length) (hz : l.length ≤ sizeLine) (e : keysD (l.map KK.k) = some xs) (hF : g.F d = some (.frz o (.dK (l.zip vs)))) : ItD w g xs (Itk d o (l.zip vs)) := by
  obtain ⟨h1, h2⟩ := keysD_inv e
  have lz : (l.zip vs).length = l.length := by rw [List.length_zip]; omega
  refine ⟨by rw [h1]; exact hz, fun g1 H1 S1 le s i hi => ?_, fun g1 H1 S1 le s => ⟨sub_lst s.sub (fun z => z) (le.F _ _ hF), by rw [h1, lz]; exact Nat.le_refl _⟩⟩
  rw [h1] at hi
  refine ⟨⟨sub_lst s.sub (fun z => z) (le.F _ _ hF), by rw [lz]; exact hi⟩, fun x H' ⟨eH, k, v, e1, e2⟩ => ?_⟩
  rw [eH]
  have e3 : l[i]? = some k := by
    have := congrArg (Option.map Prod.fst) e1
    rw [← List.getElem?_map, List.map_fst_zip (by omega)] at this
    simpa using this
  obtain ⟨y, e4, r⟩ := h2 i k e3
  exact ⟨g1, y, e4, by rw [e2]; exact r w g1, s, .refl⟩
def iAny (K : PySem.W.Frag) (tl : TE) : TI := fun σ H R => tl σ H fun x H1 => (∃ (q : Sq) (xs : List V), (∀ u, RelV x u → u = q.v) ∧ q.is K H1 xs ∧ (xs.length ≤ sizeLine → R (q.J K) H1)) ∨ (∃ z, x = .str z ∧ R (Its z) H1) ∨ ∃ d o kvs, x = .ref d ∧ H1 d = some (.frz o (.dK kvs)) ∧ R (Itk d o kvs) H1
theorem pi_any {l : Expr} {tl : TE} (hl : PE X l tl) : PI X tg l (iAny X.K tl) := by
  refine ⟨fun pins s σ H R I h => ?_⟩
  refine thn (hl.run pins s σ H _ I h) fun v s1 ⟨x, H1, I1, r1, q1⟩ => ?_
  rcases q1 with ⟨q, xs, ev, hq, hR⟩ | ⟨z, rfl, hR⟩ | ⟨d, o, kvs, rfl, hd, hR⟩
  · obtain rfl := ev v r1
    obtain ⟨its, rv, ar, hz, _⟩ := Sq.get I1 hq
    cases q with
    | L a => exact wpAny_pyIter_list ar (pi_one (tk := s1.toks) I1 _ (turn_list a _) (Sq.it_new (q := .L a) (Heap.get?_push_size _ rfl)) (hR hz))
    | T a => exact wpAny_pyIter_tuple ar (pi_one (tk := s1.toks) I1 _ (turn_tuple a _) (Sq.it_new (q := .T a) (Heap.get?_push_size _ rfl)) (hR hz))
  · obtain ⟨t, rfl⟩ := r1
    cases hc : z.cps.all (· < 128)
    · exact wpAny_pyIter_wide hc (pi_one (tk := s1.toks) I1 _ (turn_str _ z t "str_iterator" (.inr rfl)) ⟨_, Heap.get?_push_size _ rfl, rfl, rfl⟩ hR)
    · exact wpAny_pyIter_ascii hc (pi_one (tk := s1.toks) I1 _ (turn_str _ z t "str_ascii_iterator" (.inl rfl)) ⟨_, Heap.get?_push_size _ rfl, rfl, rfl⟩ hR)
  · obtain rfl : v = Value.ref d := r1
    obtain ⟨hs, hgd, hx, es, ep, vs, hdt, hsz, kv, hm⟩ := I1.frzK hd
    refine iter_keys hs hgd hx hdt (pi_one (tk := s1.toks) I1 _ (turn_keys _ hdt) ⟨_, Heap.get?_push_size _ rfl, rfl, ?_⟩ hR)
    rw [hsz] <;> rfl
theorem gi_any (h : GE cl X e da) : GI cl X tg e (iS da) := fun W tk => PI.weak (pi_any (h W tk)) fun σ H Q ⟨ρ, S, g, sim, c⟩ =>
  Con.go sim c fun v H1 d1 S1 g1 e1 s1 f1 r1 c1 => by
    obtain ⟨xs, e, c2⟩ := c1.opt
    cases d1 with
    | str z =>
      unfold walkD at e
      dsimp only at e
      split at e
      · rename_i hz
        cases e
        exact .inr (.inl ⟨z, rep_str.mp r1, c2 _ g1 H1 s1.st .refl (str_itD hz)⟩)
      · cases e
    | dic ks ds =>
      unfold walkD at e
      dsimp only at e
      split at e
      · rename_i hz
        obtain ⟨a, vs, u, rfl, hF, ⟨kl, k⟩, rl⟩ := rep_dic'.mp r1
        rcases k with ⟨l, rfl, o, rfl⟩ | ⟨l, ln, rfl, rfl⟩
        · have hl : l.length = vs.length := by rw [← kl, List.length_map]
          exact .inr (.inr ⟨a, o, _, rfl, sub_lst s1.st.sub (fun z => z) hF, c2 _ g1 H1 s1.st .refl (dic_itD hl (by rw [List.length_map] at hz; exact hz) e hF)⟩)
        · cases l with
          | nil => exact absurd rfl ln
          | cons x l => cases e
      · cases e
    | _ =>
      obtain ⟨q, vs, ev, l, hq⟩ := Sq.rep r1 e
      exact .inl ⟨q, vs, ev, hq _ _ _ .refl s1.st, fun hz => c2 _ g1 H1 s1.st .refl (Sq.itD l hq hz)⟩

/-! ranges -/
theorem rngL_len {lo c : Int} {n : Nat} : (rngL lo c n).length = n := by simp [rngL]
theorem rngL_get {lo c : Int} {n i : Nat} (h : i < n) : (rngL lo c n)[i]? = some (.int (lo + (i : Nat) * c)) := by simp [rngL, h]
theorem rng_itD {w : Wd} {g : Gh} {lo c : Int} {n : Nat} (hz : n ≤ sizeLine) : ItD w g (rngL lo c n) (Itc lo c n) := by
  refine ⟨by rw [rngL_len]; exact hz, fun g1 H1 S1 le s i hi => ?_, fun g1 H1 S1 le s => by rw [rngL_len]; exact Nat.le_refl _⟩
  rw [rngL_len] at hi
  refine ⟨hi, fun x H' ⟨eH, ex⟩ => ?_⟩
  rw [eH]
  exact ⟨g1, _, rngL_get hi, rep_int.mpr ex, s, .refl⟩
theorem rng_itD1 {w : Wd} {g : Gh} {lo : Int} {n : Nat} (hz : n ≤ sizeLine) : ItD w g (rngL lo 1 n) (Itr lo n) := by
  refine ⟨by rw [rngL_len]; exact hz, fun g1 H1 S1 le s i hi => ?_, fun g1 H1 S1 le s => by rw [rngL_len]; exact Nat.le_refl _⟩
  rw [rngL_len] at hi
  refine ⟨hi, fun x H' ⟨eH, ex⟩ => ?_⟩
  rw [eH]
  exact ⟨g1, _, rngL_get hi, rep_int.mpr (by rw [ex, Int.mul_one]), s, .refl⟩
theorem fitI_iff {i : Int} (h : fitI i = true) : -(2 ^ 62) ≤ i ∧ i < 2 ^ 62 := by
  obtain ⟨h1, h2⟩ := Bool.and_eq_true_iff.mp h
  exact ⟨of_decide_eq_true h1, of_decide_eq_true h2⟩
theorem rngD1_inv {ds xs : List D} (e : rngD1 ds = some xs) : ∃ j, ds = [.int j] ∧ fitI j = true ∧ j.toNat ≤ sizeLine ∧ xs = rngL 0 1 j.toNat := by
  unfold rngD1 at e
  split at e
  · split at e
    · rename_i hz
      cases e
      obtain ⟨z1, z2⟩ := Bool.and_eq_true_iff.mp hz
      exact ⟨_, rfl, z1, of_decide_eq_true z2, rfl⟩
    · cases e
  · cases e
theorem rngD2_inv {ds xs : List D} (e : rngD2 ds = some xs) : ∃ i j, ds = [.int i, .int j] ∧ fitI i = true ∧ fitI j = true ∧ (j - i).toNat ≤ sizeLine ∧ xs = rngL i 1 (j - i).toNat := by
  unfold rngD2 at e
  split at e
  · split at e
    · rename_i hz
      cases e
      obtain ⟨z1, z2⟩ := Bool.and_eq_true_iff.mp hz
      obtain ⟨z0, z1⟩ := Bool.and_eq_true_iff.mp z1
      exact ⟨_, _, rfl, z0, z1, of_decide_eq_true z2, rfl⟩
    · cases e
  · cases e
theorem rngD3_inv {ds xs : List D} (e : rngD3 ds = some xs) : ∃ i j, ds = [.int i, .int j, .int (-1)] ∧ fitI i = true ∧ fitI j = true ∧ (i - j).toNat ≤ sizeLine ∧ xs = rngL i (-1) (i - j).toNat := by
  unfold rngD3 at e
  split at e
  · split at e
    · rename_i hz
      cases e
      obtain ⟨y1, y2⟩ := Bool.and_eq_true_iff.mp hz
      obtain ⟨y3, y4⟩ := Bool.and_eq_true_iff.mp y1
      obtain ⟨y5, y6⟩ := Bool.and_eq_true_iff.mp y3
      have zc := eq_of_beq y5
      subst zc
      exact ⟨_, _, rfl, y6, y4, of_decide_eq_true y2, rfl⟩
    · cases e
  · cases e
theorem gi_r1 {t : AX} {p : Pos} (hg : Gl X "range") (hm : X.mg "range" = none) (ha : GA cl X [a] t) (hs : starEach [a] X.env = [(false, eval a X.env)]) : GI cl X tg (.Call (.Name "range" p) [a] [] pos) (iR1 t) := fun W tk =>
  PI.weak (pi_range1 hg hm (ha W tk) hs) fun σ H Q ⟨ρ, S, g, sim, c⟩ => by
    refine (show tX (wd X cl) W (RA (wd X cl)) t σ H _ from Con.go sim c fun vs H1 ds S1 g1 e1 s1 f1 r1 c1 => ?_)
    obtain ⟨xs, e, c2⟩ := c1.opt
    obtain ⟨j, rfl, z1, z2, rfl⟩ := rngD1_inv e
    obtain ⟨v, r, rfl, q1, q2⟩ := RepL.cases r1
    rw [q2.cases0, rep_int.mp q1]
    obtain ⟨k1, k2⟩ := fitI_iff z1
    exact ⟨j, rfl, k1, k2, c2 _ g1 H1 s1.st .refl (rng_itD1 z2)⟩
theorem gi_r2 {t : AX} {p : Pos} (hg : Gl X "range") (hm : X.mg "range" = none) (ha : GA cl X [a, b] t) (hs : starEach [a, b] X.env = [(false, eval a X.env), (false, eval b X.env)]) (hs2 : starEach [b] X.env = [(false, eval b X.env)]) :
    GI cl X tg (.Call (.Name "range" p) [a, b] [] pos) (iR2 t) := fun W tk =>
  PI.weak (pi_range2 hg hm (ha W tk) hs hs2) fun σ H Q ⟨ρ, S, g, sim, c⟩ => by
    refine (show tX (wd X cl) W (RA (wd X cl)) t σ H _ from Con.go sim c fun vs H1 ds S1 g1 e1 s1 f1 r1 c1 => ?_)
    obtain ⟨xs, e, c2⟩ := c1.opt
    obtain ⟨i, j, rfl, z0, z1, z2, rfl⟩ := rngD2_inv e
    obtain ⟨v, r, rfl, q1, q2⟩ := RepL.cases r1
    obtain ⟨v', r', rfl, q3, q4⟩ := q2.cases
    rw [q4.cases0, rep_int.mp q1, rep_int.mp q3]
    obtain ⟨k1, k2⟩ := fitI_iff z0
    obtain ⟨k3, k4⟩ := fitI_iff z1
    exact ⟨i, j, rfl, ⟨k1, k2, k3, k4⟩, c2 _ g1 H1 s1.st .refl (rng_itD1 z2)⟩
theorem gi_r3 {t : AX} {p : Pos} (hg : Gl X "range") (hm : X.mg "range" = none) (ha : GA cl X [a, b, c] t) (hs : starEach [a, b, c] X.env = (false, eval a X.env) :: starEach [b, c] X.env) (hpl : (backTo pos (starEach [b, c] X.env)).any (·.1) = false) :
    GI cl X tg (.Call (.Name "range" p) [a, b, c] [] pos) (iR3 t) := fun W tk =>
  PI.weak (pi_range3 hg hm (ha W tk) hs hpl) fun σ H Q ⟨ρ, S, g, sim, c⟩ => by
    refine (show tX (wd X cl) W (RA (wd X cl)) t σ H _ from Con.go sim c fun vs H1 ds S1 g1 e1 s1 f1 r1 c1 => ?_)
    obtain ⟨xs, e, c2⟩ := c1.opt
    obtain ⟨i, j, rfl, z0, z1, z2, rfl⟩ := rngD3_inv e
    obtain ⟨v, r, rfl, q1, q2⟩ := RepL.cases r1
    obtain ⟨v', r', rfl, q3, q4⟩ := q2.cases
    obtain ⟨v'', r'', rfl, q5, q6⟩ := q4.cases
    rw [q6.cases0, rep_int.mp q1, rep_int.mp q3, rep_int.mp q5]
    obtain ⟨k1, k2⟩ := fitI_iff z0
    obtain ⟨k3, k4⟩ := fitI_iff z1
    exact ⟨i, j, -1, (i - j).toNat, rfl, RgC.neg k1 k2 k3 k4, c2 _ g1 H1 s1.st .refl (rng_itD z2)⟩

/-! enumerate, zip -/
theorem tup_itD {w : Wd} {g : Gh} {srcs : List (Sq × List V)} {n : Nat} {row : Nat → List V} {items : List (List D)} (hl : items.length = n) (hz : n ≤ sizeLine) (hs : ∀ g1 H1 S1, Le g g1 → SimS w g1 H1 S1 → ∀ p ∈ srcs, p.1.is w.K H1 p.2)
    (hr : ∀ i ds, items[i]? = some ds → RepL w g ds (row i)) : ItD w g (items.map .tup) (ItT w.K srcs n row) := by
  refine ⟨by rw [List.length_map, hl]; exact hz, fun g1 H1 S1 le s i hi => ?_, fun g1 H1 S1 le s => by rw [List.length_map]; exact ⟨hs _ _ _ le s, hl⟩⟩
  rw [List.length_map] at hi
  refine ⟨⟨hs _ _ _ le s, by rw [← hl]; exact hi⟩, fun x H' ⟨T, ex, hT, eH⟩ => ?_⟩
  subst ex eH
  obtain ⟨t, f⟩ := s.put (u := .tup (row i)) hT
  refine ⟨_, .tup items[i], by rw [List.getElem?_map, List.getElem?_eq_getElem hi]; rfl, ?_, t, f⟩
  exact rep_tup f.le ((hr i _ (List.getElem?_eq_getElem hi)).mono le)
theorem repL_getD {w : Wd} {g : Gh} {ds : List D} {vs : List V} {i : Nat} {d : D} (l : RepL w g ds vs) (e : ds[i]? = some d) : Rep w g d (vs.getD i .non) := by
  obtain ⟨v, h1, h2⟩ := l.get e
  rw [List.getD_eq_getElem?_getD, h1]
  exact h2
theorem zipIdx_get {α : Type} {xs : List α} {i : Nat} : xs.zipIdx[i]? = (xs[i]?).map fun x => (x, i) := by simp
def iEnA (K : PySem.W.Frag) (ta : TA) : TI := fun σ H R => ta σ H fun us H1 => ∃ (v : V) (q : Sq) (xs : List V), us = [v] ∧ (∀ u, RelV v u → u = q.v) ∧ q.is K H1 xs ∧ (xs.length ≤ sizeLine → R (ItT K [(q, xs)] xs.length (rowE xs)) H1)
theorem pi_enA {ta : TA} {p tpos : Pos} {elts : List Expr} {kk : Nat} (hg : Gl X "enumerate") (hm : X.mg "enumerate" = none) (ha : PA X [e] ta) (hs : starEach [e] X.env = [(false, eval e X.env)]) : PI X (.Tuple elts kk tpos) (.Call (.Name "enumerate" p) [e] [] pos) (iEnA X.K ta) := by
  refine ⟨fun pins s σ H R I h => ?_⟩
  refine Call_ (ld_blt I hg hm boot_enumerate (PyProof.Rows.callWith_type1 (thn (ha.run pos pins s σ H _ I h) fun us s1 ⟨vs, H1, I1, r1, v, q, xs, ex, ev, hq, hR⟩ => ?_) hs rfl))
  subst ex
  obtain ⟨u, rfl, ru⟩ := vals1 r1
  obtain rfl := ev u ru
  obtain ⟨its, rv, ar, hz, hlt⟩ := Sq.get I1 hq
  refine enum_call1 (q.begins its.toArray) ar fun h' he hi hk => wpAny_pyIter_enum he ?_
  have hne : s1.heap.objs.size + 1 ≠ s1.heap.objs.size := Nat.succ_ne_self _
  refine ⟨s1.heap.objs.size + 1, [s1.heap.objs.size + 1, s1.heap.objs.size], _, _, H1, rfl, I1.kept (t' := s1.toks) hk, turn_E (q := q) (xs := xs) hne (Nat.ne_of_lt hlt) (Nat.ne_of_lt (Nat.lt_succ_of_lt hlt)), ⟨⟨.none, he⟩, Sq.it_new hi⟩, fun b hb => ?_, hR hz⟩
  have hle : s1.heap.objs.size ≤ b := by
    have e' : b = s1.heap.objs.size + 1 ∨ b = s1.heap.objs.size := by simpa using hb
    rcases e' with z | z
    · rw [z]; exact Nat.le_succ _
    · rw [z]; exact Nat.le_refl _
  exact I1.fpOk hle (I1.hok.fresh hle)
theorem gi_en {p tpos : Pos} {elts : List Expr} {kk : Nat} (hg : Gl X "enumerate") (hm : X.mg "enumerate" = none) (h : GE cl X e da) (hs : starEach [e] X.env = [(false, eval e X.env)]) : GI cl X (.Tuple elts kk tpos) (.Call (.Name "enumerate" p) [e] [] pos) (iEn da) := fun W tk =>
  PI.weak (pi_enA hg hm (pa_cons (h W tk) pa_nil hs) hs) fun σ H Q ⟨ρ, S, g, sim, c⟩ =>
    Con.go sim c fun v H1 d1 S1 g1 e1 s1 f1 r1 c1 => by
      obtain ⟨xs, e, c2⟩ := c1.opt
      obtain ⟨q, vs, ev, l, hq⟩ := Sq.rep r1 e
      refine ⟨v, q, vs, rfl, ev, hq _ _ _ .refl s1.st, fun hz => c2 _ g1 H1 s1.st .refl ?_⟩
      have z := tup_itD (w := wd X cl) (g := g1) (srcs := [(q, vs)]) (n := vs.length) (row := rowE vs) (items := xs.zipIdx.map fun q => [.int (q.2 : Nat), q.1]) (by rw [List.length_map, List.length_zipIdx, l.length]) hz
        (fun g2 H2 S2 le s p hp => by
          have hp : p = (q, vs) := by simpa using hp
          rw [hp]; exact hq _ _ _ le s) (fun i ds e => by
          rw [List.getElem?_map, zipIdx_get] at e
          cases e2 : xs[i]? with
          | none => rw [e2] at e; cases e
          | some x =>
            rw [e2] at e
            cases e
            exact .cons (rep_int.mpr rfl) (.cons (repL_getD l e2) .nil))
      rw [List.map_map] at z
      exact z
def iZA (K : PySem.W.Frag) (ta : TA) : TI := fun σ H R => ta σ H fun us H1 => ∃ (v1 v2 : V) (q1 q2 : Sq) (xs ys : List V), us = [v1, v2] ∧ (∀ u, RelV v1 u → u = q1.v) ∧ (∀ u, RelV v2 u → u = q2.v) ∧ q1.is K H1 xs ∧ q2.is K H1 ys ∧
  (xs.length ≤ sizeLine → R (ItT K [(q1, xs), (q2, ys)] (min xs.length ys.length) (rowZ xs ys)) H1)
theorem pi_ZA {e2 : Expr} {ta : TA} {p tpos : Pos} {elts : List Expr} {kk : Nat} (hg : Gl X "zip") (hm : X.mg "zip" = none) (ha : PA X [e, e2] ta)
    (hs : starEach [e, e2] X.env = (false, eval e X.env) :: starEach [e2] X.env) (hpl : (backTo pos (starEach [e2] X.env)).any (·.1) = false) : PI X (.Tuple elts kk tpos) (.Call (.Name "zip" p) [e, e2] [] pos) (iZA X.K ta) := by
  refine ⟨fun pins s σ H R I h => ?_⟩
  refine Call_ (ld_blt I hg hm PyProof.Rows.boot_zip (PyProof.Rows.callWith_type1 (thn (ha.run pos pins s σ H _ I h) fun us s1 ⟨vs, H1, I1, r1, v1, v2, q1, q2, xs, ys, ex, ev1, ev2, hq1, hq2, hR⟩ => ?_) hs hpl))
  subst ex
  obtain ⟨u1, u2, rfl, ru1, ru2⟩ := vals2 r1
  obtain rfl := ev1 u1 ru1
  obtain rfl := ev2 u2 ru2
  obtain ⟨its, rv, ar, hz, hlt⟩ := Sq.get I1 hq1
  obtain ⟨its2, rv2, ar2, hz2, hlt2⟩ := Sq.get I1 hq2
  refine PySem.zip_begins2 (q1.begins its.toArray) (q2.begins its2.toArray) ar ar2 fun h' hz' hT hO h1 h2 _ hk => wpAny_pyIter_zip hz' ?_
  refine ⟨_, _, _, _, H1, rfl, I1.kept (t' := s1.toks) hk, turn_Z (q1 := q1) (q2 := q2) (xs := xs) (ys := ys) hlt hlt2, ⟨hz', hT, ⟨_, _, hO⟩, Sq.it_new h1, Sq.it_new h2⟩, fun b hb => ?_, hR hz⟩
  have hle : s1.heap.objs.size ≤ b := by
    have e' : b = s1.heap.objs.size + 4 ∨ b = s1.heap.objs.size + 2 ∨ b = s1.heap.objs.size + 3 ∨ b = s1.heap.objs.size ∨ b = s1.heap.objs.size + 1 := by simpa using hb
    rcases e' with z | z | z | z | z
    all_goals (rw [z]; first | exact Nat.le_refl _ | exact Nat.le_add_right _ _)
  exact I1.fpOk hle (I1.hok.fresh hle)
theorem gi_zip {p tpos : Pos} {elts : List Expr} {kk : Nat} (hg : Gl X "zip") (hm : X.mg "zip" = none) (h1 : GE cl X a da) (h2 : GE cl X b db) (hs : starEach [a, b] X.env = (false, eval a X.env) :: starEach [b] X.env)
    (hs2 : starEach [b] X.env = (false, eval b X.env) :: starEach [] X.env) (hpl : (backTo pos (starEach [b] X.env)).any (·.1) = false) : GI cl X (.Tuple elts kk tpos) (.Call (.Name "zip" p) [a, b] [] pos) (iZ da db) := fun W tk =>
  PI.weak (pi_ZA hg hm (pa_cons (h1 W tk) (pa_cons (h2 W tk) pa_nil hs2) hs) hs hpl) fun σ H Q ⟨ρ, S, g, sim, c⟩ =>
    Con.go sim c fun v H1 d1 S1 g1 e1 s1 f1 r1 c1 => Con.go s1 c1 fun v2 H2 d2 S2 g2 e2 s2 f2 r2 c2 => by
      obtain ⟨xs, ex, c3⟩ := c2.opt
      obtain ⟨ys, ey, c4⟩ := c3.opt
      obtain ⟨q1, vs1, ev1, l1, hq1⟩ := Sq.rep (Rep.mono f2.le r1) ex
      obtain ⟨q2, vs2, ev2, l2, hq2⟩ := Sq.rep r2 ey
      refine ⟨v, v2, q1, q2, vs1, vs2, rfl, ev1, ev2, hq1 _ _ _ .refl s2.st, hq2 _ _ _ .refl s2.st, fun hz => c4 _ g2 H2 s2.st .refl ?_⟩
      have z := tup_itD (w := wd X cl) (g := g2) (srcs := [(q1, vs1), (q2, vs2)]) (n := min vs1.length vs2.length) (row := rowZ vs1 vs2) (items := (xs.zip ys).map fun q => [q.1, q.2]) (by rw [List.length_map, List.length_zip, l1.length, l2.length]) (Nat.le_trans (Nat.min_le_left _ _) hz)
        (fun g2 H2 S2 le s p hp => by
          have hp : p = (q1, vs1) ∨ p = (q2, vs2) := by simpa using hp
          rcases hp with hp | hp
          · rw [hp]; exact hq1 _ _ _ le s
          · rw [hp]; exact hq2 _ _ _ le s) (fun i ds e => by
          rw [List.getElem?_map] at e
          cases e2 : (xs.zip ys)[i]? with
          | none => rw [e2] at e; cases e
          | some x =>
            rw [e2] at e
            cases e
            obtain ⟨k1, k2⟩ := List.getElem?_zip_eq_some.mp e2
            exact .cons (repL_getD l1 k1) (.cons (repL_getD l2 k2) .nil))
      rw [List.map_map] at z
      exact z
def iZA3 (K : PySem.W.Frag) (ta : TA) : TI := fun σ H R => ta σ H fun us H1 => ∃ (v1 v2 v3 : V) (q1 q2 q3 : Sq) (xs ys zs : List V), us = [v1, v2, v3] ∧ (∀ u, RelV v1 u → u = q1.v) ∧ (∀ u, RelV v2 u → u = q2.v) ∧ (∀ u, RelV v3 u → u = q3.v) ∧ q1.is K H1 xs ∧ q2.is K H1 ys ∧ q3.is K H1 zs ∧
  (xs.length ≤ sizeLine → R (ItT K [(q1, xs), (q2, ys), (q3, zs)] (min (min xs.length ys.length) zs.length) (rowZ3 xs ys zs)) H1)
theorem pi_ZA3 {e2 e3 : Expr} {ta : TA} {p tpos : Pos} {elts : List Expr} {kk : Nat} (hg : Gl X "zip") (hm : X.mg "zip" = none) (ha : PA X [e, e2, e3] ta)
    (hs : starEach [e, e2, e3] X.env = (false, eval e X.env) :: starEach [e2, e3] X.env) (hpl : (backTo pos (starEach [e2, e3] X.env)).any (·.1) = false) : PI X (.Tuple elts kk tpos) (.Call (.Name "zip" p) [e, e2, e3] [] pos) (iZA3 X.K ta) := by
  refine ⟨fun pins s σ H R I h => ?_⟩
  refine Call_ (ld_blt I hg hm PyProof.Rows.boot_zip (PyProof.Rows.callWith_type1 (thn (ha.run pos pins s σ H _ I h) fun us s1 ⟨vs, H1, I1, r1, v1, v2, v3, q1, q2, q3, xs, ys, zs, ex, ev1, ev2, ev3, hq1, hq2, hq3, hR⟩ => ?_) hs hpl))
  subst ex
  obtain ⟨u1, u2, u3, rfl, ru1, ru2, ru3⟩ : ∃ u1 u2 u3, us = [u1, u2, u3] ∧ RelV v1 u1 ∧ RelV v2 u2 ∧ RelV v3 u3 := by
    cases r1 with
    | cons r1 t1 => cases t1 with
      | cons r2 t2 => cases t2 with
        | cons r3 t3 => cases t3; exact ⟨_, _, _, rfl, r1, r2, r3⟩
  obtain rfl := ev1 u1 ru1
  obtain rfl := ev2 u2 ru2
  obtain rfl := ev3 u3 ru3
  obtain ⟨its, rv, ar, hz, hlt⟩ := Sq.get I1 hq1
  obtain ⟨its2, rv2, ar2, hz2, hlt2⟩ := Sq.get I1 hq2
  obtain ⟨its3, rv3, ar3, hz3, hlt3⟩ := Sq.get I1 hq3
  refine PySem.zip_begins3 (q1.begins its.toArray) (q2.begins its2.toArray) (q3.begins its3.toArray) ar ar2 ar3 fun h' hz' hT hO h1 h2 h3 _ hk => wpAny_pyIter_zip hz' ?_
  refine ⟨_, _, _, _, H1, rfl, I1.kept (t' := s1.toks) hk, turn_Z3 (q1 := q1) (q2 := q2) (q3 := q3) (xs := xs) (ys := ys) (zs := zs) hlt hlt2 hlt3, ⟨hz', hT, ⟨_, _, _, hO⟩, Sq.it_new h1, Sq.it_new h2, Sq.it_new h3⟩, fun b hb => ?_, hR hz⟩
  have hle : s1.heap.objs.size ≤ b := by
    have e' : b = s1.heap.objs.size + 5 ∨ b = s1.heap.objs.size + 3 ∨ b = s1.heap.objs.size + 4 ∨ b = s1.heap.objs.size ∨ b = s1.heap.objs.size + 1 ∨ b = s1.heap.objs.size + 2 := by simpa using hb
    rcases e' with z | z | z | z | z | z
    all_goals (rw [z]; first | exact Nat.le_refl _ | exact Nat.le_add_right _ _)
  exact I1.fpOk hle (I1.hok.fresh hle)
theorem gi_zip3 {p tpos : Pos} {elts : List Expr} {kk : Nat} (hg : Gl X "zip") (hm : X.mg "zip" = none) (h1 : GE cl X a da) (h2 : GE cl X b db) (h3 : GE cl X c dc) (hs : starEach [a, b, c] X.env = (false, eval a X.env) :: starEach [b, c] X.env)
    (hs2 : starEach [b, c] X.env = (false, eval b X.env) :: starEach [c] X.env) (hs3 : starEach [c] X.env = (false, eval c X.env) :: starEach [] X.env) (hpl : (backTo pos (starEach [b, c] X.env)).any (·.1) = false) : GI cl X (.Tuple elts kk tpos) (.Call (.Name "zip" p) [a, b, c] [] pos) (iZ3 da db dc) := fun W tk =>
  PI.weak (pi_ZA3 hg hm (pa_cons (h1 W tk) (pa_cons (h2 W tk) (pa_cons (h3 W tk) pa_nil hs3) hs2) hs) hs hpl) fun σ H Q ⟨ρ, S, g, sim, cc⟩ =>
    Con.go sim cc fun v H1 d1 S1 g1 e1 s1 f1 r1 c1 => Con.go s1 c1 fun v2 H2 d2 S2 g2 e2 s2 f2 r2 c2 => Con.go s2 c2 fun v3 H3 d3 S3 g3 e3 s3 f3 r3 c3 => by
      obtain ⟨xs, ex, c3⟩ := c3.opt
      obtain ⟨ys, ey, c3⟩ := c3.opt
      obtain ⟨zs, ez, c4⟩ := c3.opt
      obtain ⟨q1, vs1, ev1, l1, hq1⟩ := Sq.rep (Rep.mono (f2.trans f3).le r1) ex
      obtain ⟨q2, vs2, ev2, l2, hq2⟩ := Sq.rep (Rep.mono f3.le r2) ey
      obtain ⟨q3, vs3, ev3, l3, hq3⟩ := Sq.rep r3 ez
      refine ⟨v, v2, v3, q1, q2, q3, vs1, vs2, vs3, rfl, ev1, ev2, ev3, hq1 _ _ _ .refl s3.st, hq2 _ _ _ .refl s3.st, hq3 _ _ _ .refl s3.st, fun hz => c4 _ g3 H3 s3.st .refl ?_⟩
      have z := tup_itD (w := wd X cl) (g := g3) (srcs := [(q1, vs1), (q2, vs2), (q3, vs3)]) (n := min (min vs1.length vs2.length) vs3.length) (row := rowZ3 vs1 vs2 vs3) (items := (xs.zip (ys.zip zs)).map fun q => [q.1, q.2.1, q.2.2])
        (by rw [List.length_map, List.length_zip, List.length_zip, l1.length, l2.length, l3.length, Nat.min_assoc]) (Nat.le_trans (Nat.min_le_left _ _) (Nat.le_trans (Nat.min_le_left _ _) hz))
        (fun g2 H2 S2 le s p hp => by
          have hp : p = (q1, vs1) ∨ p = (q2, vs2) ∨ p = (q3, vs3) := by simpa using hp
          rcases hp with hp | hp | hp
          · rw [hp]; exact hq1 _ _ _ le s
          · rw [hp]; exact hq2 _ _ _ le s
          · rw [hp]; exact hq3 _ _ _ le s) (fun i ds e => by
          rw [List.getElem?_map] at e
          cases e2 : (xs.zip (ys.zip zs))[i]? with
          | none => rw [e2] at e; cases e
          | some x =>
            rw [e2] at e
            cases e
            obtain ⟨k1, k2⟩ := List.getElem?_zip_eq_some.mp e2
            obtain ⟨k2, k3⟩ := List.getElem?_zip_eq_some.mp k2
            exact .cons (repL_getD l1 k1) (.cons (repL_getD l2 k2) (.cons (repL_getD l3 k3) .nil)))
      rw [List.map_map] at z
      exact z

/-! ### for -/
/-- the entry of a part: what stands here -/
def Bs.here (B : Bs) (g : Gh) (H : Hp) (ρ : LEnv) (σ : St) : Bs := ⟨g, H, fun a => ∃ (i : Nat) (o : MO), ρ[i]? = some (Slot.own o) ∧ σ[i]? = some (some (V.ref a)), B.fix⟩
theorem Outr.self {B : Bs} {g : Gh} {H : Hp} {ρ : LEnv} {σ : St} (o : Outr B g H ρ σ) : Outr (B.here g H ρ σ) g H ρ σ := ⟨⟨.refl, fun _ _ h f m _ => ⟨h, f, m⟩, fun _ _ h => ⟨_, h⟩⟩, fun i o a e1 e2 => .inr ⟨i, o, e1, e2⟩, o.fx⟩
theorem Out0.back {B : Bs} {g g' : Gh} {H H' : Hp} {ρ : LEnv} {σ : St} (o : Outr B g H ρ σ) (p : Out0 (B.here g H ρ σ) g' H') : Out0 B g' H' := ⟨o.o.le.trans p.le, fun a u e1 e2 e3 e4 => by
  obtain ⟨h1, h2, h3⟩ := o.o.out a u e1 e2 e3 e4
  refine p.out a u h1 h2 h3 fun ⟨i, x, q1, q2⟩ => ?_
  rcases o.ow i x a q1 q2 with z | z
  · rw [e1] at z; cases z
  · exact e4 z, fun a u e => by
  obtain ⟨_, h⟩ := o.o.th a u e
  exact p.th a _ h⟩
theorem Outr.back {B : Bs} {g g' : Gh} {H H' : Hp} {ρ ρ' : LEnv} {σ σ' : St} (o : Outr B g H ρ σ) (p : Outr (B.here g H ρ σ) g' H' ρ' σ') : Outr B g' H' ρ' σ' := ⟨.back o p.o, fun i x a e1 e2 => by
  rcases p.ow i x a e1 e2 with z | ⟨j, y, q1, q2⟩
  · left
    cases e : B.H a with
    | none => rfl
    | some u =>
      obtain ⟨_, h⟩ := o.o.th a u e
      have z : H a = none := z
      rw [z] at h; cases h
  · exact o.ow j y a q1 q2, p.fx⟩
/-- an outcome, seen from here -/
theorem ConS.here {w : Wd} {W : WX} {B : Bs} {D D' : Ends} {g : Gh} {H : Hp} {ρ : LEnv} {σ : St} {o : SOut} (ou : Outr B g H ρ σ)
    (h : match o with
      | .nx ρ' S' => ∀ σ' g' H', Sim w g' H' ρ' σ' S' → Outr B g' H' ρ' σ' → Le g g' → D'.nx σ' H'
      | .ct ρ' S' => ∀ σ' g' H', Sim w g' H' ρ' σ' S' → Outr B g' H' ρ' σ' → Le g g' → D'.ct σ' H'
      | .bk ρ' S' => ∀ σ' g' H', Sim w g' H' ρ' σ' S' → Outr B g' H' ρ' σ' → Le g g' → D'.bk σ' H'
      | o => ConS w W B D o) (hr : D'.rt = D.rt) : ConS w W (B.here g H ρ σ) D' o := by
  cases o with
  | nx ρ' S' => exact fun σ' g' H' s p => h σ' g' H' s (ou.back p) p.o.le
  | ct ρ' S' => exact fun σ' g' H' s p => h σ' g' H' s (ou.back p) p.o.le
  | bk ρ' S' => exact fun σ' g' H' s p => h σ' g' H' s (ou.back p) p.o.le
  | rt d S' => exact fun v g' H' s p r => by rw [hr]; exact h v g' H' s (.back ou p) r
  | ex c fs ρ' S' => exact fun C d σ' g' H' s p => h C d σ' g' H' s (ou.back p)
  | stuck => exact h.elim
def forL (n : NX) (body : SX) : List D → SX
  | [], ρ, S => .nx ρ S
  | d :: ds, ρ, S => match n d ρ with
    | some ρ' => (body ρ' S).loop (forL n body ds)
    | none => .stuck
def sFor (it : IX) (n : NX) (body : SX) : SX := fun ρ S => (it ρ S).st ρ fun items S => forL n body items ρ S
theorem gs_for {it : Expr} {ss : List Stmt} {di : IX} {n : NX} {p : SX} {vs : List Nat} (hc : X.calm = true) (hi : GI cl X tg it di) (hn : GN cl X vs tg n) (hb : GSs cl X ss p) (hs : ∀ x, foldedSetIterable it X.env x = pure x) : GS cl X (.For tg it ss [] pos) (sFor di n p) := fun W tk hp =>
  PS.weak (ps_for hp hc (hi W tk) hn (hb W tk hp) hs) fun D σ H ⟨ρ, S, g, B, sim, o, c⟩ => ConS.go sim o c fun J H1 items S1 g1 e1 s1 o1 f1 r1 c1 => by
    have r1 : ItD (wd X cl) g1 items J := r1
    refine ⟨fun i m σ H => m = items.length - i ∧ i ≤ items.length ∧ ∃ ρ S g, Sim (wd X cl) g H ρ σ S ∧ Outr B g H ρ σ ∧ Le g1 g ∧ ConS (wd X cl) W B D (forL n p (items.drop i) ρ S), ⟨_, rfl, Nat.zero_le _, ρ, S1, g1, s1, o1, .refl, c1⟩, ?_⟩
    rintro i m σ H ⟨rfl, hi, ρ, S, g, sim, o, le, c⟩
    by_cases hlt : i < items.length
    · right
      rw [List.drop_eq_getElem_cons hlt] at c
      obtain ⟨hgo, hy⟩ := r1.go g H S le sim.st i hlt
      refine ⟨hgo, fun σ H => ∃ ρ S g, Sim (wd X cl) g H ρ σ S ∧ Outr B g H ρ σ ∧ Le g1 g ∧ ConS (wd X cl) W B D (forL n p (items.drop (i + 1)) ρ S), fun σ' H' h => ⟨items.length - (i + 1), by omega, rfl, hlt, h⟩, fun x H' y => ?_⟩
      obtain ⟨g2, d, ed, rd, s2, f2⟩ := hy x H' y
      rw [List.getElem?_eq_getElem hlt] at ed
      cases ed
      unfold forL at c
      cases en : n items[i] ρ with
      | none => rw [en] at c; exact c.elim
      | some ρ' =>
        rw [en] at c
        dsimp only at c
        refine ⟨_, ρ, S, g2, ρ', sim.fr f2 s2, rd, en, fun σ' s' k => ⟨ρ', S, g2, _, s', .self (k.outr (o.fr f2)), ?_⟩⟩
        refine ConS.here (D := D) (B := B) (k.outr (o.fr f2)) ?_ rfl
        cases e2 : p ρ' S with
        | nx ρ3 S3 => rw [e2] at c; exact fun σ3 g3 H3 s3 o3 l3 => ⟨ρ3, S3, g3, s3, o3, (le.trans f2.le).trans l3, c⟩
        | ct ρ3 S3 => rw [e2] at c; exact fun σ3 g3 H3 s3 o3 l3 => ⟨ρ3, S3, g3, s3, o3, (le.trans f2.le).trans l3, c⟩
        | bk ρ3 S3 => rw [e2] at c; exact fun σ3 g3 H3 s3 o3 l3 => c σ3 g3 H3 s3 o3
        | rt d3 S3 => rw [e2] at c; exact c
        | ex x3 fs ρ3 S3 => rw [e2] at c; exact c
        | stuck => rw [e2] at c; exact c
    · left
      have e : i = items.length := by omega
      subst e
      rw [List.drop_length] at c
      exact ⟨r1.done g H S le sim.st, c σ g H sim o⟩
end
end GG
end

section
/-! G.J: new lists and dicts: frozen, kept by a slot, or laid into the store; comprehensions. -/
set_option linter.all false
set_option maxRecDepth 100000
namespace GG
open PySem L2
open PyProof.Rows hiding St

abbrev MX := LEnv → Store → Out (MO × Store)
def MO.frz : MO → D
  | .lst xs => .lst xs
  | .dic ks vs => .dic ks vs
  | .ins c fs vs => .obj c fs vs
/-- a new thing, nobody else's -/
def RN (w : Wd) (H0 : Hp) : Gh → Hp → MO → V → Prop := fun g H mo v => ∃ a, v = .ref a ∧ H0 a = none ∧ g.F a = none ∧ (∀ j, g.m j ≠ some a) ∧ MOk w g H a mo
section
variable {w : Wd} {g g1 : Gh} {H H1 : Hp} {S : Store} {a : Addr} {mo : MO}
theorem not_lockable {u : HO} (h : ∀ l, u ≠ .dK l) : ¬ lockable u := fun z => by cases u <;> first | exact h _ rfl | exact z
def lockH (od : Obj) : HO → HO
  | .dK k => .frz od (.dK k)
  | u => u
theorem MOk.lay (m : MOk w g1 H1 a mo) : ∃ u, H1 a = some u ∧ (∀ od, ¬ lockable (lockH od u)) ∧ ((∀ od, lockH od u = u) ∨ (Mut (some u) ∧ ∀ od, lockH od u = .frz od u)) ∧ ∀ od g2, Le g1 g2 → g2.F a = some (lockH od u) → Rep w g2 mo.frz (.ref a) := by
  cases mo with
  | lst xs =>
    obtain ⟨vs, e, r⟩ := m
    exact ⟨_, e, fun _ z => z, (.inl fun _ => rfl), fun od g2 l q => rep_lst'.mpr ⟨a, vs, rfl, q, r.mono l⟩⟩
  | dic ks xs =>
    obtain ⟨vs, u, e, ⟨kl, d⟩, r⟩ := m
    rcases d with ⟨k, e1, rfl⟩ | ⟨k, kn, e1, rfl⟩
    · exact ⟨_, e, fun _ z => z, (.inr ⟨trivial, fun _ => rfl⟩), fun od g2 l q => rep_dic'.mpr ⟨a, vs, _, rfl, q, ⟨kl, .inl ⟨k, e1, od, rfl⟩⟩, r.mono l⟩⟩
    · exact ⟨_, e, fun _ z => z, (.inl fun _ => rfl), fun od g2 l q => rep_dic'.mpr ⟨a, vs, _, rfl, q, ⟨kl, .inr ⟨k, kn, e1, rfl⟩⟩, r.mono l⟩⟩
  | ins c fs xs =>
    obtain ⟨kc, C, dx, vs, hc, e, z, r⟩ := m
    exact ⟨_, e, fun _ z => z, (.inl fun _ => rfl), fun od g2 l q => rep_obj'.mpr ⟨kc, a, C, dx, vs, rfl, hc, q, z, r.mono l⟩⟩
/-- what holds now, or once a thing is held fast -/
def LK {α : Type} (Q : α → Hp → Prop) : α → Hp → Prop := fun v H => Q v H ∨ ∃ d u, H d = some u ∧ Mut (some u) ∧ ∀ od, Q v (upd H d (.frz od u))
theorem upd_id {H : Hp} {a : Addr} {u : HO} (e : H a = some u) : upd H a u = H := by
  funext b
  by_cases z : b = a
  · rw [z, upd_same, e]
  · rw [upd_ne z]
/-- it stays as it is from here on -/
theorem freeze (s : SimS w g1 H1 S) (h2 : g1.F a = none) (h3 : ∀ j, g1.m j ≠ some a) (m : MOk w g1 H1 a mo) : ∃ u, H1 a = some u ∧ ((∀ od, lockH od u = u) ∨ (Mut (some u) ∧ ∀ od, lockH od u = .frz od u)) ∧
    ∀ od, ∃ g2, SimS w g2 (upd H1 a (lockH od u)) S ∧ Le g1 g2 ∧ Rep w g2 mo.frz (.ref a) ∧ g2.m = g1.m ∧ ∀ b, b ≠ a → g2.F b = g1.F b := by
  obtain ⟨u, e, nl, lk, r⟩ := m.lay
  refine ⟨u, e, lk, fun od => ?_⟩
  have l : Le g1 (g1.put a (lockH od u)) := ⟨fun b o q => by
    have : b ≠ a := fun z => by rw [z, h2] at q; cases q
    show upd g1.F a (lockH od u) b = some o
    rw [upd_ne this]; exact q, fun _ _ q => q⟩
  refine ⟨g1.put a (lockH od u), ⟨fun b o q => ?_, s.dom, s.inj, fun i o b e1 e2 => ?_⟩, l, r od _ l upd_same, rfl, fun b hb => upd_ne hb⟩
  · have q : upd g1.F a (lockH od u) b = some o := q
    by_cases z : b = a
    · subst z; rw [upd_same] at q; cases q; exact .inl upd_same
    · rw [upd_ne z] at q; rw [upd_ne z]; exact s.sub b o q
  · obtain ⟨k1, k2⟩ := s.at_ i o b e1 e2
    have hb : b ≠ a := fun z => h3 i (by rw [← z]; exact e2)
    exact ⟨by show upd g1.F a (lockH od u) b = none; rw [upd_ne hb]; exact k1, k2.mono l fun _ q => by rw [upd_ne hb]; exact q⟩
theorem LK.of {α : Type} {Q : α → Hp → Prop} {v : α} {u : HO} (e : H1 a = some u) (lk : (∀ od, lockH od u = u) ∨ (Mut (some u) ∧ ∀ od, lockH od u = .frz od u)) (h : ∀ od, Q v (upd H1 a (lockH od u))) : LK Q v H1 := by
  rcases lk with z | ⟨mu, z⟩
  · have q := h default
    rw [z, upd_id e] at q
    exact .inl q
  · exact .inr ⟨a, u, e, mu, fun od => by rw [← z od]; exact h od⟩
theorem Fr.more {g2 : Gh} {x : HO} (f : GG.Fr g H g1 H1) (h0 : H a = none) (l : Le g1 g2) (hm : g2.m = g1.m) (hF : ∀ b, b ≠ a → g2.F b = g1.F b) : GG.Fr g H g2 (upd H1 a x) := ⟨f.le.trans l, fun b u e k1 k2 => by
  obtain ⟨z1, z2, z3⟩ := f.out b u e k1 k2
  have hb := ne_of_none e h0
  exact ⟨by rw [upd_ne hb]; exact z1, by rw [hF b hb]; exact z2, by rw [hm]; exact z3⟩, fun b u e => by
  obtain ⟨u', z⟩ := f.th b u e
  exact ⟨u', by rw [upd_ne (ne_of_none e h0)]; exact z⟩⟩
def Gh.ptr (g : Gh) (n : Nat) (a : Addr) : Gh := ⟨g.F, fun j => if j = n then some a else g.m j⟩
theorem SimS.nom (s : SimS w g1 H1 S) : g1.m S.length = Option.none := by
  cases e : g1.m S.length with
  | none => rfl
  | some b => exact absurd ((s.dom S.length).mpr ⟨b, e⟩) (Nat.lt_irrefl _)
theorem le_ptr (s : SimS w g1 H1 S) : Le g1 (g1.ptr S.length a) := ⟨fun _ _ q => q, fun i b q => by
  show (if i = S.length then some a else g1.m i) = some b
  rw [if_neg fun z => by rw [z, s.nom] at q; cases q]; exact q⟩
/-- it is laid into the store -/
theorem lay_ptr (s : SimS w g1 H1 S) (h2 : g1.F a = none) (h3 : ∀ j, g1.m j ≠ some a) (m : MOk w g1 H1 a mo) : SimS w (g1.ptr S.length a) H1 (S ++ [mo]) := by
  have l := le_ptr (a := a) s
  refine ⟨s.sub, fun i => ?_, fun i j b e1 e2 => ?_, fun i o b e1 e2 => ?_⟩
  · rw [List.length_append, List.length_singleton]
    show i < S.length + 1 ↔ ∃ b, (if i = S.length then some a else g1.m i) = some b
    by_cases z : i = S.length
    · rw [if_pos z]; exact ⟨fun _ => ⟨a, rfl⟩, fun _ => by omega⟩
    · rw [if_neg z, ← s.dom i]; omega
  · have e1 : (if i = S.length then some a else g1.m i) = some b := e1
    have e2 : (if j = S.length then some a else g1.m j) = some b := e2
    by_cases z1 : i = S.length
    · by_cases z2 : j = S.length
      · rw [z1, z2]
      · rw [if_pos z1] at e1; rw [if_neg z2] at e2; cases e1; exact absurd e2 (h3 j)
    · by_cases z2 : j = S.length
      · rw [if_neg z1] at e1; rw [if_pos z2] at e2; cases e2; exact absurd e1 (h3 i)
      · rw [if_neg z1] at e1; rw [if_neg z2] at e2; exact s.inj i j b e1 e2
  · have e2 : (if i = S.length then some a else g1.m i) = some b := e2
    by_cases z : i = S.length
    · subst z
      rw [if_pos rfl] at e2; cases e2
      rw [List.getElem?_append_right (Nat.le_refl _), Nat.sub_self] at e1
      cases e1
      exact ⟨h2, m.mono l fun _ q => q⟩
    · rw [if_neg z] at e2
      have hi : i < S.length := (s.dom i).mpr ⟨b, e2⟩
      rw [List.getElem?_append_left hi] at e1
      obtain ⟨k1, k2⟩ := s.at_ i o b e1 e2
      exact ⟨k1, k2.mono l fun _ q => q⟩
theorem Fr.ptr {n : Nat} (f : GG.Fr g H g1 H1) (h0 : H a = none) (l : Le g1 (g1.ptr n a)) : GG.Fr g H (g1.ptr n a) H1 := ⟨f.le.trans l, fun b u e k1 k2 => by
  obtain ⟨z1, z2, z3⟩ := f.out b u e k1 k2
  refine ⟨z1, z2, fun j => ?_⟩
  show ¬ (if j = n then some a else g1.m j) = some b
  by_cases z : j = n
  · rw [if_pos z]; intro q; cases q; rw [e] at h0; cases h0
  · rw [if_neg z]; exact z3 j, f.th⟩
end
/-- the outcome's value told otherwise -/
theorem Con.map {w : Wd} {W : WX} {σ : L2.St} {α β γ : Type} {R : Gh → Hp → α → β → Prop} {R' : Gh → Hp → γ → β → Prop} {g : Gh} {H : Hp} {Q : β → Hp → Prop} {o : Out (α × Store)} {f : α × Store → γ × Store} (c : GG.Con w W σ R' g H Q (o.bind fun p => .ok (f p)))
    (h : ∀ b g1 H1 a S1, SimS w g1 H1 S1 → GG.Fr g H g1 H1 → R g1 H1 a b → ∃ g2, SimS w g2 H1 (f (a, S1)).2 ∧ GG.Fr g H g2 H1 ∧ R' g2 H1 (f (a, S1)).1 b) : GG.Con w W σ R g H Q o := by
  cases o with
  | ok p =>
    exact fun b g1 H1 s f1 r => by
      obtain ⟨g2, s2, f2, r2⟩ := h b g1 H1 p.1 p.2 s f1 r
      exact c b g2 H1 s2 f2 r2
  | exc x fs S' => exact c
  | stuck => exact c
/-- .. and what is wanted, too -/
theorem Con.mapK {w : Wd} {W : WX} {σ : L2.St} {α β γ : Type} {R : Gh → Hp → α → β → Prop} {R' : Gh → Hp → γ → β → Prop} {g : Gh} {H : Hp} {Q Q' : β → Hp → Prop} {o : Out (α × Store)} {f : α × Store → γ × Store} (c : GG.Con w W σ R' g H Q (o.bind fun p => .ok (f p)))
    (h : ∀ b g1 H1 a S1, SimS w g1 H1 S1 → GG.Fr g H g1 H1 → R g1 H1 a b → (∀ g2 H2, SimS w g2 H2 (f (a, S1)).2 → GG.Fr g H g2 H2 → R' g2 H2 (f (a, S1)).1 b → Q b H2) → Q' b H1) : GG.Con w W σ R g H Q' o := by
  cases o with
  | ok p => exact fun b g1 H1 s f1 r => h b g1 H1 p.1 p.2 s f1 r fun g2 H2 s2 f2 r2 => c b g2 H2 s2 f2 r2
  | exc x fs S' => exact c
  | stuck => exact c

variable (cl : Wp)
def GM (X : Cx) (e : Expr) (den : MX) : Prop := ∀ W, Takes X W → PE X e (fun σ H Q => tX (wd X cl) W (RN (wd X cl) H) den σ H Q)
def GMs (X : Cx) (st : Stmt) (i : Nat) (den : MX) : Prop := ∀ W, Takes X W → PS X st (tAsg (fun σ H Q => tX (wd X cl) W (RN (wd X cl) H) den σ H Q) (gName i))
def eFz (n : MX) : EX := fun ρ S => (n ρ S).bind fun p => .ok (p.1.frz, p.2)
def eAl (n : MX) : EX := fun ρ S => (n ρ S).bind fun p => .ok (.ptr p.2.length, p.2 ++ [p.1])
def sOwn (i : Nat) (n : MX) : SX := fun ρ S => (n ρ S).st ρ fun mo S => .nx (ρ.set i (.own mo)) S
section
variable {cl} {X : Cx} {e : Expr} {st : Stmt} {n : MX} {pos : Pos} {i : Nat}
theorem rd_fz {w : Wd} {W : WX} {σ : L2.St} {H : Hp} {Q : VK} (h : tX w W (RE w) (eFz n) σ H Q) : tX w W (RN w H) n σ H (LK Q) := by
  obtain ⟨ρ, S, g, sim, c⟩ := h
  refine ⟨ρ, S, g, sim, Con.mapK (f := fun p => (p.1.frz, p.2)) c fun b g1 H1 a S1 s1 f1 ⟨x, eb, h0, h2, h3, m⟩ k => ?_⟩
  obtain ⟨u, e, lk, z⟩ := freeze s1 h2 h3 m
  refine LK.of e lk fun od => ?_
  obtain ⟨g2, s2, l, r, hm, hF⟩ := z od
  exact k g2 _ s2 (f1.more h0 l hm hF) (by rw [eb]; exact r)
theorem pe_lk {t : TE} (h : PE X e t) : PE X e (fun σ H Q => t σ H (LK Q)) := ⟨fun pins s σ H Q I hw => thn (h.run pins s σ H _ I hw) fun v s1 ⟨x, H1, I1, r, q⟩ => by
  rcases q with q | ⟨d, u, hd, mu, q⟩
  · exact ⟨x, H1, I1, r, q⟩
  · obtain ⟨od, I2⟩ := I1.lock hd mu
    exact ⟨x, _, I2, r, q od⟩⟩
theorem ps_lk {t : TS} (h : PS X st t) : PS X st (fun D σ H => t ⟨LK D.nx, D.rt, D.bk, D.ct⟩ σ H) := ⟨fun pins s σ H D I hw => thn (h.run pins s σ H _ I hw) fun f s1 q => by
  cases f with
  | next =>
    obtain ⟨σ', H', I2, q⟩ := q
    rcases q with q | ⟨d, u, hd, mu, q⟩
    · exact ⟨σ', H', I2, q⟩
    · obtain ⟨od, I3⟩ := I2.lock hd mu
      exact ⟨σ', _, I3, q od⟩
  | brk => exact q
  | cont => exact q
  | ret v => exact q⟩
theorem ps_lk0 {t : TS} (h : PS X st t) : PS X st (fun D σ H => LK (fun σ H => t D σ H) σ H) := ⟨fun pins s σ H D I hw => by
  rcases hw with q | ⟨d, u, hd, mu, q⟩
  · exact h.run pins s σ H D I q
  · obtain ⟨od, I2⟩ := I.lock hd mu
    exact h.run pins s σ _ D I2 (q od)⟩
theorem rd_al {w : Wd} {W : WX} {σ : L2.St} {H : Hp} {Q : VK} (h : tX w W (RE w) (eAl n) σ H Q) : tX w W (RN w H) n σ H Q := by
  obtain ⟨ρ, S, g, sim, c⟩ := h
  refine ⟨ρ, S, g, sim, Con.map (f := fun p => (GG.D.ptr p.2.length, p.2 ++ [p.1])) c fun b g1 H1 a S1 s1 f1 ⟨x, eb, h0, h2, h3, m⟩ => ?_⟩
  have l := le_ptr (a := x) s1
  exact ⟨_, lay_ptr s1 h2 h3 m, f1.ptr h0 l, by rw [eb]; exact rep_ptr.mpr ⟨x, if_pos rfl, rfl⟩⟩
theorem ge_fz (h : GM cl X e n) : GE cl X e (eFz n) := fun W tk => PE.weak (pe_lk (h W tk)) fun σ H Q => rd_fz
theorem ge_al (h : GM cl X e n) : GE cl X e (eAl n) := fun W tk => PE.weak (h W tk) fun σ H Q => rd_al
theorem gms_of {x : Str} {p' : Pos} (hN : X.N.Nodup) (hi : X.N[i]? = some x) (hx : Loc X.env.scope x) (h : GM cl X e n) (hs : swapsWith e (some (.Name x p')) pos.line X.env = pure false)
    (hf : X.fn x = true ∨ X.env.scope.names.lookup x = some .local) : GMs cl X (.Assign [.Name x p'] e pos) i n := fun W tk => ps_set hN hi hx (h W tk) hs hf
/-- from what the statement wants, what the new thing wants -/
theorem rd_st {w : Wd} {W : WX} {B : Bs} {D : Ends} {σ : L2.St} {H : Hp} {ρ : LEnv} {S : Store} {g : Gh} {k : MO → Store → SOut} {T : V → Hp → Prop} (sim : Sim w g H ρ σ S) (o : Outr B g H ρ σ) (c : ConS w W B D ((n ρ S).st ρ k))
    (h : ∀ b H1 mo S1 g1, Sim w g1 H1 ρ σ S1 → Outr B g1 H1 ρ σ → GG.Fr g H g1 H1 → RN w H g1 H1 mo b → ConS w W B D (k mo S1) → T b H1) : tX w W (RN w H) n σ H T :=
  ConS.go sim o c fun b H1 mo S1 g1 _ s1 o1 f1 r1 c1 => h b H1 mo S1 g1 s1 o1 f1 r1 c1
theorem Sim.setOwn {w : Wd} {g g1 : Gh} {H H1 : Hp} {ρ : LEnv} {σ : L2.St} {S S1 : Store} {mo : MO} {b : V} (s0 : Sim w g H ρ σ S) (s : Sim w g1 H1 ρ σ S1) (r : RN w H g1 H1 mo b) (i : Nat) : Sim w g1 H1 (ρ.set i (.own mo)) (σ.set i (some b)) S1 := by
  obtain ⟨a, rfl, h0, h2, h3, m⟩ := r
  have far : ∀ (j : Nat) o c, ρ[j]? = some (Slot.own o) → σ[j]? = some (some (V.ref c)) → c ≠ a := fun j o c e1 e2 z => by
    obtain ⟨c', q1, _, _, q4⟩ := s0.own j o e1
    rw [e2] at q1; cases q1
    obtain ⟨u, hu⟩ := q4.there
    rw [z, h0] at hu; cases hu
  have atI : ∀ {x : Slot}, (ρ.set i (.own mo))[i]? = some x → x = .own mo ∧ i < σ.length := fun {x} e => by
    by_cases hl : i < ρ.length
    · rw [List.getElem?_set_self hl] at e; cases e; exact ⟨rfl, by rw [← s.len]; exact hl⟩
    · rw [List.getElem?_eq_none (by simpa using hl)] at e; cases e
  refine ⟨s.st, by rw [List.length_set, List.length_set]; exact s.len, fun j d e => ?_, fun j o e => ?_, fun j k o u c e1 e2 e3 e4 => ?_, fun j e => ?_⟩
  · by_cases hj : i = j
    · subst hj; cases (atI e).1
    · rw [List.getElem?_set_ne hj] at e ⊢; exact s.val j d e
  · by_cases hj : i = j
    · subst hj
      obtain ⟨z, hl⟩ := atI e
      cases z
      exact ⟨a, List.getElem?_set_self hl, h2, h3, m⟩
    · rw [List.getElem?_set_ne hj] at e ⊢; exact s.own j o e
  · by_cases hj : i = j
    · by_cases hk : i = k
      · rw [← hj, ← hk]
      · subst hj
        rw [List.getElem?_set_self (atI e1).2] at e3; cases e3
        rw [List.getElem?_set_ne hk] at e2 e4
        exact absurd rfl (far k u _ e2 e4)
    · by_cases hk : i = k
      · subst hk
        rw [List.getElem?_set_self (atI e2).2] at e4; cases e4
        rw [List.getElem?_set_ne hj] at e1 e3
        exact absurd rfl (far j o _ e1 e3)
      · rw [List.getElem?_set_ne hj] at e1 e3
        rw [List.getElem?_set_ne hk] at e2 e4
        exact s.apart j k o u c e1 e2 e3 e4
  · by_cases hj : i = j
    · subst hj; cases (atI e).1
    · rw [List.getElem?_set_ne hj] at e ⊢; exact s.xc j e
theorem Outr.setOwn {B : Bs} {g : Gh} {H : Hp} {ρ : LEnv} {σ : L2.St} (o : Outr B g H ρ σ) (i : Nat) {mo : MO} {b : V} (h0 : i ≠ 0) (h : ∀ a, b = .ref a → B.H a = none) : Outr B g H (ρ.set i (.own mo)) (σ.set i (some b)) := ⟨o.o, fun j u a e1 e2 => by
  by_cases hj : i = j
  · subst hj
    by_cases hl : i < σ.length
    · rw [List.getElem?_set_self hl] at e2; cases e2; exact .inl (h a rfl)
    · rw [List.getElem?_eq_none (by simpa using hl)] at e2; cases e2
  · rw [List.getElem?_set_ne hj] at e1 e2
    exact o.ow j u a e1 e2, fun p u e1 e2 => by
  rw [List.getElem?_set_ne h0] at e2 ⊢
  exact o.fx p u e1 e2⟩
theorem gs_own (h0 : i ≠ 0) (h : GMs cl X st i n) : GS cl X st (sOwn i n) := fun W tk hp => PS.weak (h W tk) fun D σ H ⟨ρ, S, g, B, sim, o, c⟩ => rd_st sim o c fun b H1 mo S1 g1 s1 o1 f1 r1 c1 =>
  c1 _ g1 H1 (sim.setOwn s1 r1 i) (o1.setOwn i h0 fun a eb => by
    obtain ⟨a', e', h0, _⟩ := r1
    rw [eb] at e'; cases e'
    cases z : B.H a with
    | none => rfl
    | some u =>
      obtain ⟨_, q⟩ := o.o.th a u z
      rw [h0] at q; cases q)
/-- a new thing, then a plain value: what a statement wants of both -/
theorem rd_set {w : Wd} {W : WX} {σ : L2.St} {H : Hp} {D : Ends} {da : EX} {T : VK → VK} (back : ∀ Q, tX w W (RE w) da σ H Q → tX w W (RN w H) n σ H (T Q)) (h : tS w W (sSet i da) D σ H) : tX w W (RN w H) n σ H (T fun x H1 => gName i x σ H1 D.nx) := by
  obtain ⟨ρ, S, g, B, sim, o, c⟩ := h
  exact back _ (ConS.go sim o c fun v H1 d S1 g1 e1 s1 o1 f1 r1 c1 => c1 _ g1 H1 (s1.set i r1) (o1.set i d (some v)))
theorem gs_setF (h : GMs cl X st i n) : GS cl X st (sSet i (eFz n)) := fun W tk hp => PS.weak (ps_lk (h W tk)) fun D σ H h => rd_set (T := LK) (fun Q => rd_fz) h
theorem gs_setP (h : GMs cl X st i n) : GS cl X st (sSet i (eAl n)) := fun W tk hp => PS.weak (h W tk) fun D σ H h => rd_set (T := fun Q => Q) (fun Q => rd_al) h
end
end GG
end

section
/-! G.J2: list displays, list comprehensions; a slot's own thing frozen. -/
set_option linter.all false
set_option maxRecDepth 100000
namespace GG
open PySem L2
open PyProof.Rows hiding St

theorem SimS.off {w : Wd} {g : Gh} {H : Hp} {S : Store} {p : Addr} {u : HO} (s : SimS w g H S) (h2 : g.F p = Option.none) (h3 : ∀ j, g.m j ≠ some p) : SimS w g (upd H p u) S := by
  refine ⟨fun b o q => ?_, s.dom, s.inj, fun i o b e1 e2 => ?_⟩
  · rw [upd_ne fun z => by rw [z, h2] at q; cases q]; exact s.sub b o q
  · obtain ⟨k1, k2⟩ := s.at_ i o b e1 e2
    exact ⟨k1, k2.mono .refl fun u q => by rw [upd_ne fun z => h3 i (by rw [← z]; exact e2)]; exact q⟩
theorem Sim.off {w : Wd} {g : Gh} {H : Hp} {ρ : LEnv} {σ : L2.St} {S : Store} {p : Addr} {u : HO} (s : Sim w g H ρ σ S) (h2 : g.F p = none) (h3 : ∀ j, g.m j ≠ some p) (h4 : ∀ (i : Nat) o b, ρ[i]? = some (Slot.own o) → σ[i]? = some (some (V.ref b)) → b ≠ p) : Sim w g (upd H p u) ρ σ S where
  st := s.st.off h2 h3
  len := s.len
  val := s.val
  own := fun i o e => by
    obtain ⟨a, k1, k2, k3, k4⟩ := s.own i o e
    exact ⟨a, k1, k2, k3, k4.mono .refl fun u q => by rw [upd_ne (h4 i o a e k1)]; exact q⟩
  apart := s.apart
  xc := s.xc
theorem Fr.off {g g1 : Gh} {H H1 : Hp} {p : Addr} {u : HO} (f : GG.Fr g H g1 H1) (h0 : H p = none) : GG.Fr g H g1 (upd H1 p u) := ⟨f.le, fun a o e k1 k2 => by
  rw [upd_ne (ne_of_none e h0)]; exact f.out a o e k1 k2, fun a o e => by
  rw [upd_ne (ne_of_none e h0)]; exact f.th a o e⟩
theorem Fr.none {g g1 : Gh} {H H1 : Hp} {p : Addr} (f : GG.Fr g H g1 H1) (h : H1 p = Option.none) : H p = Option.none := by
  cases e : H p with
  | none => rfl
  | some u =>
    obtain ⟨_, q⟩ := f.th p u e
    rw [h] at q; cases q
def wipeD (ρ : LEnv) : List Nat → LEnv
  | [] => ρ
  | v :: vs => (wipeD ρ vs).set v .no
theorem wipeD_get {ρ : LEnv} : ∀ {vs : List Nat} {i : Nat} {x : Slot}, (wipeD ρ vs)[i]? = some x → (i ∈ vs ∧ x = .no) ∨ (i ∉ vs ∧ ρ[i]? = some x)
  | [], _, _, h => .inr ⟨by simp, h⟩
  | v :: vs, i, x, h => by
    unfold wipeD at h
    by_cases hv : v = i
    · subst hv
      left
      by_cases hl : v < (wipeD ρ vs).length
      · rw [List.getElem?_set_self hl] at h; cases h; exact ⟨List.mem_cons_self, rfl⟩
      · rw [List.getElem?_eq_none (by simpa using hl)] at h; cases h
    · rw [List.getElem?_set_ne hv] at h
      rcases wipeD_get h with ⟨h1, h2⟩ | ⟨h1, h2⟩
      · exact .inl ⟨List.mem_cons_of_mem _ h1, h2⟩
      · exact .inr ⟨fun z => (List.mem_cons.mp z).elim (fun q => hv q.symm) h1, h2⟩
theorem wipeD_len {ρ : LEnv} : ∀ {vs : List Nat}, (wipeD ρ vs).length = ρ.length
  | [] => rfl
  | v :: vs => by unfold wipeD; rw [List.length_set, wipeD_len]
theorem wipe_not {σ : L2.St} {vs : List Nat} {i : Nat} (h : i ∉ vs) : (wipe σ vs)[i]? = σ[i]? := by rw [wipe_get, if_neg fun z => h z.1]
theorem Sim.wipe {w : Wd} {g : Gh} {H : Hp} {ρ : LEnv} {σ : L2.St} {S : Store} (s : Sim w g H ρ σ S) (vs : List Nat) : Sim w g H (wipeD ρ vs) (wipe σ vs) S where
  st := s.st
  len := by rw [wipeD_len, wipe_length]; exact s.len
  val := fun i d e => by
    rcases wipeD_get e with ⟨_, h⟩ | ⟨h1, h2⟩
    · cases h
    · rw [wipe_not h1]; exact s.val i d h2
  own := fun i d e => by
    rcases wipeD_get e with ⟨_, h⟩ | ⟨h1, h2⟩
    · cases h
    · rw [wipe_not h1]; exact s.own i d h2
  apart := fun i j o u a e1 e2 e3 e4 => by
    rcases wipeD_get e1 with ⟨_, h⟩ | ⟨h1, h2⟩
    · cases h
    rcases wipeD_get e2 with ⟨_, h⟩ | ⟨h3, h4⟩
    · cases h
    rw [wipe_not h1] at e3
    rw [wipe_not h3] at e4
    exact s.apart i j o u a h2 h4 e3 e4
  xc := fun i e => by
    rcases wipeD_get e with ⟨_, h⟩ | ⟨h1, h2⟩
    · cases h
    · rw [wipe_not h1]; exact s.xc i h2
theorem wipe_wipe {σ : L2.St} {vs : List Nat} : wipe (wipe σ vs) vs = wipe σ vs := by
  apply List.ext_getElem?
  intro i
  rw [wipe_get, wipe_length]
  split
  · rename_i h; rw [wipe_get, if_pos h]
  · rfl
/-- own slots' things were there before -/
theorem Sim.far {w : Wd} {g : Gh} {H : Hp} {ρ : LEnv} {σ : L2.St} {S : Store} {p : Addr} (s : Sim w g H ρ σ S) (h : H p = Option.none) : ∀ (i : Nat) o b, ρ[i]? = some (Slot.own o) → σ[i]? = some (some (V.ref b)) → b ≠ p := fun i o b e1 e2 z => by
  obtain ⟨c, q1, _, _, q4⟩ := s.own i o e1
  rw [e2] at q1; cases q1
  obtain ⟨u, hu⟩ := q4.there
  rw [z, h] at hu; cases hu
/-- a part whose exceptions are not let through -/
theorem Con.calm_go {w : Wd} {W : WX} {σ σ2 : L2.St} {α β γ δ : Type} {R : Gh → Hp → α → β → Prop} {R' : Gh → Hp → γ → δ → Prop} {ρ : LEnv} {S3 : Store} {g g3 : Gh} {H H3 : Hp} {Q : δ → Hp → Prop} {T : β → Hp → Prop} {den : LEnv → Store → Out (α × Store)} {k : α × Store → Out (γ × Store)}
    (sim : Sim w g3 H3 ρ σ2 S3) (c : GG.Con w W σ R' g H Q ((den ρ S3).calm.bind k))
    (h : ∀ b H4 a S4 g4, Sim w g4 H4 ρ σ2 S4 → GG.Fr g3 H3 g4 H4 → R g4 H4 a b → GG.Con w W σ R' g H Q (k (a, S4)) → T b H4) : tX w (fun _ _ _ _ => False) R den σ2 H3 T := by
  refine ⟨ρ, S3, g3, sim, ?_⟩
  cases e : den ρ S3 with
  | ok p => rw [e] at c; exact fun b g4 H4 s f r => h b H4 p.1 p.2 g4 (sim.fr f s) f r c
  | exc x fs S' => rw [e] at c; exact c.elim
  | stuck => rw [e] at c; exact c.elim

def mLst (t : AX) : MX := fun ρ S => (t ρ S).bind fun p => if szOk p.1.length then .ok (.lst p.1, p.2) else .stuck
variable {cl : Wp} {X : Cx} {tg it a b c e : Expr} {es : List Expr} {da db dc : EX} {pos : Pos}
theorem new_RN {w : Wd} {g g1 : Gh} {H H1 : Hp} {S1 : Store} {p : Addr} {mo : MO} {u : HO} (s : SimS w g1 H1 S1) (f : GG.Fr g H g1 H1) (hp : H1 p = Option.none) (m : MOk w g1 (upd H1 p u) p mo) : SimS w g1 (upd H1 p u) S1 ∧ GG.Fr g H g1 (upd H1 p u) ∧ RN w H g1 (upd H1 p u) mo (.ref p) := by
  obtain ⟨h2, h3⟩ := SimS.none s hp
  exact ⟨s.off h2 h3, f.off (f.none hp), p, rfl, f.none hp, h2, h3, m⟩
/-- an outcome's first part, the base kept -/
theorem Con.fst {w : Wd} {W : WX} {σ : L2.St} {α β γ δ : Type} {R : Gh → Hp → α → β → Prop} {R' : Gh → Hp → γ → δ → Prop} {ρ : LEnv} {S : Store} {g : Gh} {H : Hp} {Q' : δ → Hp → Prop} {T : β → Hp → Prop}
    (sim : Sim w g H ρ σ S) {den : LEnv → Store → Out (α × Store)} {k : α × Store → Out (γ × Store)} (c : GG.Con w W σ R' g H Q' ((den ρ S).bind k))
    (h : ∀ b H1 a S1 g1, Sim w g1 H1 ρ σ S1 → GG.Fr g H g1 H1 → R g1 H1 a b → GG.Con w W σ R' g H Q' (k (a, S1)) → T b H1) : tX w W R den σ H T := by
  refine ⟨ρ, S, g, sim, ?_⟩
  cases e : den ρ S with
  | ok p => rw [e] at c; exact fun b g4 H4 s f r => h b H4 p.1 p.2 g4 (sim.fr f s) f r c
  | exc x fs S' => rw [e] at c; exact c
  | stuck => rw [e] at c; exact c
theorem gm_lst {t : AX} (h : GA cl X es t) : GM cl X (.List es pos) (mLst t) := fun W tk =>
  PE.weak (pe_lst (h W tk)) fun σ H Q ⟨ρ, S, g, sim, c⟩ => Con.fst sim c fun vs H1 ds S1 g1 s1 f1 r1 c1 => by
    have r1 : RepL (wd X cl) g1 ds vs := r1
    dsimp only at c1
    split at c1
    · rename_i hz
      refine ⟨by rw [← r1.length]; exact of_decide_eq_true hz, fun p hp => ?_⟩
      obtain ⟨t, f, r⟩ := new_RN (mo := .lst ds) (u := .lst vs) s1.st f1 hp ⟨vs, upd_same, r1⟩
      exact c1 _ _ _ t f r
    · exact c1.elim

/-! ### a slot's own thing is frozen -/
def frzAt (i : Nat) (ρ : LEnv) : LEnv := match ρ[i]? with
  | some (.own mo) => ρ.set i (.val mo.frz)
  | _ => ρ
def sFz (i : Nat) (k : SX) : SX := fun ρ S => k (frzAt i ρ) S
theorem Sim.fz {w : Wd} {B : Bs} {g : Gh} {H : Hp} {ρ : LEnv} {σ : L2.St} {S : Store} (s : Sim w g H ρ σ S) (o : Outr B g H ρ σ) (i : Nat) : LK (fun σ H => ∃ g', Sim w g' H (frzAt i ρ) σ S ∧ Outr B g' H (frzAt i ρ) σ) σ H := by
  unfold frzAt
  split
  · rename_i mo e
    obtain ⟨a, k1, k2, k3, k4⟩ := s.own i mo e
    obtain ⟨w0, ew, lk, zz⟩ := freeze s.st k2 k3 k4
    refine LK.of ew lk fun od => ?_
    obtain ⟨g2, s2, l, r, hm, hF⟩ := zz od
    have hi : i < ρ.length := (List.getElem?_eq_some_iff.mp e).1
    refine ⟨g2, ⟨s2, by rw [List.length_set]; exact s.len, fun j d q => ?_, fun j u q => ?_, fun j k u v b e1 e2 e3 e4 => ?_, fun j q => ?_⟩, ⟨⟨o.o.le.trans l, fun b u e1 e2 e3 e4 => ?_, fun b u e1 => ?_⟩, fun j u b e1 e2 => ?_, fun p u e1 e2 => ?_⟩⟩
    · by_cases hj : i = j
      · subst hj
        rw [List.getElem?_set_self hi] at q; cases q
        exact ⟨_, k1, r⟩
      · rw [List.getElem?_set_ne hj] at q
        obtain ⟨v, h1, h2⟩ := s.val j d q
        exact ⟨v, h1, h2.mono l⟩
    · by_cases hj : i = j
      · subst hj; rw [List.getElem?_set_self hi] at q; cases q
      · rw [List.getElem?_set_ne hj] at q
        obtain ⟨b, h1, h2, h3, h4⟩ := s.own j u q
        have hb : b ≠ a := fun z => hj (s.apart i j mo u a e q k1 (by rw [← z]; exact h1))
        exact ⟨b, h1, by rw [hF b hb]; exact h2, by rw [hm]; exact h3, h4.mono l fun _ q => by rw [upd_ne hb]; exact q⟩
    · by_cases hj : i = j
      · subst hj; rw [List.getElem?_set_self hi] at e1; cases e1
      · by_cases hk : i = k
        · subst hk; rw [List.getElem?_set_self hi] at e2; cases e2
        · rw [List.getElem?_set_ne hj] at e1
          rw [List.getElem?_set_ne hk] at e2
          exact s.apart j k u v b e1 e2 e3 e4
    · by_cases hj : i = j
      · subst hj; rw [List.getElem?_set_self hi] at q; cases q
      · rw [List.getElem?_set_ne hj] at q
        exact s.xc j q
    · obtain ⟨h1, h2, h3⟩ := o.o.out b u e1 e2 e3 e4
      have hb : b ≠ a := fun z => by
        subst z
        rcases o.ow i mo b e k1 with q | q
        · rw [e1] at q; cases q
        · exact e4 q
      exact ⟨by rw [upd_ne hb]; exact h1, by rw [hF b hb]; exact h2, by rw [hm]; exact h3⟩
    · by_cases hb : b = a
      · exact ⟨_, by rw [hb, upd_same]⟩
      · obtain ⟨u', z⟩ := o.o.th b u e1
        exact ⟨u', by rw [upd_ne hb]; exact z⟩
    · by_cases hj : i = j
      · subst hj; rw [List.getElem?_set_self hi] at e1; cases e1
      · rw [List.getElem?_set_ne hj] at e1
        exact o.ow j u b e1 e2
    · by_cases hj : i = 0
      · subst hj; rw [List.getElem?_set_self hi] at e2; cases e2
      · rw [List.getElem?_set_ne hj] at e2
        exact o.fx p u e1 e2
  · exact .inl ⟨g, s, o⟩
theorem gs_fz {st : Stmt} {k : SX} (i : Nat) (h : GS cl X st k) : GS cl X st (sFz i k) := fun W tk hp => PS.weak (ps_lk0 (h W tk hp)) fun D σ H ⟨ρ, S, g, B, sim, o, c⟩ => by
  rcases sim.fz o i with ⟨g', s', o'⟩ | ⟨d, u, hd, mu, q⟩
  · exact .inl ⟨_, S, g', B, s', o', c⟩
  · refine .inr ⟨d, u, hd, mu, fun od => ?_⟩
    obtain ⟨g', s', o'⟩ := q od
    exact ⟨_, S, g', B, s', o', c⟩

/-! ### list comprehensions -/
def lcL (n : NX) (t : BX) (e : EX) : List D → LEnv → Store → Out (List D × Store)
  | [], _, S => .ok ([], S)
  | d :: ds, ρ, S => match n d ρ with
    | none => .stuck
    | some ρ' => (t ρ' S).calm.bind fun b => if b.1 then (e ρ' b.2).calm.bind fun y => (lcL n t e ds ρ y.2).bind fun r => .ok (y.1 :: r.1, r.2) else lcL n t e ds ρ b.2
def mLc (i : IX) (n : NX) (t : BX) (e : EX) (vs : List Nat) : MX := fun ρ S => (i ρ S).bind fun p => (lcL n t e p.1 (wipeD ρ vs) p.2).bind fun r => .ok (.lst r.1, r.2)
def bTrue : BX := fun _ S => .ok (true, S)
theorem Out.bind_assoc {α β γ : Type} (o : Out α) (f : α → Out β) (k : β → Out γ) : (o.bind f).bind k = o.bind fun a => (f a).bind k := by cases o <;> rfl
/-- the state of a comprehension's list: the new list at L holds acc -/
structure Acc (w : Wd) (g0 : Gh) (H0 : Hp) (L : Addr) (ρ : LEnv) (σ : L2.St) (g1 : Gh) (g : Gh) (H : Hp) (S : Store) (acc : List D) (us : List V) : Prop where
  sim : Sim w g H ρ σ S
  fr : GG.Fr g0 H0 g H
  le : Le g1 g
  at_ : H L = some (.lst us)
  f0 : H0 L = Option.none
  f1 : g.F L = Option.none
  f2 : ∀ j, g.m j ≠ some L
  rep : RepL w g acc us
theorem Acc.step {w : Wd} {g0 g1 g g' : Gh} {H0 H H' : Hp} {L : Addr} {ρ : LEnv} {σ : L2.St} {S S' : Store} {acc : List D} {us : List V} (a : Acc w g0 H0 L ρ σ g1 g H S acc us) (f : GG.Fr g H g' H') (s : SimS w g' H' S') : Acc w g0 H0 L ρ σ g1 g' H' S' acc us := by
  obtain ⟨k1, k2, k3⟩ := f.out L _ a.at_ a.f1 a.f2
  exact ⟨a.sim.fr f s, a.fr.trans f, a.le.trans f.le, k1, a.f0, k2, k3, a.rep.mono f.le⟩
theorem Acc.push {w : Wd} {g0 g1 g : Gh} {H0 H : Hp} {L : Addr} {ρ : LEnv} {σ : L2.St} {S : Store} {acc : List D} {us : List V} {d : D} {v : V} (a : Acc w g0 H0 L ρ σ g1 g H S acc us) (r : Rep w g d v)
    (far : ∀ (i : Nat) o b, ρ[i]? = some (Slot.own o) → σ[i]? = some (some (V.ref b)) → b ≠ L) : Acc w g0 H0 L ρ σ g1 g (upd H L (.lst (us ++ [v]))) S (acc ++ [d]) (us ++ [v]) :=
  ⟨a.sim.off a.f1 a.f2 far, a.fr.off a.f0, a.le, upd_same, a.f0, a.f1, a.f2, a.rep.append (.cons r .nil)⟩
theorem Acc.done {w : Wd} {W : WX} {σ' : L2.St} {g0 g1 g : Gh} {H0 H : Hp} {L : Addr} {ρ : LEnv} {σ : L2.St} {S : Store} {acc : List D} {us : List V} {Q : VK} (a : Acc w g0 H0 L ρ σ g1 g H S acc us) (c : GG.Con w W σ' (RN w H0) g0 H0 Q (.ok (.lst acc, S))) : Q (.ref L) H :=
  c _ g H a.sim.st a.fr ⟨L, rfl, a.f0, a.f1, a.f2, us, a.at_, a.rep⟩
theorem rd_lc {w : Wd} {W : WX} {di : IX} {n : NX} {tt : BX} {de : EX} {vs us : List Nat} {wi : TI} {g : TG} {t : TT} {te : TE} {σ : L2.St} {H : Hp} {Q : VK} (hv : ∀ i ∈ us, i ∈ vs) (hwi : ∀ R, tX w W (RI w) di σ H R → wi σ H R) (hg : ∀ v σ H Q, rN w us n v σ H Q → g v σ H Q)
    (ht : ∀ σ H Q, tX w (fun _ _ _ _ => False) RB tt σ H Q → t σ H Q) (he : ∀ σ H Q, tX w (fun _ _ _ _ => False) (RE w) de σ H Q → te σ H Q) (h : tX w W (RN w H) (mLc di n tt de vs) σ H Q) : tLc wi g t te vs σ H Q := by
  obtain ⟨ρ, S, g0, sim, c⟩ := h
  refine hwi _ (Con.fst sim c fun J H1 items S1 g1 s1 f1 r1 c1 L hL => ?_)
  have r1 : ItD w g1 items J := r1
  have hL0 : H L = Option.none := f1.none hL
  obtain ⟨n1, n2⟩ := SimS.none s1.st hL
  have far : ∀ (i : Nat) o b, (wipeD ρ vs)[i]? = some (Slot.own o) → (wipe σ vs)[i]? = some (some (V.ref b)) → b ≠ L := (sim.wipe vs).far hL0
  refine ⟨fun i m Hc => m = items.length - i ∧ i ≤ items.length ∧ ∃ g2 S2 acc ws, Acc w g0 H L (wipeD ρ vs) (wipe σ vs) g1 g2 Hc S2 acc ws ∧ acc.length ≤ i ∧ GG.Con w W σ (RN w H) g0 H Q ((lcL n tt de (items.drop i) (wipeD ρ vs) S2).bind fun r => .ok (.lst (acc ++ r.1), r.2)),
    ⟨_, rfl, Nat.zero_le _, g1, S1, [], [], ⟨(s1.wipe vs).off n1 n2 far, f1.off hL0, .refl, upd_same, hL0, n1, n2, .nil⟩, Nat.zero_le _, c1⟩, ?_⟩
  rintro i m Hc ⟨rfl, hi, g2, S2, acc, ws, A, hl, c2⟩
  by_cases hlt : i < items.length
  · right
    rw [List.drop_eq_getElem_cons hlt] at c2
    obtain ⟨hgo, hy⟩ := r1.go g2 Hc S2 A.le A.sim.st i hlt
    refine ⟨hgo, fun Hc => ∃ g2 S2 acc ws, Acc w g0 H L (wipeD ρ vs) (wipe σ vs) g1 g2 Hc S2 acc ws ∧ acc.length ≤ i + 1 ∧ GG.Con w W σ (RN w H) g0 H Q ((lcL n tt de (items.drop (i + 1)) (wipeD ρ vs) S2).bind fun r => .ok (.lst (acc ++ r.1), r.2)),
      fun H' h => ⟨items.length - (i + 1), by omega, rfl, hlt, h⟩, fun x H' y => ?_⟩
    obtain ⟨g3, d, ed, rd, s3, f3⟩ := hy x H' y
    rw [List.getElem?_eq_getElem hlt] at ed
    cases ed
    have A3 := A.step f3 s3
    unfold lcL at c2
    cases en : n items[i] (wipeD ρ vs) with
    | none => rw [en] at c2; exact c2.elim
    | some ρ' =>
      rw [en] at c2
      dsimp only at c2
      refine hg _ _ _ _ ⟨_, _, S2, g3, ρ', A3.sim, rd, en, fun σ' s' k => ⟨by rw [k.wipe hv, wipe_wipe], ?_⟩⟩
      rw [Out.bind_assoc] at c2
      refine ht _ _ _ (Con.calm_go s' c2 fun b H4 b' S4 g4 s4 f4 r4 c4 => ?_)
      have r4 : b' = b := r4
      subst r4
      have A4 := A3.step f4 s4.st
      cases b' with
      | false =>
        simp only [Bool.false_eq_true, if_false] at c4 ⊢
        exact ⟨g4, S4, acc, ws, A4, Nat.le_succ_of_le hl, c4⟩
      | true =>
        simp only [if_true] at c4 ⊢
        rw [Out.bind_assoc] at c4
        refine he _ _ _ (Con.calm_go s4 c4 fun v H5 d5 S5 g5 s5 f5 r5 c5 => ?_)
        have A5 := A4.step f5 s5.st
        have la : acc.length = ws.length := A5.rep.length
        refine ⟨ws, A5.at_, by have := r1.sz; omega, g5, S5, acc ++ [d5], ws ++ [v], A5.push r5 far, by rw [List.length_append, List.length_singleton]; omega, ?_⟩
        rw [Out.bind_assoc] at c5
        simp only [Out.bind_ok] at c5
        simpa only [List.append_assoc, List.singleton_append] using c5
  · left
    have e : i = items.length := by omega
    subst e
    rw [List.drop_length] at c2
    have c2 : GG.Con w W σ (RN w H) g0 H Q (.ok (.lst (acc ++ []), S2)) := c2
    rw [List.append_nil] at c2
    exact ⟨r1.done g2 Hc S2 A.le A.sim.st, A.done c2⟩
/-- the block's parts, whatever block it is -/
abbrev BX' (X : Cx) (scope : Scope) (J : Cx → Prop) : Prop := ∀ (s : Shared) (H : Hp) (C : Addr) (cl : List (Str × Addr)) (fp : List Addr), J (X.blk s H scope (compEnvC scope cl C X.env) fp)
def GTs (cl : Wp) (X : Cx) (ifs : List Expr) (den : BX) : Prop := ∀ W, Takes X W → PTs X ifs (tX (wd X cl) W RB den)
theorem gts_nil : GTs cl X [] bTrue := fun W tk => ⟨fun pins s σ H Q I ⟨ρ, S, g, sim, c⟩ => pts_nil.run pins s σ H Q I (Con.val (a := true) c sim.st rfl)⟩
theorem gts_one {tc : BX} (h : GT cl X c tc) : GTs cl X [c] tc := fun W tk => pts_one (h W tk)
section
variable {elt : Expr} {ifs : List Expr} {scope : Scope} {own : List (Str × Nat)} {di : IX} {n : NX} {tt : BX} {de : EX} {us : List Nat}
theorem gm_lc (hc : X.calm = true) (hN : X.N.Nodup) (hi : GI cl X tg it di) (ok : BlkOk X.N X.env.scope scope own) (hv : ∀ i ∈ us, i ∈ own.map (·.2)) (hg : BX' X scope fun Y => GN cl Y us tg n) (ht : BX' X scope fun Y => GTs cl Y ifs tt) (he : BX' X scope fun Y => GE cl Y elt de)
    (hs : ∀ x, foldedSetIterable it X.env x = pure x) : GM cl X (.ListComp elt [⟨tg, it, ifs, 0⟩] scope pos) (mLc di n tt de (own.map (·.2))) := fun W tk =>
  PE.weak (pe_lc (g := rN (wd X cl) us n) (tt := tX (wd X cl) (fun _ _ _ _ => False) RB tt) (te := tX (wd X cl) (fun _ _ _ _ => False) (RE (wd X cl)) de) hc hN (hi W tk) ok (fun s H C c' fp => hg s H C c' fp) (fun s H C c' fp => ht s H C c' fp _ takes_none) (fun s H C c' fp => he s H C c' fp _ takes_none) hs)
    fun σ H Q h => rd_lc hv (fun _ z => z) (fun _ _ _ _ z => z) (fun _ _ _ z => z) (fun _ _ _ z => z) h
theorem gms_lc {i : Nat} {y : Str} {py spos : Pos} (hc : X.calm = true) (hN : X.N.Nodup) (hy : X.N[i]? = some y) (hyl : X.env.scope.names.lookup y = some .local) (hsw : swapsWith (.ListComp elt [⟨tg, it, ifs, 0⟩] scope pos) (some (.Name y py)) spos.line X.env = pure true)
    (hi : GI cl X tg it di) (ok : BlkOk X.N X.env.scope scope own) (hv : ∀ i ∈ us, i ∈ own.map (·.2)) (hg : BX' X scope fun Y => GN cl Y us tg n) (ht : BX' X scope fun Y => GTs cl Y ifs tt) (he : BX' X scope fun Y => GE cl Y elt de)
    (hs : ∀ x, foldedSetIterable it X.env x = pure x) : GMs cl X (.Assign [.Name y py] (.ListComp elt [⟨tg, it, ifs, 0⟩] scope pos) spos) i (mLc di n tt de (own.map (·.2))) := fun W tk =>
  PS.weak (ps_setLc (g := rN (wd X cl) us n) (tt := tX (wd X cl) (fun _ _ _ _ => False) RB tt) (te := tX (wd X cl) (fun _ _ _ _ => False) (RE (wd X cl)) de) hc hN hy hyl hsw (hi W tk) ok (fun s H C c' fp => hg s H C c' fp) (fun s H C c' fp => ht s H C c' fp _ takes_none) (fun s H C c' fp => he s H C c' fp _ takes_none) hs)
    fun D σ H h => rd_lc hv (fun _ z => z) (fun _ _ _ _ z => z) (fun _ _ _ z => z) (fun _ _ _ z => z) h
end

/-! two sources -/
def lc2L (n : NX) (t : BX) (i1 : IX) (n1 : NX) (t1 : BX) (e : EX) (vs1 : List Nat) : List D → LEnv → Store → Out (List D × Store)
  | [], _, S => .ok ([], S)
  | d :: ds, ρ, S => match n d ρ with
    | none => .stuck
    | some ρ' => (t ρ' S).calm.bind fun b => if b.1 then (i1 ρ' b.2).calm.bind fun p => (lcL n1 t1 e p.1 (wipeD ρ' vs1) p.2).calm.bind fun q => (lc2L n t i1 n1 t1 e vs1 ds ρ q.2).calm.bind fun r => .ok (q.1 ++ r.1, r.2)
        else lc2L n t i1 n1 t1 e vs1 ds ρ b.2
def lcEnd (acc : List D) (r : List D × Store) : Out (MO × Store) := if szOk (acc ++ r.1).length then .ok (.lst (acc ++ r.1), r.2) else .stuck
def mLc2 (i : IX) (n : NX) (t : BX) (i1 : IX) (n1 : NX) (t1 : BX) (e : EX) (vs vs1 : List Nat) : MX := fun ρ S => (i ρ S).bind fun p => (lc2L n t i1 n1 t1 e vs1 p.1 (wipeD ρ vs) p.2).calm.bind (lcEnd [])
theorem Out.calm_bind {α β : Type} (o : Out α) (f : α → Out β) : (o.calm.bind f).calm = o.calm.bind fun a => (f a).calm := by cases o <;> rfl
theorem Out.calm_calm {α : Type} (o : Out α) : o.calm.calm = o.calm := by cases o <;> rfl
theorem rd_lc2 {w : Wd} {W : WX} {di di1 : IX} {n n1 : NX} {tt tt1 : BX} {de : EX} {vs us vs1 us1 : List Nat} {wi wi1 : TI} {g g1' : TG} {t t1 : TT} {te : TE} {σ : L2.St} {H : Hp} {Q : VK} (hv : ∀ i ∈ us, i ∈ vs) (hv1 : ∀ i ∈ us1, i ∈ vs1)
    (hwi : ∀ R, tX w W (RI w) di σ H R → wi σ H R) (hg : ∀ v σ H Q, rN w us n v σ H Q → g v σ H Q) (ht : ∀ σ H Q, tX w (fun _ _ _ _ => False) RB tt σ H Q → t σ H Q)
    (hwi1 : ∀ σ H R, tX w (fun _ _ _ _ => False) (RI w) di1 σ H R → wi1 σ H R) (hg1 : ∀ v σ H Q, rN w us1 n1 v σ H Q → g1' v σ H Q) (ht1 : ∀ σ H Q, tX w (fun _ _ _ _ => False) RB tt1 σ H Q → t1 σ H Q)
    (he : ∀ σ H Q, tX w (fun _ _ _ _ => False) (RE w) de σ H Q → te σ H Q) (h : tX w W (RN w H) (mLc2 di n tt di1 n1 tt1 de vs vs1) σ H Q) : tLc2 wi g t wi1 g1' t1 te vs vs1 σ H Q := by
  obtain ⟨ρ, S, g0, sim, c⟩ := h
  refine hwi _ (Con.fst sim c fun J H1 items S1 g1 s1 f1 r1 c1 L hL => ?_)
  have r1 : ItD w g1 items J := r1
  have hL0 : H L = Option.none := f1.none hL
  obtain ⟨n1', n2⟩ := SimS.none s1.st hL
  have far : ∀ (i : Nat) o b, (wipeD ρ vs)[i]? = some (Slot.own o) → (wipe σ vs)[i]? = some (some (V.ref b)) → b ≠ L := (sim.wipe vs).far hL0
  refine ⟨fun i m Hc => m = items.length - i ∧ i ≤ items.length ∧ ∃ g2 S2 acc ws, Acc w g0 H L (wipeD ρ vs) (wipe σ vs) g1 g2 Hc S2 acc ws ∧ GG.Con w W σ (RN w H) g0 H Q ((lc2L n tt di1 n1 tt1 de vs1 (items.drop i) (wipeD ρ vs) S2).calm.bind (lcEnd acc)),
    ⟨_, rfl, Nat.zero_le _, g1, S1, [], [], ⟨(s1.wipe vs).off n1' n2 far, f1.off hL0, .refl, upd_same, hL0, n1', n2, .nil⟩, c1⟩, ?_⟩
  rintro i m Hc ⟨rfl, hi, g2, S2, acc, ws, A, c2⟩
  by_cases hlt : i < items.length
  · right
    rw [List.drop_eq_getElem_cons hlt] at c2
    obtain ⟨hgo, hy⟩ := r1.go g2 Hc S2 A.le A.sim.st i hlt
    refine ⟨hgo, fun Hc => ∃ g2 S2 acc ws, Acc w g0 H L (wipeD ρ vs) (wipe σ vs) g1 g2 Hc S2 acc ws ∧ GG.Con w W σ (RN w H) g0 H Q ((lc2L n tt di1 n1 tt1 de vs1 (items.drop (i + 1)) (wipeD ρ vs) S2).calm.bind (lcEnd acc)),
      fun H' h => ⟨items.length - (i + 1), by omega, rfl, hlt, h⟩, fun x H' y => ?_⟩
    obtain ⟨g3, d, ed, rd, s3, f3⟩ := hy x H' y
    rw [List.getElem?_eq_getElem hlt] at ed
    cases ed
    have A3 := A.step f3 s3
    unfold lc2L at c2
    cases en : n items[i] (wipeD ρ vs) with
    | none => rw [en] at c2; exact c2.elim
    | some ρ' =>
      rw [en] at c2
      dsimp only at c2
      refine hg _ _ _ _ ⟨_, _, S2, g3, ρ', A3.sim, rd, en, fun σ' s' k => ⟨by rw [k.wipe hv, wipe_wipe], ?_⟩⟩
      rw [Out.calm_bind, Out.bind_assoc] at c2
      refine ht _ _ _ (Con.calm_go s' c2 fun b H4 b' S4 g4 s4 f4 r4 c4 => ?_)
      have r4 : b' = b := r4
      subst r4
      have A4 := A3.step f4 s4.st
      cases b' with
      | false =>
        simp only [Bool.false_eq_true, if_false] at c4 ⊢
        exact ⟨g4, S4, acc, ws, A4, c4⟩
      | true =>
        simp only [if_true] at c4 ⊢
        rw [Out.calm_bind, Out.bind_assoc] at c4
        refine hwi1 _ _ _ (Con.calm_go s4 c4 fun J1 H5 items1 S5 g5 s5 f5 r5 c5 => ?_)
        have r5 : ItD w g5 items1 J1 := r5
        have A5 := A4.step f5 s5.st
        have far1 : ∀ (i : Nat) o b, (wipeD ρ' vs1)[i]? = some (Slot.own o) → (wipe σ' vs1)[i]? = some (some (V.ref b)) → b ≠ L := fun i o b e1 e2 => by
          rcases wipeD_get e1 with ⟨_, h⟩ | ⟨h1, h2⟩
          · cases h
          · rw [wipe_not h1] at e2
            obtain ⟨k1, k2⟩ := k.own i o h2
            exact far i o b k1 (k2 ▸ e2)
        -- the inner loop
        let I1 : Nat → Hp → Prop := fun j Hc => ∃ g6 S6 acc ws, Acc w g0 H L (wipeD ρ vs) (wipe σ vs) g1 g6 Hc S6 acc ws ∧ Acc w g0 H L (wipeD ρ' vs1) (wipe σ' vs1) g5 g6 Hc S6 acc ws ∧
          GG.Con w W σ (RN w H) g0 H Q ((lcL n1 tt1 de (items1.drop j) (wipeD ρ' vs1) S6).calm.bind fun q => (lc2L n tt di1 n1 tt1 de vs1 (items.drop (i + 1)) (wipeD ρ vs) q.2).calm.bind fun r => lcEnd acc (q.1 ++ r.1, r.2))
        refine ⟨fun j k Hc => k = items1.length - j ∧ j ≤ items1.length ∧ I1 j Hc, ⟨_, rfl, Nat.zero_le _, g5, S5, acc, ws, A5, ⟨s5.wipe vs1, A5.fr, .refl, A5.at_, hL0, A5.f1, A5.f2, A5.rep⟩, ?_⟩, ?_⟩
        · rw [Out.calm_bind, Out.bind_assoc] at c5
          refine Eq.mp (congrArg _ ?_) c5
          congr 1
          funext q
          rw [Out.calm_bind, Out.bind_assoc]
          rfl
        · rintro j k Hc ⟨rfl, hj, g6, S6, acc, ws, A6, B6, c6⟩
          by_cases hlt1 : j < items1.length
          · right
            rw [List.drop_eq_getElem_cons hlt1] at c6
            obtain ⟨hgo1, hy1⟩ := r5.go g6 Hc S6 B6.le B6.sim.st j hlt1
            refine ⟨hgo1, I1 (j + 1), fun H' h => ⟨items1.length - (j + 1), by omega, rfl, hlt1, h⟩, fun x H' y => ?_⟩
            obtain ⟨g7, d7, ed7, rd7, s7, f7⟩ := hy1 x H' y
            rw [List.getElem?_eq_getElem hlt1] at ed7
            cases ed7
            have A7 := A6.step f7 s7
            have B7 := B6.step f7 s7
            unfold lcL at c6
            cases en1 : n1 items1[j] (wipeD ρ' vs1) with
            | none => rw [en1] at c6; exact c6.elim
            | some ρ3 =>
              rw [en1] at c6
              dsimp only at c6
              refine hg1 _ _ _ _ ⟨_, _, S6, g7, ρ3, B7.sim, rd7, en1, fun σ3 s8 k3 => ⟨by rw [k3.wipe hv1, wipe_wipe], ?_⟩⟩
              rw [Out.calm_bind, Out.bind_assoc] at c6
              refine ht1 _ _ _ (Con.calm_go s8 c6 fun b H9 b' S9 g9 s9 f9 r9 c9 => ?_)
              have r9 : b' = b := r9
              subst r9
              have A9 := A7.step f9 s9.st
              have B9 := B7.step f9 s9.st
              cases b' with
              | false =>
                simp only [Bool.false_eq_true, if_false] at c9 ⊢
                exact ⟨g9, S9, acc, ws, A9, B9, c9⟩
              | true =>
                simp only [if_true] at c9 ⊢
                rw [Out.calm_bind, Out.bind_assoc] at c9
                refine he _ _ _ (Con.calm_go s9 c9 fun v Ha d5 Sa ga sa fa ra ca => ?_)
                have Aa := A9.step fa sa.st
                have Ba := B9.step fa sa.st
                have la : acc.length = ws.length := Aa.rep.length
                have ca : GG.Con w W σ (RN w H) g0 H Q ((lcL n1 tt1 de (items1.drop (j + 1)) (wipeD ρ' vs1) Sa).calm.bind fun q => (lc2L n tt di1 n1 tt1 de vs1 (items.drop (i + 1)) (wipeD ρ vs) q.2).calm.bind fun r => lcEnd (acc ++ [d5]) (q.1 ++ r.1, r.2)) := by
                  refine Eq.mp (congrArg _ ?_) ca
                  dsimp only
                  cases lcL n1 tt1 de (items1.drop (j + 1)) (wipeD ρ' vs1) Sa with
                  | ok q =>
                    show ((lc2L n tt di1 n1 tt1 de vs1 (items.drop (i + 1)) (wipeD ρ vs) q.2).calm.bind fun r => lcEnd acc (d5 :: q.1 ++ r.1, r.2)) = ((lc2L n tt di1 n1 tt1 de vs1 (items.drop (i + 1)) (wipeD ρ vs) q.2).calm.bind fun r => lcEnd (acc ++ [d5]) (q.1 ++ r.1, r.2))
                    congr 1
                    funext r
                    simp [lcEnd]
                  | exc _ _ _ => rfl
                  | stuck => rfl
                have sz : acc.length < sizeLine := by
                  cases e1 : lcL n1 tt1 de (items1.drop (j + 1)) (wipeD ρ' vs1) Sa with
                  | ok q =>
                    rw [e1] at ca
                    simp only [Out.calm_ok, Out.bind_ok] at ca
                    cases e2 : lc2L n tt di1 n1 tt1 de vs1 (items.drop (i + 1)) (wipeD ρ vs) q.2 with
                    | ok r =>
                      rw [e2] at ca
                      simp only [Out.calm_ok, Out.bind_ok] at ca
                      unfold lcEnd at ca
                      split at ca
                      · rename_i hz
                        have hz := of_decide_eq_true hz
                        simp only [List.length_append, List.length_singleton] at hz
                        omega
                      · exact ca.elim
                    | exc _ _ _ => rw [e2] at ca; exact ca.elim
                    | stuck => rw [e2] at ca; exact ca.elim
                  | exc _ _ _ => rw [e1] at ca; exact ca.elim
                  | stuck => rw [e1] at ca; exact ca.elim
                exact ⟨ws, Aa.at_, by omega, ga, Sa, acc ++ [d5], ws ++ [v], Aa.push ra far, Ba.push ra far1, ca⟩
          · left
            have e : j = items1.length := by omega
            subst e
            rw [List.drop_length] at c6
            refine ⟨r5.done g6 Hc S6 B6.le B6.sim.st, g6, S6, acc, ws, A6, ?_⟩
            exact c6
  · left
    have e : i = items.length := by omega
    subst e
    rw [List.drop_length] at c2
    have c2 : GG.Con w W σ (RN w H) g0 H Q (lcEnd acc ([], S2)) := c2
    unfold lcEnd at c2
    dsimp only at c2
    rw [List.append_nil] at c2
    split at c2
    · exact ⟨r1.done g2 Hc S2 A.le A.sim.st, A.done c2⟩
    · exact c2.elim
section
variable {elt tg1 it1 : Expr} {ifs ifs1 : List Expr} {scope : Scope} {own : List (Str × Nat)} {di di1 : IX} {n n1 : NX} {tt tt1 : BX} {de : EX} {us us1 vs1 : List Nat}
theorem gm_lc2 (hc : X.calm = true) (hN : X.N.Nodup) (hi : GI cl X tg it di) (ok : BlkOk X.N X.env.scope scope own) (hvv : ∀ i ∈ vs1, i ∈ own.map (·.2)) (hv : ∀ i ∈ us, i ∈ own.map (·.2)) (hv1 : ∀ i ∈ us1, i ∈ vs1) (hg : BX' X scope fun Y => GN cl Y us tg n) (ht : BX' X scope fun Y => GTs cl Y ifs tt)
    (hi1 : BX' X scope fun Y => GI cl Y tg1 it1 di1) (hg1 : BX' X scope fun Y => GN cl Y us1 tg1 n1) (ht1 : BX' X scope fun Y => GTs cl Y ifs1 tt1) (he : BX' X scope fun Y => GE cl Y elt de) (hs : ∀ x, foldedSetIterable it X.env x = pure x) (hs1 : ∀ env x, foldedSetIterable it1 env x = pure x) :
    GM cl X (.ListComp elt [⟨tg, it, ifs, 0⟩, ⟨tg1, it1, ifs1, 0⟩] scope pos) (mLc2 di n tt di1 n1 tt1 de (own.map (·.2)) vs1) := fun W tk =>
  PE.weak (pe_lc2 (g := rN (wd X cl) us n) (tt := tX (wd X cl) (fun _ _ _ _ => False) RB tt) (wi1 := tX (wd X cl) (fun _ _ _ _ => False) (RI (wd X cl)) di1) (g1 := rN (wd X cl) us1 n1) (tt1 := tX (wd X cl) (fun _ _ _ _ => False) RB tt1) (te := tX (wd X cl) (fun _ _ _ _ => False) (RE (wd X cl)) de)
      hc hN (hi W tk) ok hvv (fun s H C c' fp => hg s H C c' fp) (fun s H C c' fp => ht s H C c' fp _ takes_none) (fun s H C c' fp => hi1 s H C c' fp _ takes_none) (fun s H C c' fp => hg1 s H C c' fp) (fun s H C c' fp => ht1 s H C c' fp _ takes_none) (fun s H C c' fp => he s H C c' fp _ takes_none) hs hs1)
    fun σ H Q h => rd_lc2 hv hv1 (fun _ z => z) (fun _ _ _ _ z => z) (fun _ _ _ z => z) (fun _ _ _ z => z) (fun _ _ _ _ z => z) (fun _ _ _ z => z) (fun _ _ _ z => z) h
theorem gms_lc2 {i : Nat} {y : Str} {py spos : Pos} (hc : X.calm = true) (hN : X.N.Nodup) (hy : X.N[i]? = some y) (hyl : X.env.scope.names.lookup y = some .local) (hsw : swapsWith (.ListComp elt [⟨tg, it, ifs, 0⟩, ⟨tg1, it1, ifs1, 0⟩] scope pos) (some (.Name y py)) spos.line X.env = pure true)
    (hi : GI cl X tg it di) (ok : BlkOk X.N X.env.scope scope own) (hvv : ∀ i ∈ vs1, i ∈ own.map (·.2)) (hv : ∀ i ∈ us, i ∈ own.map (·.2)) (hv1 : ∀ i ∈ us1, i ∈ vs1) (hg : BX' X scope fun Y => GN cl Y us tg n) (ht : BX' X scope fun Y => GTs cl Y ifs tt)
    (hi1 : BX' X scope fun Y => GI cl Y tg1 it1 di1) (hg1 : BX' X scope fun Y => GN cl Y us1 tg1 n1) (ht1 : BX' X scope fun Y => GTs cl Y ifs1 tt1) (he : BX' X scope fun Y => GE cl Y elt de) (hs : ∀ x, foldedSetIterable it X.env x = pure x) (hs1 : ∀ env x, foldedSetIterable it1 env x = pure x) :
    GMs cl X (.Assign [.Name y py] (.ListComp elt [⟨tg, it, ifs, 0⟩, ⟨tg1, it1, ifs1, 0⟩] scope pos) spos) i (mLc2 di n tt di1 n1 tt1 de (own.map (·.2)) vs1) := fun W tk =>
  PS.weak (ps_setLc2 (g := rN (wd X cl) us n) (tt := tX (wd X cl) (fun _ _ _ _ => False) RB tt) (wi1 := tX (wd X cl) (fun _ _ _ _ => False) (RI (wd X cl)) di1) (g1 := rN (wd X cl) us1 n1) (tt1 := tX (wd X cl) (fun _ _ _ _ => False) RB tt1) (te := tX (wd X cl) (fun _ _ _ _ => False) (RE (wd X cl)) de)
      hc hN hy hyl hsw (hi W tk) ok hvv (fun s H C c' fp => hg s H C c' fp) (fun s H C c' fp => ht s H C c' fp _ takes_none) (fun s H C c' fp => hi1 s H C c' fp _ takes_none) (fun s H C c' fp => hg1 s H C c' fp) (fun s H C c' fp => ht1 s H C c' fp _ takes_none) (fun s H C c' fp => he s H C c' fp _ takes_none) hs hs1)
    fun D σ H h => rd_lc2 hv hv1 (fun _ z => z) (fun _ _ _ _ z => z) (fun _ _ _ z => z) (fun _ _ _ z => z) (fun _ _ _ _ z => z) (fun _ _ _ z => z) (fun _ _ _ z => z) h
end
end GG
end

section
/-! G.K: defs and their calls. -/
set_option linter.all false
set_option maxRecDepth 100000
namespace GG
open PySem L2
open PyProof.Rows hiding St

def ConD (w : Wd) (g : Gh) (H : Hp) (Q : VK) (E : XK) (o : Out (D × Store)) : Prop := GG.Con w (fun c d _ H => E c d H) [] (RE w) g H Q o
/-- the promise of a def with n parameters -/
def spD (w : Wd) (n : Nat) (den : Den) : Sp := fun vs H Q E => vs.length = n ∧ ∃ ds S g, SimS w g H S ∧ RepL w g ds vs ∧ ConD w g H Q E (den ds S)
structure FnD (P : Program) (w : World) (K : PySem.W.Frag) (mg : Str → Option Value) (base : Heap) (cl : Wp) (k n : Nat) (f : Addr) (den : Den) : Prop where
  ar : ∀ ds S, den ds S ≠ .stuck → ds.length = n
  ex : ∃ fd ps, FnOk P w K mg base (L2.CX P w) k f fd ps (spD ⟨K, mg, cl.cl, cl.kc, cl.xa⟩ n den) ∧ PySem.W.keepIn K (.ref f) = true ∧ Binds K fd ps []
theorem FnD.mono {P : Program} {w : World} {K : PySem.W.Frag} {mg : Str → Option Value} {base : Heap} {cl : Wp} {k k' n : Nat} {f : Addr} {den : Den} (F : FnD P w K mg base cl k n f den) (h : k ≤ k') : FnD P w K mg base cl k' n f den :=
  ⟨F.ar, let ⟨fd, ps, F1, h1, h2⟩ := F.ex; ⟨fd, ps, F1.mono h, h1, h2⟩⟩
abbrev FX (X : Cx) (cl : Wp) (k n : Nat) (f : Addr) (den : Den) : Prop := FnD X.prog X.w X.K X.mg X.base cl k n f den
section
variable {cl : Wp} {X : Cx} {W : WX} {k n : Nat} {f : Addr} {den : Den} {e : Expr} {es : List Expr} {t : AX} {pos : Pos}
/-- what a call wants of its outcome is what its place wants -/
theorem conD_of {w : Wd} {σ : L2.St} {g : Gh} {H : Hp} {Q : VK} {o : Out (D × Store)} (c : GG.Con w W σ (RE w) g H Q o) : ConD w g H Q (WE W σ) o := by
  cases o with
  | ok p => exact c
  | exc x fs S => exact c
  | stuck => exact c.elim
theorem con_ns {w : Wd} {σ : L2.St} {g : Gh} {H : Hp} {α β : Type} {R : Gh → Hp → α → β → Prop} {Q : β → Hp → Prop} {o : Out (α × Store)} (c : GG.Con w W σ R g H Q o) : o ≠ .stuck := fun z => by rw [z] at c; exact c
/-- the callee runs -/
theorem run_D {pins : List (Addr × Obj)} {σ : L2.St} {H : Hp} {s : Shared} {Q : VK} {us : List Value} {vs : List V} {ds : List D} {S : Store} {g : Gh} (F : FX X cl k n f den) (hr : Room k X.A) (tk : Takes X W) (I : Inv X pins σ H s) (r : Vals vs us)
    (sm : SimS (wd X cl) g H S) (rp : RepL (wd X cl) g ds vs) (c : GG.Con (wd X cl) W σ (RE (wd X cl)) g H Q (den ds S)) : wpAny (model X.prog X.w) X.A (call (.ref f) us) (EP X pins σ Q) X.xe s := by
  obtain ⟨fd, ps, F1, h1, h2⟩ := F.ex
  exact run_fnS F1 hr h2 (passAt tk σ) I r ⟨by rw [← rp.length]; exact F.ar _ _ (con_ns c), ds, S, g, sm, rp, conD_of c⟩
theorem FnD.kp (F : FX X cl k n f den) : PySem.W.keepIn X.K (.ref f) = true := let ⟨_, _, _, h, _⟩ := F.ex; h
/-- the arguments are there, and what stands behind them is wanted -/
def Ready (w : Wd) (W : WX) (σ : L2.St) (Q : VK) (den : Den) : List V → Hp → Prop := fun vs H => ∃ ds S g, SimS w g H S ∧ RepL w g ds vs ∧ GG.Con w W σ (RE w) g H Q (den ds S)
theorem rd_args {w : Wd} {σ : L2.St} {H : Hp} {Q : VK} {ρ : LEnv} {S : Store} {g : Gh} (sim : Sim w g H ρ σ S) (c : GG.Con w W σ (RE w) g H Q ((t ρ S).bind fun p => den p.1 p.2)) : tX w W (RA w) t σ H (Ready w W σ Q den) :=
  Con.fst sim c fun vs H1 ds S1 g1 s1 f1 r1 c1 => ⟨ds, S1, g1, s1.st, r1, Con.fr c1 f1⟩
theorem run_R {pins : List (Addr × Obj)} {σ : L2.St} {H : Hp} {s : Shared} {Q : VK} {us : List Value} {vs : List V} (F : FX X cl k n f den) (hr : Room k X.A) (tk : Takes X W) (I : Inv X pins σ H s) (r : Vals vs us) (h : Ready (wd X cl) W σ Q den vs H) :
    wpAny (model X.prog X.w) X.A (call (.ref f) us) (EP X pins σ Q) X.xe s := by
  obtain ⟨ds, S, g, sm, rp, c⟩ := h
  exact run_D F hr tk I r sm rp c
theorem ge_call {x : Str} {p : Pos} (F : FX X cl k n f den) (hr : Room k X.A) (hg : Gl X x) (hm : X.mg x = some (.ref f)) (ha : GA cl X (e :: es) t) (hdb : (x == ("__debug__" : Str)) = false)
    (he : starEach (e :: es) X.env = (false, eval e X.env) :: starEach es X.env) (hpl : (backTo pos (starEach es X.env)).any (·.1) = false) : GE cl X (.Call (.Name x p) (e :: es) [] pos) (eCall den t) := fun W tk => by
  refine ⟨fun pins s σ H Q I ⟨ρ, S, g, sim, c⟩ => wpAny_Call_Name_kw (ld_glob I hg hm ?_ hdb)⟩
  exact PySem.W.callWith_K (h₀ := X.base) I.ok.mod.kin F.kp (thn ((ha W tk).run pos pins s σ H _ I (rd_args sim c)) fun us s1 ⟨vs, H1, I1, r, q⟩ => ⟨I1.kIn, run_R F hr tk I1 r q⟩) he hpl
theorem ge_call0 {x : Str} {p : Pos} (F : FX X cl k n f den) (hr : Room k X.A) (hg : Gl X x) (hm : X.mg x = some (.ref f)) (hdb : (x == ("__debug__" : Str)) = false) : GE cl X (.Call (.Name x p) [] [] pos) (eCall den aN) := fun W tk => by
  refine ⟨fun pins s σ H Q I ⟨ρ, S, g, sim, c⟩ => wpAny_Call_Name_kw (ld_glob I hg hm ?_ hdb)⟩
  exact PySem.W.callWith_K0 I.kIn F.kp (run_D (us := []) (vs := []) (ds := []) F hr tk I .nil sim.st .nil c)

/-! ### a local that holds a def of the module -/
abbrev GTab := List (Str × Den)
def eCallV (i : Nat) (tab : GTab) (t : AX) : EX := fun ρ S => match ρ[i]? with
  | some (.val (.gl x)) => match tab.lookup x with
    | some den => (t ρ S).bind fun p => den p.1 p.2
    | none => .stuck
  | _ => .stuck
theorem ge_callV {x : Str} {p : Pos} {i : Nat} {tab : GTab} (F : ∀ y den, tab.lookup y = some den → ∃ n f, X.mg y = some (.ref f) ∧ FX X cl k n f den) (hr : Room k X.A) (hN : X.N[i]? = some x) (hv : Vis X.env.scope x) (ha : GA cl X (e :: es) t) (hd : (x == ("__debug__" : Str)) = false)
    (hcd : (x == ("__classdict__" : Str)) = false) (he : starEach (e :: es) X.env = (false, eval e X.env) :: starEach es X.env) (hpl : (backTo pos (starEach es X.env)).any (·.1) = false) : GE cl X (.Call (.Name x p) (e :: es) [] pos) (eCallV i tab t) := fun W tk => by
  refine ⟨fun pins s σ H Q I ⟨ρ, S, g, sim, c⟩ => ?_⟩
  unfold eCallV at c
  split at c
  · rename_i y ey
    obtain ⟨v, h1, h2⟩ := sim.val i _ ey
    obtain ⟨f, hm, rfl⟩ := rep_gl.mp h2
    have hm : X.mg y = some (.ref f) := hm
    split at c
    · rename_i den e2
      obtain ⟨n, f', hm', Fd⟩ := F y den e2
      rw [hm'] at hm; cases hm
      refine wpAny_Call_Name_kw (thn ((pe_var (pos := p) hN hv hd hcd).run pins s σ H (fun v H1 => v = .ref f ∧ H1 = H) I ⟨.ref f, h1, rfl, rfl⟩) fun u s1 ⟨v, H1, I1, r1, q1⟩ => ?_)
      obtain ⟨rfl, rfl⟩ := q1
      cases r1
      exact PySem.W.callWith_K (h₀ := X.base) I1.ok.mod.kin Fd.kp (thn ((ha W tk).run pos pins s1 σ _ _ I1 (rd_args sim c)) fun us s1 ⟨vs, H1, I1, r, q⟩ => ⟨I1.kIn, run_R Fd hr tk I1 r q⟩) he hpl
    · exact c.elim
  · exact c.elim

/-! ### a def, by its body -/
def startD (m : Nat) (ds : List D) : LEnv := ds.map .val ++ List.replicate m .no
def endD : SOut → Out (D × Store)
  | .rt d S => .ok (d, S)
  | .nx _ S => .ok (.non, S)
  | .ex c fs _ S => .exc c fs S
  | _ => .stuck
def runD (n m : Nat) (body : SX) : Den := fun ds S => if ds.length = n then endD (body (startD m ds) S) else .stuck
theorem sim_start {w : Wd} {g : Gh} {H : Hp} {S : Store} {ds : List D} {vs : List V} {N : List Str} {m : Nat} (s : SimS w g H S) (r : RepL w g ds vs) (hm : N.length = vs.length + m) : Sim w g H (startD m ds) (L2.start N vs) S := by
  have own : ∀ (i : Nat) o, (startD m ds)[i]? = some (Slot.own o) → False := fun i o e => by
    have e := List.mem_of_getElem? e
    unfold startD at e
    simp only [List.mem_append, List.mem_map, List.mem_replicate] at e
    rcases e with ⟨_, _, e⟩ | ⟨_, e⟩ <;> cases e
  refine ⟨s, ?_, fun i d e => ?_, fun i o e => (own i o e).elim, fun i j o u a e1 => (own i o e1).elim, fun i e => ?_⟩
  · unfold startD L2.start
    rw [List.length_append, List.length_append, List.length_map, List.length_map, List.length_replicate, List.length_replicate, r.length]; omega
  · unfold startD at e
    by_cases hi : i < ds.length
    · rw [List.getElem?_append_left (by rw [List.length_map]; exact hi), List.getElem?_map] at e
      cases e2 : ds[i]? with
      | none => rw [e2] at e; cases e
      | some x =>
        rw [e2] at e; cases e
        obtain ⟨v, h1, h2⟩ := r.get e2
        refine ⟨v, ?_, h2⟩
        unfold L2.start
        rw [List.getElem?_append_left (by rw [List.length_map, ← r.length]; exact hi), List.getElem?_map, h1]; rfl
    · rw [List.getElem?_append_right (by rw [List.length_map]; omega)] at e
      have e := List.mem_of_getElem? e
      rw [List.mem_replicate] at e
      cases e.2
  · have e := List.mem_of_getElem? e
    unfold startD at e
    simp only [List.mem_append, List.mem_map, List.mem_replicate] at e
    rcases e with ⟨_, _, e⟩ | ⟨_, e⟩ <;> cases e
theorem endD_ns {o : SOut} (h : endD o ≠ .stuck) : True := trivial
/-- what is wanted of the def is what is wanted of its body -/
theorem conS_end {w : Wd} {g : Gh} {H : Hp} {Q : VK} {E : XK} {o : SOut} (c : ConD w g H Q E (endD o)) : ConS w (fun cls d _ H => E cls d H) ⟨g, H, fun _ => False, none⟩ { nx := fun _ H' => Q .non H', rt := Q } o := by
  cases o with
  | nx ρ S => exact fun σ g' H' s o => c .non g' H' s.st o.o.toFr (rep_non.mpr rfl)
  | rt d S => exact fun v g' H' s o r => c v g' H' s o.toFr r
  | ex x fs ρ S => exact fun C d σ g' H' s o m x => c C d g' H' s.st o.o.toFr m x
  | bk ρ S => exact c.elim
  | ct ρ S => exact c.elim
  | stuck => exact c.elim
theorem fnD_of {P : Program} {w : World} {K : PySem.W.Frag} {mg : Str → Option Value} {base : Heap} {x qual : Str} {st : Stmt} {fd : FuncData} {N ps : List Str} {m : Nat} {body : SX} (F : Fun K x qual st f fd) (hS : FnScope N ps (defScope st)) (hn : ps.length = n) (hm : N.length = n + m) (hb : Binds K fd ps [])
    (B : ∀ (cdv : Value) (A : Around) (outer : List Env) (s : Shared) (H : Hp) (E : XK), Room k (A.deeper (envOfC qual (defScope st) s.heap.objs.size f cdv)) → GSs cl (cxOf (L2.CX P w) P w K mg base N qual (defScope st) f cdv A outer s H E) (defBody st) body) :
    FnD P w K mg base cl (k + 1) n f (runD n m body) := by
  refine ⟨fun ds S h => ?_, fd, ps, ?_, F.kp, hb⟩
  · unfold runD at h
    split at h
    · assumption
    · exact absurd rfl h
  · refine Fun.okX F hS (fun vs H Q E h => by rw [h.1, hn]) fun cdv A outer s H vs Q E hr ⟨hl, ds, S, g, sm, rp, c⟩ => ?_
    unfold runD at c
    split at c
    · refine ⟨_, B cdv A outer s H E hr _ (takes_of (E := E) rfl rfl rfl rfl) (passes_of rfl), _, S, g, ⟨g, H, fun _ => False, none⟩, sim_start sm rp (by rw [hm, hl]), ⟨⟨.refl, fun _ _ h f m _ => ⟨h, f, m⟩, fun _ _ h => ⟨_, h⟩⟩, fun i o a e => ?_, fun p o e => nomatch e⟩, conS_end c⟩
      have e := List.mem_of_getElem? e
      unfold startD at e
      simp only [List.mem_append, List.mem_map, List.mem_replicate] at e
      rcases e with ⟨_, _, e⟩ | ⟨_, e⟩ <;> cases e
    · exact c.elim
end
end GG
end

section
/-! G.K2: things that a def works on as its own (self in __init__), classes called, methods. -/
set_option linter.all false
set_option maxRecDepth 100000
namespace GG
open PySem L2
open PyProof.Rows hiding St

abbrev DenO := MO → List D → Store → Out (MO × Store)
/-- what is wanted behind a def that worked on the thing at p -/
def ConO (w : Wd) (W : Value → Option Addr → Hp → Prop) (p : Addr) (g : Gh) (H : Hp) (Q : Hp → Prop) : Out (MO × Store) → Prop
  | .ok q => ∀ g' H', SimS w g' H' q.2 → Out0 ⟨g, H, fun a => a = p, none⟩ g' H' → g'.F p = none → (∀ j, g'.m j ≠ some p) → MOk w g' H' p q.1 → Q H'
  | .exc c fs S' => ∀ C d g' H', SimS w g' H' S' → Out0 ⟨g, H, fun a => a = p, none⟩ g' H' → w.mg c = some (.ref C) → XRep w g' H' d fs → W (.ref C) d H'
  | .stuck => False
def spO (w : Wd) (n : Nat) (den : DenO) : Sp := fun vs H Q E => vs.length = n + 1 ∧ ∃ p us mo ds S g, vs = .ref p :: us ∧ g.F p = none ∧ (∀ j, g.m j ≠ some p) ∧ MOk w g H p mo ∧ SimS w g H S ∧ RepL w g ds us ∧ ConO w E p g H (fun H' => Q .non H') (den mo ds S)
structure FnO (P : Program) (w : World) (K : PySem.W.Frag) (mg : Str → Option Value) (base : Heap) (cl : Wp) (k n : Nat) (f : Addr) (den : DenO) : Prop where
  ar : ∀ mo ds S, den mo ds S ≠ .stuck → ds.length = n
  ex : ∃ fd ps, FnOk P w K mg base (L2.CX P w) k f fd ps (spO ⟨K, mg, cl.cl, cl.kc, cl.xa⟩ n den) ∧ PySem.W.keepIn K (.ref f) = true ∧ Binds K fd ps []
theorem FnO.mono {P : Program} {w : World} {K : PySem.W.Frag} {mg : Str → Option Value} {base : Heap} {cl : Wp} {k k' n : Nat} {f : Addr} {den : DenO} (F : FnO P w K mg base cl k n f den) (h : k ≤ k') : FnO P w K mg base cl k' n f den :=
  ⟨F.ar, let ⟨fd, ps, F1, h1, h2⟩ := F.ex; ⟨fd, ps, F1.mono h, h1, h2⟩⟩
abbrev FO (X : Cx) (cl : Wp) (k n : Nat) (f : Addr) (den : DenO) : Prop := FnO X.prog X.w X.K X.mg X.base cl k n f den
def startO (m : Nat) (mo : MO) (ds : List D) : LEnv := .own mo :: startD m ds
def endO : SOut → Out (MO × Store)
  | .nx ρ S => match ρ[0]? with
    | some (Slot.own mo) => .ok (mo, S)
    | _ => .stuck
  | .ex c fs _ S => .exc c fs S
  | _ => .stuck
def runO (n m : Nat) (body : SX) : DenO := fun mo ds S => if ds.length = n then endO (body (startO m mo ds) S) else .stuck
section
variable {cl : Wp} {X : Cx} {W : WX} {k n : Nat} {f : Addr} {den : DenO} {e : Expr} {es : List Expr} {t : AX} {pos : Pos}
theorem startD_no {m : Nat} {ds : List D} {i : Nat} {o : MO} (e : (startD m ds)[i]? = some (Slot.own o)) : False := by
  have e := List.mem_of_getElem? e
  unfold startD at e
  simp only [List.mem_append, List.mem_map, List.mem_replicate] at e
  rcases e with ⟨_, _, e⟩ | ⟨_, e⟩ <;> cases e
theorem sim_startO {w : Wd} {g : Gh} {H : Hp} {S : Store} {ds : List D} {vs : List V} {x : Str} {N : List Str} {m : Nat} {p : Addr} {mo : MO} (s : SimS w g H S) (r : RepL w g ds vs) (hm : N.length = vs.length + m) (h1 : g.F p = none) (h2 : ∀ j, g.m j ≠ some p) (h3 : MOk w g H p mo) :
    Sim w g H (startO m mo ds) (L2.start (x :: N) (.ref p :: vs)) S := by
  have q := sim_start (N := N) s r hm
  have e0 : L2.start (x :: N) (.ref p :: vs) = some (V.ref p) :: L2.start N vs := by
    unfold L2.start
    simp [Nat.add_sub_add_right]
  rw [e0]
  refine ⟨s, by simp [startO, q.len], fun i d e => ?_, fun i o e => ?_, fun i j o u a e1 e2 e3 e4 => ?_, fun i e => ?_⟩
  · cases i with
    | zero => cases e
    | succ i => exact q.val i d (by simpa [startO] using e)
  · cases i with
    | zero => cases e; exact ⟨p, rfl, h1, h2, h3⟩
    | succ i => exact (startD_no (by simpa [startO] using e)).elim
  · cases i with
    | succ i => exact (startD_no (by simpa [startO] using e1)).elim
    | zero => cases j with
      | succ j => exact (startD_no (by simpa [startO] using e2)).elim
      | zero => rfl
  · cases i with
    | zero => cases e
    | succ i => exact q.xc i (by simpa [startO] using e)
theorem conS_endO {w : Wd} {g : Gh} {H : Hp} {Q : VK} {E : XK} {p : Addr} {o : SOut} (c : ConO w E p g H (fun H' => Q .non H') (endO o)) : ConS w (fun cls d _ H => E cls d H) ⟨g, H, fun a => a = p, some p⟩ { nx := fun _ H' => Q .non H', rt := Q } o := by
  cases o with
  | nx ρ S =>
    intro σ g' H' s o
    have stk : ∀ {x : Out (MO × Store)}, endO (.nx ρ S) = x → ConO w E p g H (fun H' => Q .non H') x := fun {x} h => h ▸ c
    cases e : ρ[0]? with
    | none => exact (stk (x := .stuck) (by simp only [endO, e])).elim
    | some sl =>
      cases sl with
      | no => exact (stk (x := .stuck) (by simp only [endO, e])).elim
      | val d => exact (stk (x := .stuck) (by simp only [endO, e])).elim
      | xc => exact (stk (x := .stuck) (by simp only [endO, e])).elim
      | own mo =>
        have c := stk (x := .ok (mo, S)) (by simp only [endO, e])
        obtain ⟨a, k1, k2, k3, k4⟩ := s.own 0 mo e
        have e2 := o.fx p mo rfl e
        rw [k1] at e2; cases e2
        exact c g' H' s.st ⟨o.o.le, o.o.out, o.o.th⟩ k2 k3 k4
  | rt d S => exact c.elim
  | ex x fs ρ S => exact fun C d σ g' H' s o m x => c C d g' H' s.st ⟨o.o.le, o.o.out, o.o.th⟩ m x
  | bk ρ S => exact c.elim
  | ct ρ S => exact c.elim
  | stuck => exact c.elim
theorem fnO_of {P : Program} {w : World} {K : PySem.W.Frag} {mg : Str → Option Value} {base : Heap} {x y qual : Str} {st : Stmt} {fd : FuncData} {N ps : List Str} {m : Nat} {body : SX} (F : Fun K x qual st f fd) (hS : FnScope (y :: N) ps (defScope st)) (hn : ps.length = n + 1) (hm : N.length = n + m) (hb : Binds K fd ps [])
    (B : ∀ (cdv : Value) (A : Around) (outer : List Env) (s : Shared) (H : Hp) (E : XK), Room k (A.deeper (envOfC qual (defScope st) s.heap.objs.size f cdv)) → GSs cl (cxOf (L2.CX P w) P w K mg base (y :: N) qual (defScope st) f cdv A outer s H E) (defBody st) body) :
    FnO P w K mg base cl (k + 1) n f (runO n m body) := by
  refine ⟨fun mo ds S h => ?_, fd, ps, ?_, F.kp, hb⟩
  · unfold runO at h
    split at h
    · assumption
    · exact absurd rfl h
  · refine Fun.okX F hS (fun vs H Q E h => by rw [h.1, hn]) fun cdv A outer s H vs Q E hr ⟨hl, p, us, mo, ds, S, g, ev, h1, h2, h3, sm, rp, c⟩ => ?_
    subst ev
    unfold runO at c
    split at c
    · refine ⟨_, B cdv A outer s H E hr _ (takes_of (E := E) rfl rfl rfl rfl) (passes_of rfl), _, S, g, ⟨g, H, fun a => a = p, some p⟩, sim_startO sm rp (by rw [hm]; simp at hl; omega) h1 h2 h3, ⟨⟨.refl, fun _ _ h f m _ => ⟨h, f, m⟩, fun _ _ h => ⟨_, h⟩⟩, fun i o a e e' => ?_, fun q o e _ => ?_⟩, conS_endO c⟩
      · cases i with
        | succ i => exact (startD_no (by simpa [startO] using e)).elim
        | zero =>
          have e' : some (some (V.ref p)) = some (some (V.ref a)) := e'
          cases e'; exact .inr rfl
      · cases e; rfl
    · exact c.elim

/-! ### a class called -/
/-- the thing that a class makes -/
def mMk (c : Str) (den : DenO) (t : AX) : MX := fun ρ S => (t ρ S).bind fun p => den (.ins c [] []) p.1 p.2
/-- the arguments are there, and what stands behind making it is wanted -/
def ReadyM (w : Wd) (W : WX) (σ : L2.St) (H0 : Hp) (Q : VK) (c : Str) (den : DenO) : List V → Hp → Prop := fun vs H => ∃ ds S g, SimS w g H S ∧ RepL w g ds vs ∧ (∀ a, H a = none → H0 a = none) ∧ GG.Con w W σ (RN w H0) g H Q (den (.ins c [] []) ds S)
theorem run_M {pins : List (Addr × Obj)} {σ : L2.St} {H H0 : Hp} {s : Shared} {Q : VK} {us : List Value} {vs : List V} {c : Str} {C : Addr} (M : Mk X.K C f) (hmg : X.mg c = some (.ref C)) (hkc : cl.kc c) (F : FO X cl k n f den) (hr : Room (k + 1) X.A) (tk : Takes X W) (I : Inv X pins σ H s) (r : Vals vs us)
    (h : ReadyM (wd X cl) W σ H0 Q c den vs H) : wpAny (model X.prog X.w) X.A (call (.ref C) us) (EP X pins σ Q) X.xe s := by
  obtain ⟨ds, S, g, sm, rp, h0, cc⟩ := h
  obtain ⟨fd, ps, F1, _, hb⟩ := F.ex
  generalize hx : s.heap.objs.size + 1 = x
  generalize hd : s.heap.objs.size = dx
  have nx : H x = none := I.hok.fresh (by rw [← hx]; exact Nat.le_succ _)
  have nd : H dx = none := I.hok.fresh (by rw [← hd]; exact Nat.le_refl _)
  have ne : dx ≠ x := by rw [← hx, ← hd]; exact Nat.ne_of_lt (Nat.lt_succ_self _)
  have I2 := Inv.made (C := C) I
  rw [hx, hd] at I2
  obtain ⟨x1, x2⟩ := SimS.none sm nx
  obtain ⟨d1, d2⟩ := SimS.none sm nd
  have sm2 : SimS (wd X cl) g (upd (upd H dx (.own x)) x (.ins C dx [])) S := (sm.off d1 d2).off x1 x2
  have keep : ∀ a u, H a = some u → upd (upd H dx (.own x)) x (.ins C dx []) a = some u := fun a u e => by rw [upd_ne (ne_of_none e nx), upd_ne (ne_of_none e nd)]; exact e
  have back : ∀ {g' : Gh} {H' : Hp}, Out0 ⟨g, upd (upd H dx (.own x)) x (.ins C dx []), fun a => a = x, none⟩ g' H' → GG.Fr g H g' H' := fun {g' H'} o => ⟨o.le, fun a u e1 e2 e3 => o.out a u (keep a u e1) e2 e3 (ne_of_none e1 nx), fun a u e => o.th a u (keep a u e)⟩
  have hsp : spO (wd X cl) n den (.ref x :: vs) (upd (upd H dx (.own x)) x (.ins C dx [])) (fun v H2 => v = .non ∧ Q (.ref x) H2) (WE W σ) := by
    refine ⟨by simp [← rp.length, F.ar _ _ _ (con_ns cc)], x, vs, .ins c [] [], ds, S, g, rfl, x1, x2, ⟨hkc, C, dx, [], hmg, upd_same, rfl, .nil⟩, sm2, rp, ?_⟩
    cases ed : den (.ins c [] []) ds S with
    | ok q =>
      rw [ed] at cc
      exact fun g' H' s' o f1 f2 mo => ⟨rfl, cc (.ref x) g' H' s' (back o) ⟨x, rfl, h0 x nx, f1, f2, mo⟩⟩
    | exc y fs S' => rw [ed] at cc; exact fun C' d' g' H' s' o m xr => cc C' d' g' H' s' (back o) m xr
    | stuck => rw [ed] at cc; exact cc.elim
  have r2 : Vals (V.ref x :: vs) (Value.ref x :: us) := .cons rfl r
  have hl : (Value.ref x :: us).length = ps.length := by rw [← r2.length]; exact F1.len _ _ _ _ hsp
  subst hx hd
  have bound := hb { s with heap := (s.heap.push PySem.W.emptyDict).push (PySem.W.instObj C s.heap.objs.size) } (.ref (s.heap.objs.size + 1) :: us) I2.kIn (by rw [List.append_nil]; exact hl)
  rw [List.append_nil] at bound
  have ran := F1.run _ X.stack _ _ ⟨Value.ref (s.heap.objs.size + 1) :: us, []⟩ _ _ _ _ (hr.make C us []) (I2.env0.make C us []) bound r2 hsp
  refine wpAny_call (make_map (f := f) I.kIn M.makes M.init (beq_iff_eq.mp M.fn) (codeAny_mono ran fun r s' out => ?_))
  cases r with
  | error e => exact passAt tk σ pins _ _ e s' I2 out
  | ok fl =>
    cases fl with
    | ret u =>
      obtain ⟨v, H', I3, rv, ev, q3⟩ := I2.after out
      subst ev
      exact ⟨rv, V.ref (s.heap.objs.size + 1), H', I3, rfl, q3⟩
    | next => exact out.elim
    | brk => exact out.elim
    | cont => exact out.elim
theorem rd_mk {w : Wd} {σ : L2.St} {H : Hp} {Q : VK} {ρ : LEnv} {S : Store} {g : Gh} {c : Str} (sim : Sim w g H ρ σ S) (cc : GG.Con w W σ (RN w H) g H Q (mMk c den t ρ S)) : tX w W (RA w) t σ H (ReadyM w W σ H Q c den) :=
  Con.fst sim cc fun vs H1 ds S1 g1 s1 f1 r1 c1 => ⟨ds, S1, g1, s1.st, r1, fun a h => f1.none h, Con.fr c1 f1⟩
theorem gm_mk {c : Str} {C : Addr} {p : Pos} (M : Mk X.K C f) (hm : X.mg c = some (.ref C)) (hkc : cl.kc c) (F : FO X cl k n f den) (hr : Room (k + 1) X.A) (hg : Gl X c) (ha : GA cl X (e :: es) t) (hdb : (c == ("__debug__" : Str)) = false)
    (he : starEach (e :: es) X.env = (false, eval e X.env) :: starEach es X.env) (hpl : (backTo pos (starEach es X.env)).any (·.1) = false) : GM cl X (.Call (.Name c p) (e :: es) [] pos) (mMk c den t) := fun W tk => by
  refine ⟨fun pins s σ H Q I ⟨ρ, S, g, sim, cc⟩ => wpAny_Call_Name_kw (ld_glob I hg hm ?_ hdb)⟩
  exact PySem.W.callWith_K (h₀ := X.base) I.ok.mod.kin M.kp (thn ((ha W tk).run pos pins s σ H _ I (rd_mk sim cc)) fun us s1 ⟨vs, H1, I1, r, q⟩ => ⟨I1.kIn, run_M M hm hkc F hr tk I1 r q⟩) he hpl
theorem gm_mk0 {c : Str} {C : Addr} {p : Pos} (M : Mk X.K C f) (hm : X.mg c = some (.ref C)) (hkc : cl.kc c) (F : FO X cl k n f den) (hr : Room (k + 1) X.A) (hg : Gl X c) (hdb : (c == ("__debug__" : Str)) = false) : GM cl X (.Call (.Name c p) [] [] pos) (mMk c den aN) := fun W tk => by
  refine ⟨fun pins s σ H Q I ⟨ρ, S, g, sim, cc⟩ => wpAny_Call_Name_kw (ld_glob I hg hm ?_ hdb)⟩
  exact PySem.W.callWith_K0 I.kIn M.kp (run_M (us := []) (vs := []) M hm hkc F hr tk I .nil ⟨[], S, g, sim.st, .nil, fun _ h => h, cc⟩)

/-! ### methods -/
/-- the class and the names of the attributes -/
def clsOf (S : Store) : D → Option (Str × List Str)
  | .obj c fs _ => some (c, fs)
  | .ptr n => match S[n]? with
    | some (.ins c fs _) => some (c, fs)
    | _ => none
  | _ => none
/-- the def that a method's name leads to, by the class -/
def methAt (m : Str) (tab : GTab) (S : Store) (d : D) : Option Den := (clsOf S d).bind fun p => if p.2.contains m then none else tab.lookup p.1
def eMeth (m : Str) (tab : GTab) (o : EX) (t : AX) : EX := fun ρ S => (o ρ S).bind fun p => (Out.opt (methAt m tab p.2 p.1)).bind fun den => (t ρ p.2).bind fun q => den (p.1 :: q.1) q.2
/-- a method's text -/
structure MOk' (P : Program) (w : World) (K : PySem.W.Frag) (mg : Str → Option Value) (base : Heap) (cl : Wp) (k : Nat) (m : Str) (tab : GTab) : Prop where
  ok : ∀ c den, tab.lookup c = some den → ∃ n f C, mg c = some (.ref C) ∧ Cls K C ∧ Meth K C m f ∧ FnD P w K mg base cl k n f den
theorem lookup_none {fs : List Str} {vs : List V} {m : Str} (h : fs.contains m = false) : (fs.zip vs).lookup m = none := by
  induction fs generalizing vs with
  | nil => rfl
  | cons f fs ih =>
    cases vs with
    | nil => rfl
    | cons v vs =>
      rw [List.contains_cons, Bool.or_eq_false_iff] at h
      rw [List.zip_cons_cons, List.lookup_cons, h.1]
      exact ih h.2
theorem meth_of {g : Gh} {H : Hp} {S : Store} {d : D} {v : V} {m : Str} {tab : GTab} {dn : Den} (M : MOk' X.prog X.w X.K X.mg X.base cl k m tab) (s : SimS (wd X cl) g H S) (r : Rep (wd X cl) g d v) (e : methAt m tab S d = some dn) :
    ∃ a C dx fs n f, v = .ref a ∧ H a = some (.ins C dx fs) ∧ Cls X.K C ∧ Meth X.K C m f ∧ fs.lookup m = none ∧ FX X cl k n f dn := by
  unfold methAt at e
  rw [Option.bind_eq_some_iff] at e
  obtain ⟨⟨c, fs⟩, e1, e2⟩ := e
  dsimp only at e2
  split at e2
  · cases e2
  · rename_i hz
    have hz : fs.contains m = false := by simpa using hz
    obtain ⟨n, f, C, hm, hc, ht, hF⟩ := M.ok c dn e2
    have fin : ∀ {a : Addr} {C' dx : Addr} {us : List V}, X.mg c = some (.ref C') → H a = some (.ins C' dx (fs.zip us)) → v = .ref a → ∃ a C dx fs n f, v = .ref a ∧ H a = some (.ins C dx fs) ∧ Cls X.K C ∧ Meth X.K C m f ∧ fs.lookup m = none ∧ FX X cl k n f dn := fun {a C' dx us} h1 h2 h3 => by
      rw [hm] at h1; cases h1
      exact ⟨a, C, dx, _, n, f, h3, h2, hc, ht, lookup_none hz, hF⟩
    unfold clsOf at e1
    split at e1
    · cases e1
      obtain ⟨_, a, C', dx, us, rfl, h1, h2, _⟩ := rep_obj'.mp r
      exact fin h1 (sub_lst s.sub (fun z => z) h2) rfl
    · rename_i i
      obtain ⟨a, h1, rfl⟩ := rep_ptr.mp r
      split at e1
      · rename_i c' fs' vs' h2
        cases e1
        obtain ⟨_, _, C', dx, us, h3, h4, _⟩ := s.at_ i _ a h2 h1
        exact fin h3 h4 rfl
      · cases e1
    · cases e1
theorem ge_meth {o : Expr} {m : Str} {da : EX} {apos : Pos} {tab : GTab} {pl : Sem Bool} (M : MOk' X.prog X.w X.K X.mg X.base cl k m tab) (hr : Room k X.A) (ho : GE cl X o da) (ha : GA cl X (e :: es) t)
    (hst : starEach (e :: es) X.env = (false, eval e X.env) :: starEach es X.env) (hpl : (backTo pos (starEach es X.env)).any (·.1) = false)
    (ht : eval (.Call (.Attribute o m apos) (e :: es) [] pos) X.env = (do
      let ov ← eval o X.env
      standAt apos.atName
      let (f, first) ← holding [ov] (getMethod ov m pl)
      callWith pos f first (backTo pos (starEach (e :: es) X.env)) (backToKw pos (keywordEach [] X.env)))) : GE cl X (.Call (.Attribute o m apos) (e :: es) [] pos) (eMeth m tab da t) := fun W tk => by
  refine ⟨fun pins s σ H Q I ⟨ρ, S, g, sim, c⟩ => ?_⟩
  refine PySem.W.methodCall_KW (pl := pl) (thn ((ho W tk).run pins s σ H _ I (Con.go (T := fun x H1 => ∃ a C dx fs n f dn ds S1 g1, x = .ref a ∧ H1 a = some (.ins C dx fs) ∧ Cls X.K C ∧ Meth X.K C m f ∧ fs.lookup m = none ∧ FX X cl k n f dn ∧ Rep (wd X cl) g1 ds x ∧ Sim (wd X cl) g1 H1 ρ σ S1 ∧
      GG.Con (wd X cl) W σ (RE (wd X cl)) g1 H1 Q ((t ρ S1).bind fun q => dn (ds :: q.1) q.2)) sim c fun v H1 d1 S1 g1 e1 s1 f1 r1 c1 => ?_)) fun u s1 ⟨x, H1, I1, rx, a, C, dx, fs, n, f, dn, d1, S1, g1, ex, ea, hc, hm, hl, hF, r1, sm, c1⟩ => ?_) ht
  · obtain ⟨dn, e2, c2⟩ := c1.opt
    obtain ⟨a, C, dx, fs, n, f, h1, h2, h3, h4, h5, h6⟩ := meth_of M s1.st r1 e2
    exact ⟨a, C, dx, fs, n, f, dn, d1, S1, g1, h1, h2, h3, h4, h5, h6, r1, s1, c2⟩
  · subst ex
    obtain rfl : u = Value.ref a := rx
    refine getmeth_ok I1 ea hc hm hl ?_
    refine PySem.W.callWith_K (first := [.ref a]) (h₀ := X.base) I1.ok.mod.kin hm.kp (thn ((ha W tk).run pos pins s1 σ H1 (fun vs H2 => Ready (wd X cl) W σ Q dn (.ref a :: vs) H2) I1 (Con.fst sm c1 fun vs H2 ds S2 g2 s2 f2 r2 c2 => ⟨d1 :: ds, S2, g2, s2.st, .cons (r1.mono f2.le) r2, Con.fr c2 f2⟩)) fun us s2 ⟨vs, H2, I2, r, q2⟩ => ⟨I2.kIn, ?_⟩) hst hpl
    exact run_R (us := .ref a :: us) (vs := .ref a :: vs) hF hr tk I2 (.cons rfl r) q2
theorem ge_meth0 {o : Expr} {m : Str} {da : EX} {apos : Pos} {tab : GTab} {pl : Sem Bool} (M : MOk' X.prog X.w X.K X.mg X.base cl k m tab) (hr : Room k X.A) (ho : GE cl X o da)
    (ht : eval (.Call (.Attribute o m apos) [] [] pos) X.env = (do
      let ov ← eval o X.env
      standAt apos.atName
      let (f, first) ← holding [ov] (getMethod ov m pl)
      callWith pos f first (backTo pos (starEach [] X.env)) (backToKw pos (keywordEach [] X.env)))) : GE cl X (.Call (.Attribute o m apos) [] [] pos) (eMeth m tab da aN) := fun W tk => by
  refine ⟨fun pins s σ H Q I ⟨ρ, S, g, sim, c⟩ => ?_⟩
  refine PySem.W.methodCall_KW (pl := pl) (thn ((ho W tk).run pins s σ H _ I (Con.go (T := fun x H1 => ∃ a C dx fs n f dn, x = .ref a ∧ H1 a = some (.ins C dx fs) ∧ Cls X.K C ∧ Meth X.K C m f ∧ fs.lookup m = none ∧ FX X cl k n f dn ∧ Ready (wd X cl) W σ Q dn [x] H1) sim c fun v H1 d1 S1 g1 e1 s1 f1 r1 c1 => ?_))
    fun u s1 ⟨x, H1, I1, rx, a, C, dx, fs, n, f, dn, ex, ea, hc, hm, hl, hF, q⟩ => ?_) ht
  · obtain ⟨dn, e2, c2⟩ := c1.opt
    obtain ⟨a, C, dx, fs, n, f, h1, h2, h3, h4, h5, h6⟩ := meth_of M s1.st r1 e2
    exact ⟨a, C, dx, fs, n, f, dn, h1, h2, h3, h4, h5, h6, [d1], S1, g1, s1.st, .cons r1 .nil, c2⟩
  · subst ex
    obtain rfl : u = Value.ref a := rx
    refine getmeth_ok I1 ea hc hm hl ?_
    exact PySem.W.callWith_K0 (first := [.ref a]) I1.kIn hm.kp (run_R (us := [.ref a]) (vs := [.ref a]) hF hr tk I1 (.cons rfl .nil) q)
end
end GG
end

section
/-! G.L: what changes things: attributes, items, methods of lists. -/
set_option linter.all false
set_option maxRecDepth 100000
namespace GG
open PySem L2
open PyProof.Rows hiding St

def optS {α : Type} (o : Option α) (k : α → SOut) : SOut := match o with
  | some x => k x
  | none => .stuck
@[simp] theorem optS_some {α : Type} (x : α) (k : α → SOut) : optS (some x) k = k x := rfl
@[simp] theorem optS_none {α : Type} (k : α → SOut) : optS none k = .stuck := rfl
theorem ConS.opt {w : Wd} {W : WX} {B : Bs} {D : Ends} {α : Type} {o : Option α} {k : α → SOut} (c : ConS w W B D (optS o k)) : ∃ x, o = some x ∧ ConS w W B D (k x) := by
  cases o with
  | none => exact c.elim
  | some x => exact ⟨x, rfl, c⟩

/-! ### reading an attribute -/
def fldD (f : Str) : D → Option D
  | .obj _ fs vs => (fs.zip vs).lookup f
  | _ => none
structure FldOk (K : PySem.W.Frag) (mg : Str → Option Value) (cl : Wp) (f : Str) : Prop where
  ok : ∀ c C, cl.kc c → mg c = some (.ref C) → Cls K C ∧ NoAttr K C f
theorem lookup_rep {w : Wd} {g : Gh} {f : Str} {d : D} : ∀ {fs : List Str} {ds : List D} {vs : List V}, RepL w g ds vs → (fs.zip ds).lookup f = some d → ∃ v, (fs.zip vs).lookup f = some v ∧ Rep w g d v
  | [], _, _, _, e => by cases e
  | _ :: _, [], _, _, e => by cases e
  | x :: fs, y :: ds, _, r, e => by
    obtain ⟨v, vr, rfl, q1, q2⟩ := r.cases
    rw [List.zip_cons_cons, List.lookup_cons] at e
    rw [List.zip_cons_cons, List.lookup_cons]
    cases h : (f == x) with
    | true => rw [h] at e; cases e; exact ⟨v, rfl, q1⟩
    | false => rw [h] at e; exact lookup_rep q2 e
section
variable {cl : Wp} {X : Cx} {o e : Expr} {es : List Expr} {ho : HX} {da db : EX} {f : Str} {pos : Pos}
theorem ge_fld (F : FldOk X.K X.mg cl f) (h : GHd cl X o ho) (hb : attributeBase o f X.env (eval o X.env) = eval o X.env) : GE cl X (.Attribute o f pos) (eH ho (fldD f)) := fun W tk =>
  PE.weak (pe_fld (h W tk) hb) fun σ H Q ⟨ρ, S, g, sim, c⟩ => Con.go sim c fun v H1 hd S1 g1 e1 s1 f1 r1 c1 => by
    obtain ⟨d, e, c3⟩ := c1.opt
    rw [Option.bind_eq_some_iff] at e
    obtain ⟨dc, e3, e4⟩ := e
    have sh := shown_of s1 r1 e3
    cases dc with
    | obj c fs ds =>
      obtain ⟨kc, a, C, dx, vs, rfl, hm, hH, hl, l⟩ := sh
      obtain ⟨h1, h2⟩ := F.ok c C kc hm
      obtain ⟨v, e5, r5⟩ := lookup_rep l e4
      exact ⟨a, C, dx, _, v, rfl, hH, h1, h2, e5, Con.val c3 s1.st r5⟩
    | _ => cases e4

/-! ### the thing behind a handle, changed -/
def curH (ρ : LEnv) (S : Store) : HD → Option MO
  | .d (.ptr n) => S[n]?
  | .own i => match ρ[i]? with
    | some (Slot.own o) => some o
    | _ => none
  | _ => none
def putO (ρ : LEnv) (S : Store) (mo : MO) : HD → Option (LEnv × Store)
  | .d (.ptr n) => some (ρ, S.set n mo)
  | .own i => some (ρ.set i (.own mo), S)
  | _ => none
theorem Sim.upd {w : Wd} {B : Bs} {g : Gh} {H : Hp} {ρ : LEnv} {σ : L2.St} {S : Store} {hd : HD} {v : V} {mo : MO} (sim : Sim w g H ρ σ S) (o : Outr B g H ρ σ) (r : RH w σ g H hd v) (e : curH ρ S hd = some mo) : ∃ a, v = .ref a ∧ MOk w g H a mo ∧ g.F a = none ∧
    ∀ (u : HO) (mo' : MO), MOk w g (L2.upd H a u) a mo' → ∃ ρ' S', putO ρ S mo' hd = some (ρ', S') ∧ Sim w g (L2.upd H a u) ρ' σ S' ∧ Outr B g (L2.upd H a u) ρ' σ := by
  unfold curH at e
  split at e
  · rename_i n
    obtain ⟨a, hm, rfl⟩ := (rep_ptr (w := w) (g := g)).mp r
    obtain ⟨k1, k2⟩ := sim.st.at_ n mo a e hm
    have hn : n < S.length := (sim.st.dom n).mpr ⟨a, hm⟩
    have far : ∀ (i : Nat) o b, ρ[i]? = some (Slot.own o) → σ[i]? = some (some (V.ref b)) → b ≠ a := fun i o b e1 e2 z => by
      obtain ⟨c, q1, _, q3, _⟩ := sim.own i o e1
      rw [e2] at q1; cases q1
      exact q3 n (by rw [z]; exact hm)
    refine ⟨a, rfl, k2, k1, fun u mo' m' => ⟨ρ, S.set n mo', rfl, ⟨⟨fun b o q => ?_, fun i => ?_, sim.st.inj, fun i o b e1 e2 => ?_⟩, sim.len, sim.val, fun i o e1 => ?_, sim.apart, sim.xc⟩, ⟨⟨o.o.le, fun b o' e1 e2 e3 e4 => ?_, fun b o' e1 => ?_⟩, o.ow, o.fx⟩⟩⟩
    · rw [upd_ne fun z => by rw [z, k1] at q; cases q]; exact sim.st.sub b o q
    · rw [List.length_set]; exact sim.st.dom i
    · by_cases hi : n = i
      · subst hi
        rw [List.getElem?_set_self hn] at e1; cases e1
        rw [hm] at e2; cases e2
        exact ⟨k1, m'⟩
      · rw [List.getElem?_set_ne hi] at e1
        obtain ⟨q1, q2⟩ := sim.st.at_ i o b e1 e2
        exact ⟨q1, q2.mono .refl fun u q => by rw [upd_ne fun z => hi (sim.st.inj n i a hm (by rw [← z]; exact e2))]; exact q⟩
    · obtain ⟨b, q1, q2, q3, q4⟩ := sim.own i o e1
      exact ⟨b, q1, q2, q3, q4.mono .refl fun u q => by rw [upd_ne (far i o b e1 q1)]; exact q⟩
    · obtain ⟨h1, h2, h3⟩ := o.o.out b o' e1 e2 e3 e4
      exact ⟨by rw [upd_ne fun z => h3 n (by rw [z]; exact hm)]; exact h1, h2, h3⟩
    · obtain ⟨o2, h⟩ := o.o.th b o' e1
      by_cases hb : b = a
      · subst hb; exact ⟨u, upd_same⟩
      · exact ⟨o2, by rw [upd_ne hb]; exact h⟩
  · rename_i i
    split at e
    · rename_i o' e'
      cases e
      have r : σ[i]? = some (some v) := r
      obtain ⟨a, k1, k2, k3, k4⟩ := sim.own i _ e'
      rw [r] at k1; cases k1
      have hi : i < ρ.length := (List.getElem?_eq_some_iff.mp e').1
      have hσ : i < σ.length := by rw [← sim.len]; exact hi
      have es : σ.set i (some (V.ref a)) = σ := by
        apply List.ext_getElem?
        intro j
        by_cases hj : i = j
        · subst hj; rw [List.getElem?_set_self hσ, r]
        · rw [List.getElem?_set_ne hj]
      refine ⟨a, rfl, k4, k2, fun u mo' m' => ⟨ρ.set i (.own mo'), S, rfl, ⟨sim.st.off k2 k3, by rw [List.length_set]; exact sim.len, fun j d e1 => ?_, fun j x e1 => ?_, fun j k x y b e1 e2 e3 e4 => ?_, fun j e1 => ?_⟩, ⟨⟨o.o.le, fun b o' e1 e2 e3 e4 => ?_, fun b o' e1 => ?_⟩, fun j x b e1 e2 => ?_, fun p x e1 e2 => ?_⟩⟩⟩
      · by_cases hj : i = j
        · subst hj; rw [List.getElem?_set_self hi] at e1; cases e1
        · rw [List.getElem?_set_ne hj] at e1; exact sim.val j d e1
      · by_cases hj : i = j
        · subst hj; rw [List.getElem?_set_self hi] at e1; cases e1; exact ⟨a, r, k2, k3, m'⟩
        · rw [List.getElem?_set_ne hj] at e1
          obtain ⟨b, q1, q2, q3, q4⟩ := sim.own j x e1
          exact ⟨b, q1, q2, q3, q4.mono .refl fun u q => by rw [upd_ne fun z => hj (sim.apart i j _ x a e' e1 r (by rw [← z]; exact q1))]; exact q⟩
      · have old : ∀ {j x}, (ρ.set i (.own mo'))[j]? = some (Slot.own x) → ∃ y, ρ[j]? = some (Slot.own y) := fun {j x} e1 => by
          by_cases hj : i = j
          · subst hj; exact ⟨_, e'⟩
          · rw [List.getElem?_set_ne hj] at e1; exact ⟨_, e1⟩
        obtain ⟨x', e1⟩ := old e1
        obtain ⟨y', e2⟩ := old e2
        exact sim.apart j k x' y' b e1 e2 e3 e4
      · by_cases hj : i = j
        · subst hj; rw [List.getElem?_set_self hi] at e1; cases e1
        · rw [List.getElem?_set_ne hj] at e1; exact sim.xc j e1
      · obtain ⟨h1, h2, h3⟩ := o.o.out b o' e1 e2 e3 e4
        have hb : b ≠ a := fun z => by
          subst z
          rcases o.ow i _ b e' r with q | q
          · rw [e1] at q; cases q
          · exact e4 q
        exact ⟨by rw [upd_ne hb]; exact h1, h2, h3⟩
      · obtain ⟨o2, h⟩ := o.o.th b o' e1
        by_cases hb : b = a
        · subst hb; exact ⟨u, upd_same⟩
        · exact ⟨o2, by rw [upd_ne hb]; exact h⟩
      · by_cases hj : i = j
        · subst hj; exact o.ow i _ b e' e2
        · rw [List.getElem?_set_ne hj] at e1; exact o.ow j x b e1 e2
      · by_cases hj : i = 0
        · subst hj; exact o.fx p _ e1 e'
        · rw [List.getElem?_set_ne hj] at e2; exact o.fx p x e1 e2
    · cases e
  · cases e

/-! ### setting an attribute -/
def setK (f : Str) (d : D) : List Str → List D → List D
  | x :: fs, y :: ds => if x = f then d :: ds else y :: setK f d fs ds
  | _, _ => [d]
def addK (f : Str) : List Str → List Str
  | x :: fs => if x = f then x :: fs else x :: addK f fs
  | [] => [f]
theorem setK_rep {w : Wd} {g : Gh} {f : Str} {d : D} {v : V} (r : Rep w g d v) : ∀ {fs : List Str} {ds : List D} {vs : List V}, fs.length = vs.length → RepL w g ds vs → ∃ us, putF f v (fs.zip vs) = (addK f fs).zip us ∧ (addK f fs).length = us.length ∧ RepL w g (setK f d fs ds) us
  | [], ds, vs, hl, l => by
    have : vs = [] := List.length_eq_zero_iff.mp hl.symm
    subst this
    have hd := l.length
    have : ds = [] := List.length_eq_zero_iff.mp hd
    subst this
    exact ⟨[v], rfl, rfl, .cons r .nil⟩
  | x :: fs, ds, [], hl, l => by simp at hl
  | x :: fs, ds, u :: vs, hl, l => by
    cases ds with
    | nil => have := l.length; simp at this
    | cons d0 ds =>
      obtain ⟨u', vr, e, q1, q2⟩ := l.cases
      obtain ⟨rfl, rfl⟩ := List.cons.inj e
      have e0 : putF f v ((x :: fs).zip (u :: vs)) = if x = f then (x, v) :: fs.zip vs else (x, u) :: putF f v (fs.zip vs) := rfl
      rw [e0]
      unfold addK setK
      by_cases hx : x = f
      · rw [if_pos hx, if_pos hx, if_pos hx]
        exact ⟨v :: vs, rfl, by simpa using hl, .cons r q2⟩
      · rw [if_neg hx, if_neg hx, if_neg hx]
        obtain ⟨us, k1, k2, k3⟩ := setK_rep (fs := fs) (ds := ds) (vs := vs) r (by simpa using hl) q2
        exact ⟨u :: us, by rw [k1]; rfl, by simp [k2], .cons q1 k3⟩
def setFD (f : Str) (d : D) : MO → Option MO
  | .ins c fs vs => if fs.length < 1000 then some (.ins c (addK f fs) (setK f d fs vs)) else none
  | _ => none
def sFld (h : HX) (f : Str) (e : EX) : SX := fun ρ S => (e ρ S).st ρ fun d S => (h ρ S).st ρ fun hd S => optS ((curH ρ S hd).bind (setFD f d)) fun mo => optS (putO ρ S mo hd) fun p => .nx p.1 p.2
theorem gs_fld {p' : Pos} (F : FldOk X.K X.mg cl f) (h : GHd cl X o ho) (he : GE cl X e da) (hs : swapsWith e (some (.Attribute o f p')) pos.line X.env = pure false) : GS cl X (.Assign [.Attribute o f p'] e pos) (sFld ho f da) := fun W tk hp =>
  PS.weak (ps_fld (h W tk) (he W tk) hs) fun D σ H ⟨ρ, S, g, B, sim, ou, c⟩ => ConS.go sim ou c fun v H1 d S1 g1 e1 s1 o1 f1 r1 c1 =>
    ConS.go (R := RH (wd X cl) σ) s1 o1 c1 fun x H2 hd S2 g2 e2 s2 o2 f2 r2 c2 => by
      obtain ⟨mo', e3, c3⟩ := c2.opt
      rw [Option.bind_eq_some_iff] at e3
      obtain ⟨mo, e4, e5⟩ := e3
      obtain ⟨a, rfl, m, _, k⟩ := s2.upd o2 r2 e4
      cases mo with
      | ins c fs ds =>
        unfold setFD at e5
        dsimp only at e5
        split at e5
        · rename_i hz
          cases e5
          obtain ⟨kc, C, dx, us, hm, hH, hl, l⟩ := m
          obtain ⟨h1, h2⟩ := F.ok c C kc hm
          obtain ⟨us', k1, k2, k3⟩ := setK_rep (r1.mono f2.le) hl l
          obtain ⟨ρ', S', e6, s6, o6⟩ := k (.ins C dx (putF f v (fs.zip us))) (.ins c (addK f fs) (setK f d fs ds)) ⟨kc, C, dx, us', hm, by rw [upd_same, k1], k2, k3⟩
          rw [e6] at c3
          exact ⟨a, C, dx, _, rfl, hH, h1, h2, by rw [List.length_zip, ← hl]; omega, c3 σ g2 _ s6 o6⟩
        · cases e5
      | _ => cases e5
end
end GG
end

section
/-! G.L2: items set, methods of lists, augmented names. -/
set_option linter.all false
set_option maxRecDepth 100000
namespace GG
open PySem L2
open PyProof.Rows hiding St

def okO {α : Type} : Out α → Option α
  | .ok a => some a
  | _ => none
@[simp] theorem okO_ok {α : Type} (a : α) : okO (.ok a) = some a := rfl
/-! ### targets that change things -/
abbrev TX := D → LEnv → Store → Option (LEnv × Store)
def tN (i : Nat) : TX := fun d ρ S => some (ρ.set i (.val d), S)
def setI (k d : D) : MO → Option MO
  | .lst xs => match k with
    | .int i => (ixN xs.length i).map fun j => .lst (xs.set j d)
    | _ => none
  | _ => none
def tI (h : HX) (ie : EX) : TX := fun d ρ S => (okO (h ρ S)).bind fun p => (okO (ie ρ p.2)).bind fun q => ((curH ρ q.2 p.1).bind (setI q.1 d)).bind fun mo => putO ρ q.2 mo p.1
def tAll : List TX → List D → LEnv → Store → Option (LEnv × Store)
  | [], [], ρ, S => some (ρ, S)
  | n :: ns, d :: ds, ρ, S => (n d ρ S).bind fun p => tAll ns ds p.1 p.2
  | _, _, _, _ => none
def tT (ns : List TX) : TX := fun d ρ S => match d with
  | .tup ds => tAll ns ds ρ S
  | .ktp ds => tAll ns ds ρ S
  | _ => none
def sAsg (e : EX) (t : TX) : SX := fun ρ S => (e ρ S).st ρ fun d S => optS (t d ρ S) fun p => .nx p.1 p.2
def rT (w : Wd) (den : TX) : TG := fun v σ H Q => ∃ d ρ S g B ρ' S', Sim w g H ρ σ S ∧ Outr B g H ρ σ ∧ Rep w g d v ∧ den d ρ S = some (ρ', S') ∧ ∀ σ' g' H', Sim w g' H' ρ' σ' S' → Outr B g' H' ρ' σ' → Le g g' → Q σ' H'
def rTs (w : Wd) (dens : List TX) : TGs := fun vs σ H Q => ∃ ds ρ S g B ρ' S', Sim w g H ρ σ S ∧ Outr B g H ρ σ ∧ RepL w g ds vs ∧ tAll dens ds ρ S = some (ρ', S') ∧ ∀ σ' g' H', Sim w g' H' ρ' σ' S' → Outr B g' H' ρ' σ' → Le g g' → Q σ' H'
variable (cl : Wp)
def GTg (X : Cx) (tg : Expr) (den : TX) : Prop := ∀ W, Takes X W → PG X tg (rT (wd X cl) den)
def GTgs (X : Cx) (tg : List Expr) (dens : List TX) : Prop := ∀ W, Takes X W → PGs X tg (rTs (wd X cl) dens)
section
variable {cl} {X : Cx} {o e : Expr} {es : List Expr} {ho : HX} {da db : EX} {pos : Pos} {t : TX} {ts : List TX}
theorem gtg_n {vs : List Nat} {n : NX} {tg : Expr} (h : GN cl X vs tg n) : GTg cl X tg (fun d ρ S => (n d ρ).map fun ρ' => (ρ', S)) := fun W tk => PG.weak h fun v σ H Q ⟨d, ρ, S, g, B, ρ', S', sim, ou, r, e, k⟩ => by
  rw [Option.map_eq_some_iff] at e
  obtain ⟨ρ1, e1, e2⟩ := e
  cases e2
  exact ⟨d, ρ, S, g, ρ', sim, r, e1, fun σ' s' kp => k σ' g H s' (kp.outr ou) .refl⟩
/-- an outcome that is ok, its exceptions not looked at -/
theorem okO_go {w : Wd} {W : WX} {B : Bs} {α β : Type} {R : Gh → Hp → α → β → Prop} {ρ : LEnv} {σ : L2.St} {S : Store} {g : Gh} {H : Hp} {den : LEnv → Store → Out (α × Store)} {p : α × Store} {T : β → Hp → Prop} (sim : Sim w g H ρ σ S) (o : Outr B g H ρ σ) (e : okO (den ρ S) = some p)
    (h : ∀ b H1 g1, Sim w g1 H1 ρ σ p.2 → Outr B g1 H1 ρ σ → GG.Fr g H g1 H1 → R g1 H1 p.1 b → T b H1) : tX w W R den σ H T := by
  refine ⟨ρ, S, g, sim, ?_⟩
  cases e1 : den ρ S with
  | ok q =>
    rw [e1] at e; cases e
    exact fun b g1 H1 s f r => h b H1 g1 (sim.fr f s) (o.fr f) f r
  | exc _ _ _ => rw [e1] at e; cases e
  | stuck => rw [e1] at e; cases e
theorem gtg_i (hu : X.A.units + 1 < cLine) (h1 : GHd cl X o ho) (h2 : GE cl X e da) (ha : ∀ v, assign (.Subscript o e pos) X.env v = (do
      let ov ← holding [v] (eval o X.env)
      let iv ← holding [v, ov] (eval e X.env)
      standAt pos
      holding [v, ov, iv] (setItem ov iv v)
      release [v, ov, iv] [])) : GTg cl X (.Subscript o e pos) (tI ho da) := fun W tk =>
  PG.weak (pg_sub (h1 W tk) (h2 W tk) set_list ha) fun v σ H Q ⟨d, ρ, S, g, B, ρ', S', sim, ou, r, e, k⟩ => by
    unfold tI at e
    rw [Option.bind_eq_some_iff] at e
    obtain ⟨p, e1, e⟩ := e
    rw [Option.bind_eq_some_iff] at e
    obtain ⟨q, e2, e⟩ := e
    rw [Option.bind_eq_some_iff] at e
    obtain ⟨mo', e3, e4⟩ := e
    rw [Option.bind_eq_some_iff] at e3
    obtain ⟨mo, e5, e6⟩ := e3
    refine okO_go (R := RH (wd X cl) σ) sim ou e1 fun x H1 g1 s1 o1 f1 r1 => okO_go s1 o1 e2 fun y H2 g2 s2 o2 f2 r2 => ?_
    have r1' : RH (wd X cl) σ g2 H2 p.1 x := by
      cases hp : p.1 with
      | d z => rw [hp] at r1; exact Rep.mono f2.le r1
      | own i => rw [hp] at r1; exact r1
    obtain ⟨a, rfl, m, _, kk⟩ := s2.upd o2 r1' e5
    cases mo with
    | lst xs =>
      unfold setI at e6
      dsimp only at e6
      split at e6
      · rename_i i eq
        rw [Option.map_eq_some_iff] at e6
        obtain ⟨j, e7, rfl⟩ := e6
        obtain ⟨us, hH, l⟩ := m
        have r2 : Rep (wd X cl) g2 q.1 y := r2
        rw [eq, rep_int] at r2
        obtain ⟨ρ1, S1, e8, s8, o8⟩ := kk (.lst (us.set j v)) (.lst (xs.set j d)) ⟨_, upd_same, l.set j (r.mono (f1.le.trans f2.le))⟩
        rw [e4] at e8; cases e8
        exact ⟨a, us, i, j, rfl, r2, hH, by rw [← l.length]; exact e7, k σ g2 _ s8 o8 (f1.le.trans f2.le)⟩
      · cases e6
    | _ => cases e6
theorem gtgs_nil : GTgs cl X [] [] := fun W tk => PGs.weak pgs_nil fun v σ H Q ⟨ds, ρ, S, g, B, ρ', S', sim, ou, r, e, k⟩ => by
  cases ds with
  | nil => cases e; exact ⟨r.cases0, k σ g H sim ou .refl⟩
  | cons d ds => cases e
theorem gtgs_cons (h : GTg cl X e t) (hr : GTgs cl X es ts) (hs : (assignEach (e :: es) X.env).map (·.2) = assign e X.env :: (assignEach es X.env).map (·.2)) : GTgs cl X (e :: es) (t :: ts) := fun W tk =>
  PGs.weak (pgs_cons (h W tk) (hr W tk) hs) fun v σ H Q ⟨ds, ρ, S, g, B, ρ', S', sim, ou, r, e, k⟩ => by
    cases ds with
    | nil => cases e
    | cons d ds =>
      obtain ⟨v1, vr, rfl, q1, q2⟩ := r.cases
      have e : ((t d ρ S).bind fun p => tAll ts ds p.1 p.2) = some (ρ', S') := e
      rw [Option.bind_eq_some_iff] at e
      obtain ⟨⟨ρ1, S1⟩, e1, e2⟩ := e
      exact ⟨v1, vr, rfl, d, ρ, S, g, B, ρ1, S1, sim, ou, q1, e1, fun σ1 g1 H1 s1 o1 l1 => ⟨ds, ρ1, S1, g1, B, ρ', S', s1, o1, q2.mono l1, e2, fun σ2 g2 H2 s2 o2 l2 => k σ2 g2 H2 s2 o2 (l1.trans l2)⟩⟩
theorem tAll_len : ∀ {ns : List TX} {ds : List D} {ρ : LEnv} {S : Store} {r : LEnv × Store}, tAll ns ds ρ S = some r → ds.length = ns.length
  | [], [], _, _, _, _ => rfl
  | [], _ :: _, _, _, _, e => by cases e
  | _ :: _, [], _, _, _, e => by cases e
  | n :: ns, d :: ds, ρ, S, r, e => by
    have e : ((n d ρ S).bind fun p => tAll ns ds p.1 p.2) = some r := e
    rw [Option.bind_eq_some_iff] at e
    obtain ⟨p, _, e2⟩ := e
    simp [tAll_len e2]
theorem gtg_t {k : Nat} (hc : X.calm = true) (h : GTgs cl X es ts) (hn : (assignEach es X.env).length = ts.length) (hst : (assignEach es X.env).findIdx? (·.1) = none) : GTg cl X (.Tuple es k pos) (tT ts) := fun W tk =>
  PG.weak (pg_tup hc (h W tk) hn hst) fun v σ H Q ⟨d, ρ, S, g, B, ρ', S', sim, ou, r, e, k⟩ => by
    have key : ∀ ds, (∃ a vs, v = .ref a ∧ SqT X.K g.F a vs ∧ RepL (wd X cl) g ds vs) → tAll ts ds ρ S = some (ρ', S') → L2.gTup X.K ts.length (rTs (wd X cl) ts) v σ H Q := fun ds ⟨a, vs, ev, q, l⟩ e =>
      ⟨a, vs, ev, sqT_sub sim.st.sub q, by rw [← l.length]; exact tAll_len e, ds, ρ, S, g, B, ρ', S', sim, ou, l, e, k⟩
    cases d with
    | tup ds =>
      rw [rep_tup'] at r
      obtain ⟨a, vs, ev, q, l⟩ := r
      exact key ds ⟨a, vs, ev, SqT.of q, l⟩ e
    | ktp ds =>
      rw [rep_ktp'] at r
      exact key ds r e
    | _ => cases e
theorem gs_asg {tg : Expr} (he : GE cl X e da) (ht : GTg cl X tg t) (hs : swapsWithSole [tg] e pos.line X.env = pure false) (hw : swappedStores [tg] e X.env = pure none) (h1 : (assignEach [tg] X.env).map (·.2) = [assign tg X.env]) : GS cl X (.Assign [tg] e pos) (sAsg da t) := fun W tk hp =>
  PS.weak (ps_asg (he W tk) (ht W tk) hs hw h1) fun D σ H ⟨ρ, S, g, B, sim, ou, c⟩ => ConS.go sim ou c fun v H1 d S1 g1 e1 s1 o1 f1 r1 c1 => by
    obtain ⟨p, e2, c2⟩ := c1.opt
    exact ⟨d, ρ, S1, g1, B, p.1, p.2, s1, o1, r1, e2, fun σ' g' H' s' o' _ => c2 σ' g' H' s' o'⟩

/-! ### methods of lists, as statements -/
def MO.isL : MO → Option Unit
  | .lst _ => some ()
  | _ => none
def sMt (h : HX) (a : AX) (f : List D → MO → Option MO) : SX := fun ρ S => (h ρ S).st ρ fun hd S => optS ((curH ρ S hd).bind MO.isL) fun _ => (a ρ S).st ρ fun ds S => optS ((curH ρ S hd).bind (f ds)) fun mo => optS (putO ρ S mo hd) fun p => .nx p.1 p.2
def appD (ds : List D) : MO → Option MO
  | .lst xs => match ds with
    | [d] => if xs.length < sizeLine then some (.lst (xs ++ [d])) else none
    | _ => none
  | _ => none
def extD (ds : List D) : MO → Option MO
  | .lst xs => match ds with
    | [.lst ys] => if xs.length + ys.length ≤ sizeLine then some (.lst (xs ++ ys)) else none
    | _ => none
  | _ => none
/-- what a method of lists does, by values and by data -/
def MtOk (X : Cx) (cl : Wp) (r : V → List V → Hp → VK → Prop) (f : List D → MO → Option MO) : Prop := ∀ (g : Gh) (H : Hp) (S : Store) (a : Addr) (us : List V) (ds : List D) (mo mo' : MO) (Q : VK), SimS (wd X cl) g H S → RepL (wd X cl) g ds us → MOk (wd X cl) g H a mo → f ds mo = some mo' →
  (∀ v u, MOk (wd X cl) g (upd H a u) a mo' → Q v (upd H a u)) → r (.ref a) us H Q
theorem mt_app : MtOk X cl rAppend appD := fun g H S a us ds mo mo' Q s rp m e q => by
  unfold appD at e
  split at e
  · split at e
    · split at e
      · rename_i hz
        cases e
        obtain ⟨vs, hH, l⟩ := m
        obtain ⟨v, r, rfl, q1, q2⟩ := rp.cases
        rw [q2.cases0]
        exact ⟨a, vs, v, rfl, rfl, hH, by rw [← l.length]; exact hz, q _ _ ⟨_, upd_same, l.append (.cons q1 .nil)⟩⟩
      · cases e
    · cases e
  · cases e
theorem mt_ext : MtOk X cl rExtend extD := fun g H S a us ds mo mo' Q s rp m e q => by
  unfold extD at e
  split at e
  · split at e
    · split at e
      · rename_i hz
        cases e
        obtain ⟨vs, hH, l⟩ := m
        obtain ⟨v, r, rfl, q1, q2⟩ := rp.cases
        rw [q2.cases0]
        obtain ⟨b, zs, rfl, hb, lb⟩ := rep_lst'.mp q1
        exact ⟨a, b, vs, zs, rfl, rfl, hH, sub_lst s.sub (fun z => z) hb, by rw [← l.length, ← lb.length]; exact hz, q _ _ ⟨_, upd_same, l.append lb⟩⟩
      · cases e
    · cases e
  · cases e
theorem gs_mt {nm : Str} {id : String} {r : V → List V → Hp → VK → Prop} {f : List D → MO → Option MO} {a : AX} {apos cpos : Pos} (slot : PySem.Slot "list" nm id) (hty : typeOf (.builtin id) = pure (.type "method_descriptor")) (hm : MtR X id r) (hf : MtOk X cl r f) (h : GHd cl X o ho) (ha : GA cl X (e :: es) a)
    (hbase : attributeBase o nm X.env (eval o X.env) = eval o X.env)
    (hfew : ((backTo cpos (starEach (e :: es) X.env)).all (fun x => !x.1) && (backToKw cpos (keywordEach [] X.env)).all (fun x => x.1.isSome)
      && decide ((e :: es).length + ([] : List Keyword).length + (if ([] : List Keyword).isEmpty then 0 else 1) < 30)) = true)
    (hline : (apos.endLine == cpos.line) = true) (hs : starEach (e :: es) X.env = (false, eval e X.env) :: starEach es X.env) (hplain : (backTo cpos (starEach es X.env)).any (·.1) = false) (hsw : swapsWith (.Call (.Attribute o nm apos) (e :: es) [] cpos) none pos.line X.env = pure false) :
    GS cl X (.Expr (.Call (.Attribute o nm apos) (e :: es) [] cpos) pos) (sMt ho a f) := fun W tk hp =>
  PS.weak (ps_expr (pe_bm F.plainAttrs_list slot hty hm (h W tk) (ha W tk) hbase hfew hline hs hplain) hsw) fun D σ H ⟨ρ, S, g, B, sim, ou, c⟩ => ConS.go (R := RH (wd X cl) σ) sim ou c fun v H1 hd S1 g1 e1 s1 o1 f1 r1 c1 => by
    have key : ∀ us H2 ds S2 g2, Sim (wd X cl) g2 H2 ρ σ S2 → Outr B g2 H2 ρ σ → GG.Fr g1 H1 g2 H2 → RepL (wd X cl) g2 ds us → ConS (wd X cl) W B D (optS ((curH ρ S2 hd).bind (f ds)) fun mo => optS (putO ρ S2 mo hd) fun p => .nx p.1 p.2) → r v us H2 (fun _ H' => D.nx σ H') := fun us H2 ds S2 g2 s2 o2 f2 r2 c2 => by
      obtain ⟨mo', e3, c3⟩ := c2.opt
      rw [Option.bind_eq_some_iff] at e3
      obtain ⟨mo, e4, e5⟩ := e3
      have r1' : RH (wd X cl) σ g2 H2 hd v := by
        cases hd with
        | d z => exact Rep.mono f2.le r1
        | own i => exact r1
      obtain ⟨a, rfl, m, _, k⟩ := s2.upd o2 r1' e4
      refine hf g2 H2 S2 a us ds mo mo' _ s2.st r2 m e5 fun v u m' => ?_
      obtain ⟨ρ', S', e6, s6, o6⟩ := k u mo' m'
      rw [e6] at c3
      exact c3 σ g2 _ s6 o6
    obtain ⟨_, e0, c1⟩ := c1.opt
    rw [Option.bind_eq_some_iff] at e0
    obtain ⟨mo0, e0, e00⟩ := e0
    refine ⟨?_, ConS.go s1 o1 c1 fun us H2 ds S2 g2 e2 s2 o2 f2 r2 c2 => key us H2 ds S2 g2 s2 o2 f2 r2 c2⟩
    obtain ⟨a, rfl, m, _⟩ := s1.upd o1 r1 e0
    cases mo0 with
    | lst xs =>
      obtain ⟨vs, hH, _⟩ := m
      exact .inl ⟨rfl, vs, SqL.of hH⟩
    | _ => cases e00
end
end GG
end

section
/-! G.M: raise and try. -/
set_option linter.all false
set_option maxRecDepth 100000
namespace GG
open PySem L2
open PyProof.Rows hiding St

/-- the exception classes: each with the names of the classes it is one of -/
abbrev ETab := List (Str × List Str)
structure ETabOk (K : PySem.W.Frag) (mg : Str → Option Value) (tab : ETab) : Prop where
  ok : ∀ c l, tab.lookup c = some l → ∃ C, mg c = some (.ref C) ∧ ExcC K C
  two : ∀ c d l l' C D, tab.lookup c = some l → tab.lookup d = some l' → mg c = some (.ref C) → mg d = some (.ref D) → PySem.W.kitOne K (.ref C) (.ref D) = some (l.contains d) ∧ PySem.W.exmOne K (.ref C) (.ref D) = some (l.contains d)
  ve : ∀ c l C, tab.lookup c = some l → mg c = some (.ref C) → PySem.W.kitOne K (.ref C) (.type "ValueError") = some true
def sRaise (c : Str) : SX := fun ρ S => .ex c [] ρ S
section
variable {cl : Wp} {X : Cx} {tab : ETab} {pos : Pos}
theorem pmk_0 {C : Addr} {bmB : List Value} {B newId initId : String} {x : Str} {p : Pos} (F : ExcBaseFacts B newId initId bmB) (q : PySem.W.excIn X.K C bmB newId = true) (gC : X.mg x = some (.ref C)) (kC : PySem.W.keepIn X.K (.ref C) = true) (r : Raises X (.ref C)) (hg : Gl X x)
    (hdb : (x == ("__debug__" : Str)) = false) : PMk X (.Call (.Name x p) [] [] pos) (fun σ H Q => Q (.ref C) none H) := by
  intro pins s σ H Q I h
  refine wpAny_Call_Name_kw (ld_glob I hg gC ?_ hdb)
  refine PySem.W.callWith_K0 I.kIn kC ?_
  show wpAny _ _ (call (.ref C) []) _ _ _
  obtain ⟨bm, N, nm, qn, bs, hdct, sn, sub, ab, col, dd, k0, k1, k2, k3, k5, mN, hC, hN, hni, T⟩ := exc_obj I.kIn q
  exact wpAny_call_exc_subT F T hC hN hni (fun h' e hm => mk_of I hm r h (I.hok.gone hm.new)) (Nat.zero_le _)
theorem gs_raise {x : Str} {p pos2 : Pos} {C : Addr} (hm : X.mg x = some (.ref C)) (h1 : PySem.W.excIn X.K C [.type "ValueError", .type "Exception", .type "BaseException", .type "object"] "ValueError.__new__" = true) (h2 : PySem.W.keepIn X.K (.ref C) = true) (h3 : Raises X (.ref C)) (hc : X.calm = true) (hg : Gl X x) (hdb : (x == ("__debug__" : Str)) = false) :
    GS cl X (.Raise (some (.Call (.Name x p) [] [] pos2)) none pos) (sRaise x) := fun W tk hp =>
  PS.weak (ps_raise hc tk (pmk_0 F.excBase_ValueError h1 hm h2 h3 hg hdb)) fun D σ H ⟨ρ, S, g, B, sim, o, c⟩ => c C none σ g H sim o hm (.inl ⟨rfl, rfl⟩)

/-! ### try .. except X as e -/
def Slot.isXc : Slot → Bool
  | .xc => true
  | _ => false
/-- behind a suite: its name is gone -/
def noX (i : Nat) (ρ : LEnv) : Option LEnv := if (ρ.set i .no).any Slot.isXc then none else some (ρ.set i .no)
def finX (i : Nat) : SOut → SOut
  | .nx ρ S => optS (noX i ρ) fun ρ => .nx ρ S
  | .bk ρ S => optS (noX i ρ) fun ρ => .bk ρ S
  | .ct ρ S => optS (noX i ρ) fun ρ => .ct ρ S
  | .rt d S => .rt d S
  | _ => .stuck
/-- what the clause makes of an exception of class c, one of l -/
def catchX (tab : ETab) (cH : Str) (i : Nat) (su : List Str → SX) : SOut → SOut
  | .ex c fs ρ S => match tab.lookup c with
    | some l => if l.contains cH then (if fs.isEmpty && !ρ.any Slot.isXc then finX i (su l (ρ.set i .xc) S) else .stuck) else .ex c fs ρ S
    | none => .stuck
  | o => o
def sTry (tab : ETab) (cH : Str) (i : Nat) (body : SX) (su : List Str → SX) : SX := fun ρ S => catchX tab cH i su (body ρ S)
/-- the suite's own world -/
def Wd.with (w : Wd) (a : Option Addr) : Wd := ⟨w.K, w.mg, w.cl, w.kc, a⟩
def Wp.with (c : Wp) (a : Option Addr) : Wp := ⟨c.cl, c.kc, a⟩
mutual
theorem Rep.with {w : Wd} {g : Gh} {x : Option Addr} : ∀ {d : D} {v : V}, Rep w g d v → Rep (w.with x) g d v
  | .non, _, r => r
  | .bl _, _, r => r
  | .int _, _, r => r
  | .str _, _, r => r
  | .gl _, _, r => r
  | .tup ds, _, r => by simp only [Rep] at r ⊢; obtain ⟨a, vs, e, q, t⟩ := r; exact ⟨a, vs, e, q, RepL.with t⟩
  | .lst ds, _, r => by simp only [Rep] at r ⊢; obtain ⟨a, vs, e, q, t⟩ := r; exact ⟨a, vs, e, q, RepL.with t⟩
  | .ktp ds, _, r => by simp only [Rep] at r ⊢; obtain ⟨a, vs, e, q, t⟩ := r; exact ⟨a, vs, e, q, RepL.with t⟩
  | .frl ds, _, r => by simp only [Rep] at r ⊢; obtain ⟨a, vs, e, q, t⟩ := r; exact ⟨a, vs, e, q, RepL.with t⟩
  | .dic ks ds, _, r => by simp only [Rep] at r ⊢; obtain ⟨a, vs, u, e, q, d, t⟩ := r; exact ⟨a, vs, u, e, q, d, RepL.with t⟩
  | .obj c fs ds, _, r => by simp only [Rep] at r ⊢; obtain ⟨kc, a, C, dx, vs, e, q, d, l, t⟩ := r; exact ⟨kc, a, C, dx, vs, e, q, d, l, RepL.with t⟩
  | .ptr i, _, r => by simp only [Rep] at r ⊢; exact r
  | .clo i env, _, r => by simp only [Rep] at r ⊢; obtain ⟨a, vs, e, q, t⟩ := r; exact ⟨a, vs, e, q, RepL.with t⟩
theorem RepL.with {w : Wd} {g : Gh} {x : Option Addr} : ∀ {ds : List D} {vs : List V}, RepL w g ds vs → RepL (w.with x) g ds vs
  | [], _, r => r
  | d :: ds, _, r => by simp only [RepL] at r ⊢; obtain ⟨v, l, e, q, t⟩ := r; exact ⟨v, l, e, Rep.with q, RepL.with t⟩
end
theorem MOk.with {w : Wd} {g : Gh} {H : Hp} {a : Addr} {x : Option Addr} : ∀ {o : MO}, MOk w g H a o → MOk (w.with x) g H a o
  | .lst _, ⟨vs, h, r⟩ => ⟨vs, h, r.with⟩
  | .dic _ _, ⟨vs, u, h, d, r⟩ => ⟨vs, u, h, d, r.with⟩
  | .ins _ _ _, ⟨kc, C, dx, vs, k, h, z, r⟩ => ⟨kc, C, dx, vs, k, h, z, r.with⟩
theorem SimS.with {w : Wd} {g : Gh} {H : Hp} {S : Store} (s : SimS w g H S) (x : Option Addr) : SimS (w.with x) g H S := ⟨s.sub, s.dom, s.inj, fun i o a e1 e2 => let ⟨h1, h2⟩ := s.at_ i o a e1 e2; ⟨h1, h2.with⟩⟩
theorem any_not {ρ : LEnv} (h : ρ.any Slot.isXc = false) {i : Nat} (e : ρ[i]? = some Slot.xc) : False := by
  have := List.any_eq_false.mp h _ (List.mem_of_getElem? e)
  exact this rfl
theorem Sim.with {w : Wd} {g : Gh} {H : Hp} {ρ : LEnv} {σ : L2.St} {S : Store} (s : Sim w g H ρ σ S) (x : Option Addr) (h : ρ.any Slot.isXc = false) : Sim (w.with x) g H ρ σ S :=
  ⟨s.st.with x, s.len, fun i d e => let ⟨v, h1, h2⟩ := s.val i d e; ⟨v, h1, h2.with⟩, fun i o e => let ⟨a, h1, h2, h3, h4⟩ := s.own i o e; ⟨a, h1, h2, h3, h4.with⟩, s.apart, fun i e => (any_not h e).elim⟩
/-- a slot without a claim -/
theorem Sim.setNo {w : Wd} {g : Gh} {H : Hp} {ρ : LEnv} {σ : L2.St} {S : Store} (s : Sim w g H ρ σ S) (i : Nat) {sl : Slot} {v : Option V} (hs : sl = .no ∨ (sl = .xc ∧ ∃ a, w.xa = some a ∧ v = some (.ref a))) : Sim w g H (ρ.set i sl) (σ.set i v) S := by
  have at_ : ∀ {x : Slot}, (ρ.set i sl)[i]? = some x → x = sl ∧ i < σ.length := fun {x} e => by
    by_cases hl : i < ρ.length
    · rw [List.getElem?_set_self hl] at e; cases e; exact ⟨rfl, by rw [← s.len]; exact hl⟩
    · rw [List.getElem?_eq_none (by simpa using hl)] at e; cases e
  have nv : ∀ d, sl ≠ .val d := fun d z => by rcases hs with q | ⟨q, _⟩ <;> (rw [q] at z; cases z)
  have no : ∀ d, sl ≠ .own d := fun d z => by rcases hs with q | ⟨q, _⟩ <;> (rw [q] at z; cases z)
  refine ⟨s.st, by rw [List.length_set, List.length_set]; exact s.len, fun j d e => ?_, fun j o e => ?_, fun j k o u a e1 e2 e3 e4 => ?_, fun j e => ?_⟩
  · by_cases hj : i = j
    · subst hj; exact absurd (at_ e).1.symm (nv d)
    · rw [List.getElem?_set_ne hj] at e ⊢; exact s.val j d e
  · by_cases hj : i = j
    · subst hj; exact absurd (at_ e).1.symm (no o)
    · rw [List.getElem?_set_ne hj] at e ⊢; exact s.own j o e
  · by_cases hj : i = j
    · subst hj; exact absurd (at_ e1).1.symm (no o)
    · by_cases hk : i = k
      · subst hk; exact absurd (at_ e2).1.symm (no u)
      · rw [List.getElem?_set_ne hj] at e1 e3
        rw [List.getElem?_set_ne hk] at e2 e4
        exact s.apart j k o u a e1 e2 e3 e4
  · by_cases hj : i = j
    · subst hj
      obtain ⟨z, hl⟩ := at_ e
      rcases hs with q | ⟨_, a, h1, h2⟩
      · rw [q] at z; cases z
      · exact ⟨a, h1, by rw [List.getElem?_set_self hl, h2]⟩
    · rw [List.getElem?_set_ne hj] at e ⊢; exact s.xc j e
theorem Outr.setNo {B : Bs} {g : Gh} {H : Hp} {ρ : LEnv} {σ : L2.St} (o : Outr B g H ρ σ) (i : Nat) {sl : Slot} {v : Option V} (hs : ∀ d, sl ≠ .own d) : Outr B g H (ρ.set i sl) (σ.set i v) := by
  have far : ∀ (j : Nat) u, (ρ.set i sl)[j]? = some (Slot.own u) → i ≠ j := fun j u e z => by
    subst z
    by_cases hl : i < ρ.length
    · rw [List.getElem?_set_self hl] at e; exact hs u (Option.some.inj e)
    · rw [List.getElem?_eq_none (by simpa using hl)] at e; cases e
  exact ⟨o.o, fun j u a e1 e2 => by
    have hj := far j u e1
    rw [List.getElem?_set_ne hj] at e1 e2
    exact o.ow j u a e1 e2, fun p u e1 e2 => by
    have hj := far 0 u e2
    rw [List.getElem?_set_ne hj] at e2 ⊢
    exact o.fx p u e1 e2⟩
theorem with_with {w : Wd} {x : Option Addr} : (w.with x).with w.xa = w := rfl
theorem finX_ok {w : Wd} {W : WX} {B : Bs} {D : Ends} {i : Nat} {x : Option Addr} {o : SOut} (c : ConS w W B D (finX i o)) :
    ConS (w.with x) (fun _ _ _ _ => False) B { nx := fun σ H => D.nx (σ.set i none) H, rt := D.rt, bk := fun σ H => D.bk (σ.set i none) H, ct := fun σ H => D.ct (σ.set i none) H } o := by
  have key : ∀ {ρ ρ' : LEnv} {S : Store} {N : L2.St → Hp → Prop}, noX i ρ = some ρ' → (∀ σ g H, Sim w g H ρ' σ S → Outr B g H ρ' σ → N σ H) → ∀ σ g H, Sim (w.with x) g H ρ σ S → Outr B g H ρ σ → N (σ.set i none) H := fun {ρ ρ' S N} h c σ g H s o => by
    unfold noX at h
    split at h
    · cases h
    · rename_i hz
      cases h
      exact c _ g H ((s.setNo i (.inl rfl)).with w.xa (by simpa using hz)) (o.setNo i (fun d z => by cases z))
  cases o with
  | nx ρ S =>
    have c : ConS w W B D (optS (noX i ρ) fun ρ => .nx ρ S) := c
    obtain ⟨ρ', h, c⟩ := c.opt
    exact key h c
  | bk ρ S =>
    have c : ConS w W B D (optS (noX i ρ) fun ρ => .bk ρ S) := c
    obtain ⟨ρ', h, c⟩ := c.opt
    exact key h c
  | ct ρ S =>
    have c : ConS w W B D (optS (noX i ρ) fun ρ => .ct ρ S) := c
    obtain ⟨ρ', h, c⟩ := c.opt
    exact key h c
  | rt d S => exact fun v g H s o r => c v g H (s.with w.xa) o (r.with (x := w.xa))
  | ex y fs ρ S => exact c.elim
  | stuck => exact c.elim
theorem gs_try {i : Nat} {n cH : Str} {body suite : List Stmt} {b₀ : Stmt} {np pos' : Pos} {db : SX} {su : List Str → SX} {CH : Addr} {lH : List Str} (T : ETabOk X.K X.mg tab) (hs : X.stack = X.env :: X.outer) (hf : X.env.frame = some X.env.locals) (hN : X.N.Nodup) (hi : X.N[i]? = some n) (hln : X.env.kindOf n = some .local)
    (hm : X.mg cH = some (.ref CH)) (hlH : tab.lookup cH = some lH) (hc : Names X cH (.ref CH))
    (hb : ∀ (pn : List (Addr × Obj)) (xe : Value → Shared → Prop), GSs cl (X.tr pn xe) body db)
    (hsu : ∀ (c : Str) (C : Addr) (l : List Str), tab.lookup c = some l → X.mg c = some (.ref C) → ∀ (a : Addr) (oe : Obj) (pn : List (Addr × Obj)), Zc (.ref C) none oe → (∃ vs, oe.data = .fields vs) → GSs (cl.with (some a)) (X.suite a ((a, oe) :: pn)) (b₀ :: suite) (su l)) :
    GS cl X (.Try body [.ExceptHandler (some (.Name cH np)) (some n) (b₀ :: suite) pos'] [] [] pos) (sTry tab cH i db su) := fun W tk hp => by
  let ts : Addr → Value → Option Addr → TS := fun a cls d D σ H => ∃ c C l, tab.lookup c = some l ∧ X.mg c = some (.ref C) ∧ cls = .ref C ∧ d = none ∧ tS ((wd X cl).with (some a)) (fun _ _ _ _ => False) (su l) D σ H
  refine PS.weak (ps_try_as (tb := fun W => tS (wd X cl) W db) (ts := ts) hs hf hN hi hln hc tk (fun W pn xe tk hp => hb pn xe W tk hp) (fun a oe cls d pn hz hv => ⟨fun pins s σ H D I ⟨c, C, l, h1, h2, h3, h4, h5⟩ => ?_⟩)) fun D σ H ⟨ρ, S, g, B, sim, o, c⟩ => ⟨ρ, S, g, B, sim, o, ?_⟩
  · subst h3 h4
    exact (hsu c C l h1 h2 a oe pn hz hv _ takes_none PassesOwn.never).run pins s σ H D I h5
  · unfold sTry at c
    cases e : db ρ S with
    | ex x fs ρ' S' =>
      rw [e] at c
      intro C d σ' g' H' s' o' hmx hx
      have hmx : X.mg x = some (.ref C) := hmx
      cases hl : tab.lookup x with
      | none => simp only [catchX, hl] at c; exact c.elim
      | some l =>
        simp only [catchX, hl] at c
        refine ⟨l.contains cH, (T.two x cH l lH C CH hl hlH hmx hm).2, fun hb a na => ?_, fun hb => ?_⟩
        · rw [hb, if_pos rfl] at c
          split at c
          · rename_i hz
            obtain ⟨z1, z2⟩ := Bool.and_eq_true_iff.mp hz
            have z1 : fs = [] := List.isEmpty_iff.mp z1
            have z2 : ρ'.any Slot.isXc = false := by simpa using z2
            have hd : d = none := by
              rcases hx with ⟨_, h⟩ | ⟨h, _⟩
              · exact h
              · exact absurd z1 h
            exact ⟨x, C, l, hl, hmx, rfl, hd, _, S', g', B, (s'.with (some a) z2).setNo i (.inr ⟨rfl, a, rfl, rfl⟩), o'.setNo i (fun d z => by cases z), finX_ok c⟩
          · exact c.elim
        · rw [hb] at c
          exact c C d σ' g' H' s' o' hmx hx
    | nx ρ' S' => rw [e] at c; exact c
    | rt d S' => rw [e] at c; exact c
    | bk ρ' S' => rw [e] at c; exact c
    | ct ρ' S' => rw [e] at c; exact c
    | stuck => rw [e] at c; exact c
/-! isinstance(e, T) in the suite -/
def eIsX (i : Nat) (l : List Str) (t : Str) : EX := fun ρ S => match ρ[i]? with
  | some .xc => .ok (.bl (l.contains t), S)
  | _ => .stuck
theorem ge_isX {i : Nat} {n t : Str} {c : Str} {C D' a : Addr} {oe : Obj} {pn : List (Addr × Obj)} {l l' : List Str} {p p1 p2 : Pos} (T : ETabOk X.K X.mg tab) (hl : tab.lookup c = some l) (hm : X.mg c = some (.ref C)) (hl' : tab.lookup t = some l') (hm' : X.mg t = some (.ref D')) (hz : Zc (.ref C) none oe) (hv : ∃ vs, oe.data = .fields vs)
    (hN : X.N[i]? = some n) (hvis : Vis X.env.scope n) (hd : (n == ("__debug__" : Str)) = false) (hcd : (n == ("__classdict__" : Str)) = false) (hg : Gl X "isinstance") (hmi : X.mg "isinstance" = none) (hgt : Gl X t) (hdt : (t == ("__debug__" : Str)) = false)
    (hs1 : starEach [.Name n p1, .Name t p2] X.env = (false, eval (.Name n p1) X.env) :: starEach [.Name t p2] X.env) (hs2 : starEach [.Name t p2] X.env = (false, eval (.Name t p2) X.env) :: starEach [] X.env) :
    GE (cl.with (some a)) (X.suite a ((a, oe) :: pn)) (.Call (.Name "isinstance" p) [.Name n p1, .Name t p2] [] pos) (eIsX i l t) := fun W tk => by
  obtain ⟨C', hC', ec⟩ := T.ok c l hl
  rw [hm] at hC'; cases hC'
  refine PE.weak (pe_callB (X := X.suite a ((a, oe) :: pn)) (call_isE ec hz hv) hg hmi (by decide +kernel) (pa_cons (pe_var hN hvis hd hcd) (pa_cons (pe_glob (v := .ref D') hgt hm' rfl hdt) pa_nil hs2) hs1) (by decide) (by decide) hs1 (by rw [hs2]; rfl)) fun σ H Q ⟨ρ, S, g, sim, cc⟩ => ?_
  unfold eIsX at cc
  split at cc
  · rename_i e
    obtain ⟨a', h1, h2⟩ := sim.xc i e
    have h1 : some a = some a' := h1
    cases h1
    exact ⟨_, h2, _, .ref D', l.contains t, rfl, fun u h => h, (T.two c t l l' C D' hl hl' hm hm').1, Con.val cc sim.st (rep_bl.mpr rfl)⟩
  · exact cc.elim
theorem ge_isXV {i : Nat} {n : Str} {c : Str} {C a : Addr} {oe : Obj} {pn : List (Addr × Obj)} {l : List Str} {p p1 p2 : Pos} (T : ETabOk X.K X.mg tab) (hl : tab.lookup c = some l) (hm : X.mg c = some (.ref C)) (hz : Zc (.ref C) none oe) (hv : ∃ vs, oe.data = .fields vs)
    (hN : X.N[i]? = some n) (hvis : Vis X.env.scope n) (hd : (n == ("__debug__" : Str)) = false) (hcd : (n == ("__classdict__" : Str)) = false) (hg : Gl X "isinstance") (hmi : X.mg "isinstance" = none) (hgt : Gl X "ValueError") (hmt : X.mg "ValueError" = none)
    (hs1 : starEach [.Name n p1, .Name "ValueError" p2] X.env = (false, eval (.Name n p1) X.env) :: starEach [.Name "ValueError" p2] X.env) (hs2 : starEach [.Name "ValueError" p2] X.env = (false, eval (.Name "ValueError" p2) X.env) :: starEach [] X.env) :
    GE (cl.with (some a)) (X.suite a ((a, oe) :: pn)) (.Call (.Name "isinstance" p) [.Name n p1, .Name "ValueError" p2] [] pos) (eIsX i ["ValueError"] "ValueError") := fun W tk => by
  obtain ⟨C', hC', ec⟩ := T.ok c l hl
  rw [hm] at hC'; cases hC'
  refine PE.weak (pe_callB (X := X.suite a ((a, oe) :: pn)) (call_isE ec hz hv) hg hmi (by decide +kernel) (pa_cons (pe_var hN hvis hd hcd) (pa_cons (pe_bltn (v := .ty "ValueError") (u := .type "ValueError") hgt hmt (by decide +kernel) rfl (by decide) (by decide)) pa_nil hs2) hs1) (by decide) (by decide) hs1 (by rw [hs2]; rfl)) fun σ H Q ⟨ρ, S, g, sim, cc⟩ => ?_
  unfold eIsX at cc
  split at cc
  · rename_i e
    obtain ⟨a', h1, h2⟩ := sim.xc i e
    have h1 : some a = some a' := h1
    cases h1
    exact ⟨_, h2, _, .type "ValueError", true, rfl, fun u h => h, T.ve c l C hl hm, Con.val cc sim.st (rep_bl.mpr (by decide))⟩
  · exact cc.elim
end
end GG
end

section
/-! G.N: methods on a slot's own thing; more built-ins. -/
set_option linter.all false
set_option maxRecDepth 100000
namespace GG
open PySem L2
open PyProof.Rows hiding St

abbrev OTab := List (Str × DenO)
structure OOk (P : Program) (w : World) (K : PySem.W.Frag) (mg : Str → Option Value) (base : Heap) (cl : Wp) (k : Nat) (m : Str) (tab : OTab) : Prop where
  ok : ∀ c den, tab.lookup c = some den → ∃ n f C, mg c = some (.ref C) ∧ Cls K C ∧ Meth K C m f ∧ FnO P w K mg base cl k n f den
def ownAt (m : Str) (tab : OTab) (ρ : LEnv) (i : Nat) : Option (MO × DenO) := match ρ[i]? with
  | some (Slot.own (.ins c fs vs)) => if fs.contains m then none else (tab.lookup c).map fun den => (.ins c fs vs, den)
  | _ => none
def sMethO (i : Nat) (m : Str) (tab : OTab) (t : AX) : SX := fun ρ S => optS (ownAt m tab ρ i) fun q => (t ρ S).st ρ fun ds S => (q.2 q.1 ds S).calm.st ρ fun mo S => .nx (ρ.set i (.own mo)) S
section
variable {cl : Wp} {X : Cx} {k : Nat} {e : Expr} {es : List Expr} {t : AX} {pos : Pos}
theorem ownAt_inv {m : Str} {tab : OTab} {ρ : LEnv} {i : Nat} {q : MO × DenO} (h : ownAt m tab ρ i = some q) : ∃ c fs vs, ρ[i]? = some (Slot.own (.ins c fs vs)) ∧ fs.contains m = false ∧ tab.lookup c = some q.2 ∧ q.1 = .ins c fs vs := by
  unfold ownAt at h
  split at h
  · rename_i c fs vs e
    split at h
    · cases h
    · rename_i hz
      rw [Option.map_eq_some_iff] at h
      obtain ⟨den, h1, h2⟩ := h
      cases h2
      exact ⟨c, fs, vs, e, by simpa using hz, h1, rfl⟩
  · cases h
/-- the own thing of a slot, worked on by a def -/
theorem Sim.owned {w : Wd} {B : Bs} {g g' : Gh} {H H' : Hp} {ρ : LEnv} {σ : L2.St} {S S' : Store} {i : Nat} {o mo : MO} {p : Addr} (s : Sim w g H ρ σ S) (ou : Outr B g H ρ σ) (e : ρ[i]? = some (Slot.own o)) (ep : σ[i]? = some (some (V.ref p))) (s' : SimS w g' H' S') (q : Out0 ⟨g, H, fun a => a = p, none⟩ g' H') (f1 : g'.F p = none) (f2 : ∀ j, g'.m j ≠ some p) (m : MOk w g' H' p mo) :
    Sim w g' H' (ρ.set i (.own mo)) σ S' ∧ Outr B g' H' (ρ.set i (.own mo)) σ := by
  have hi : i < ρ.length := (List.getElem?_eq_some_iff.mp e).1
  have back : ∀ {j x}, (ρ.set i (.own mo))[j]? = some (Slot.own x) → ∃ y, ρ[j]? = some (Slot.own y) := fun {j x} e1 => by
    by_cases hj : i = j
    · subst hj; exact ⟨_, e⟩
    · rw [List.getElem?_set_ne hj] at e1; exact ⟨_, e1⟩
  refine ⟨⟨s', by rw [List.length_set]; exact s.len, fun j d e1 => ?_, fun j x e1 => ?_, fun j k x y b e1 e2 e3 e4 => ?_, fun j e1 => ?_⟩, ⟨⟨ou.o.le.trans q.le, fun b u e1 e2 e3 e4 => ?_, fun b u e1 => ?_⟩, fun j x b e1 e2 => ?_, fun z x e1 e2 => ?_⟩⟩
  · by_cases hj : i = j
    · subst hj; rw [List.getElem?_set_self hi] at e1; cases e1
    · rw [List.getElem?_set_ne hj] at e1
      obtain ⟨v, h1, h2⟩ := s.val j d e1
      exact ⟨v, h1, h2.mono q.le⟩
  · by_cases hj : i = j
    · subst hj; rw [List.getElem?_set_self hi] at e1; cases e1; exact ⟨p, ep, f1, f2, m⟩
    · rw [List.getElem?_set_ne hj] at e1
      obtain ⟨b, h1, h2, h3, h4⟩ := s.own j x e1
      obtain ⟨u, hu⟩ := h4.there
      have hb : b ≠ p := fun z => hj (s.apart i j o x p e e1 ep (by rw [← z]; exact h1))
      obtain ⟨k1, k2, k3⟩ := q.out b u hu h2 h3 hb
      exact ⟨b, h1, k2, k3, h4.mono q.le fun u' hu' => by rw [hu] at hu'; cases hu'; exact k1⟩
  · obtain ⟨x', e1⟩ := back e1
    obtain ⟨y', e2⟩ := back e2
    exact s.apart j k x' y' b e1 e2 e3 e4
  · by_cases hj : i = j
    · subst hj; rw [List.getElem?_set_self hi] at e1; cases e1
    · rw [List.getElem?_set_ne hj] at e1; exact s.xc j e1
  · obtain ⟨h1, h2, h3⟩ := ou.o.out b u e1 e2 e3 e4
    refine q.out b u h1 h2 h3 fun z => ?_
    rcases ou.ow i o p e ep with y | y
    · have z : b = p := z
      rw [← z, e1] at y; cases y
    · have z : b = p := z
      exact e4 (z ▸ y)
  · obtain ⟨_, h⟩ := ou.o.th b u e1
    exact q.th b _ h
  · obtain ⟨x', e1⟩ := back e1
    exact ou.ow j x' b e1 e2
  · obtain ⟨x', e2⟩ := back e2
    exact ou.fx z x' e1 e2
theorem gs_methO {i : Nat} {n m : Str} {p : Pos} {apos cpos : Pos} {tab : OTab} {pl : Sem Bool} (M : OOk X.prog X.w X.K X.mg X.base cl k m tab) (hr : Room k X.A) (hN : X.N[i]? = some n) (hvis : Vis X.env.scope n) (hd : (n == ("__debug__" : Str)) = false) (hcd : (n == ("__classdict__" : Str)) = false) (ha : GA cl X (e :: es) t)
    (hst : starEach (e :: es) X.env = (false, eval e X.env) :: starEach es X.env) (hpl : (backTo cpos (starEach es X.env)).any (·.1) = false) (hsw : swapsWith (.Call (.Attribute (.Name n p) m apos) (e :: es) [] cpos) none pos.line X.env = pure false)
    (ht : eval (.Call (.Attribute (.Name n p) m apos) (e :: es) [] cpos) X.env = (do
      let ov ← eval (.Name n p) X.env
      standAt apos.atName
      let (f, first) ← holding [ov] (getMethod ov m pl)
      callWith cpos f first (backTo cpos (starEach (e :: es) X.env)) (backToKw cpos (keywordEach [] X.env)))) : GS cl X (.Expr (.Call (.Attribute (.Name n p) m apos) (e :: es) [] cpos) pos) (sMethO i m tab t) := fun W tk hp => by
  have run : PE X (.Call (.Attribute (.Name n p) m apos) (e :: es) [] cpos) (fun σ H Q => ∃ D : Ends, Q = (fun _ H' => D.nx σ H') ∧ tS (wd X cl) W (sMethO i m tab t) D σ H) := by
    refine ⟨fun pins s σ H Q I ⟨D, eQ, ρ, S, g, B, sim, ou, c⟩ => ?_⟩
    obtain ⟨⟨o, den⟩, e1, c⟩ := c.opt
    obtain ⟨cn, fs, vs0, e2, hz, e3, e4⟩ := ownAt_inv e1
    dsimp only at e3 e4 c
    subst e4
    obtain ⟨n', f, C, hm, hcls, hmt, F⟩ := M.ok cn den e3
    obtain ⟨a, h1, h2, h3, h4⟩ := sim.own i _ e2
    refine PySem.W.methodCall_KW (pl := pl) (thn ((pe_var (pos := p) hN hvis hd hcd).run pins s σ H (fun v H1 => v = .ref a ∧ H1 = H) I ⟨.ref a, h1, rfl, rfl⟩) fun u s1 ⟨x, H1, I1, rx, ex, eH⟩ => ?_) ht
    subst ex eH
    obtain rfl : u = Value.ref a := rx
    obtain ⟨kc, C', dx, us, hm', hH, hl, l⟩ := id h4
    have hm' : X.mg cn = some (.ref C') := hm'
    rw [hm] at hm'; cases hm'
    refine getmeth_ok I1 hH hcls hmt (lookup_none hz) ?_
    refine PySem.W.callWith_K (first := [.ref a]) (h₀ := X.base) I1.ok.mod.kin hmt.kp (thn ((ha W tk).run cpos pins s1 σ H1 (fun vs H2 => ∃ ds S2 g2, Sim (wd X cl) g2 H2 ρ σ S2 ∧ Outr B g2 H2 ρ σ ∧ RepL (wd X cl) g2 ds vs ∧ ConS (wd X cl) W B D ((den (.ins cn fs vs0) ds S2).calm.st ρ fun mo S => .nx (ρ.set i (.own mo)) S)) I1
      (ConS.go sim ou c fun vs H2 ds S2 g2 _ s2 o2 f2 r2 c2 => ⟨ds, S2, g2, s2, o2, r2, c2⟩)) fun us' s2 ⟨vs, H2, I2, r, ds, S2, g2, sm, o2, rp, c2⟩ => ⟨I2.kIn, ?_⟩) hst hpl
    obtain ⟨fd, ps, F1, _, hb⟩ := F.ex
    obtain ⟨a', k1, k2, k3, k4⟩ := sm.own i _ e2
    rw [h1] at k1; cases k1
    have ns : den (.ins cn fs vs0) ds S2 ≠ .stuck := fun z => by rw [z] at c2; exact c2
    refine run_fnS (us := .ref a :: us') (vs := .ref a :: vs) F1 hr hb (passAt tk σ) I2 (.cons rfl r) ⟨by simp [← rp.length, F.ar _ _ _ ns], a, vs, _, ds, S2, g2, rfl, k2, k3, k4, sm.st, rp, ?_⟩
    cases ed : den (.ins cn fs vs0) ds S2 with
    | ok q =>
      rw [ed] at c2
      intro g' H' s' o' f1 f2 mo
      obtain ⟨s3, o3⟩ := sm.owned o2 e2 h1 s' o' f1 f2 mo
      rw [eQ]
      exact c2 σ g' H' s3 o3
    | exc y fs' S' =>
      rw [ed] at c2
      exact c2.elim
    | stuck => exact absurd ed ns
  exact PS.weak (ps_expr run hsw) fun D σ H h => ⟨D, rfl, h⟩
end
/-! ### constants, new lists of other things -/
section
variable {cl : Wp} {X : Cx} {a e : Expr} {ha : HX} {pos : Pos}
theorem ge_cst {x : Str} {v : V} {d : D} (hg : Gl X x) (h : ∃ u, X.mg x = some u ∧ RelV v u) (rd : ∀ g, Rep (wd X cl) g d v) (hd : (x == ("__debug__" : Str)) = false) : GE cl X (.Name x pos) (eC d) := by
  obtain ⟨u, h1, h2⟩ := h
  exact ge_const hg h1 h2 rd hd
def mList (h : HX) : MX := fun ρ S => (h ρ S).bind fun p => (Out.opt ((deref ρ p.2 p.1).bind seqD)).bind fun xs => .ok (.lst xs, p.2)
theorem shown_seq {g : Gh} {H : Hp} {S : Store} {d : D} {v : V} {xs : List D} (s : SimS (wd X cl) g H S) (sh : Shown (wd X cl) g H d v) (e : seqD d = some xs) : ∃ p ys, v = .ref p ∧ (SqL X.K H p ys ∨ SqT X.K H p ys) ∧ RepL (wd X cl) g xs ys := by
  cases d <;> first | (cases e; done) | skip
  · cases e
    obtain ⟨a, vs, rfl, h, l⟩ := (rep_tup' (w := wd X cl) (g := g)).mp sh
    exact ⟨a, vs, rfl, .inr (sqT_sub s.sub (SqT.of h)), l⟩
  · cases e
    obtain ⟨a, vs, rfl, h, l⟩ := sh
    exact ⟨a, vs, rfl, .inl (SqL.of h), l⟩
  · cases e
    obtain ⟨a, vs, rfl, h, l⟩ := (rep_ktp' (w := wd X cl) (g := g)).mp sh
    exact ⟨a, vs, rfl, .inr (sqT_sub s.sub h), l⟩
  · cases e
    obtain ⟨a, vs, rfl, h, l⟩ := (rep_frl' (w := wd X cl) (g := g)).mp sh
    exact ⟨a, vs, rfl, .inl (sqL_sub s.sub h), l⟩
theorem gm_list {p : Pos} (hg : Gl X "list") (hm : X.mg "list" = none) (h : GHd cl X a ha) (hs : starEach [a] X.env = [(false, eval a X.env)]) : GM cl X (.Call (.Name "list" p) [a] [] pos) (mList ha) := fun W tk =>
  PE.weak (pe_callTy call_list_of hg hm (by decide +kernel) (pa_cons (h W tk) pa_nil hs) (by decide) (by decide) hs rfl) fun σ H Q ⟨ρ, S, g, sim, c⟩ => Con.fst (R := RH (wd X cl) σ) sim c fun v H1 hd S1 g1 s1 f1 r1 c1 => by
    obtain ⟨xs, e, c2⟩ := c1.opt
    rw [Option.bind_eq_some_iff] at e
    obtain ⟨d, e1, e2⟩ := e
    obtain ⟨p, ys, rfl, hq, l⟩ := shown_seq s1.st (shown_of s1 r1 e1) e2
    refine ⟨p, ys, rfl, hq, fun q hq => ?_⟩
    obtain ⟨t, f, r⟩ := new_RN (mo := .lst xs) (u := .lst ys) s1.st f1 hq ⟨ys, upd_same, l⟩
    exact c2 _ _ _ t f r
def mDic0 : MX := fun _ S => .ok (.dic [] [], S)
theorem gm_dic0 : GM cl X (.Dict [] [] pos) mDic0 := fun W tk => PE.weak pe_dnewK fun σ H Q ⟨ρ, S, g, sim, c⟩ p hp => by
  obtain ⟨t, f, r⟩ := new_RN (w := wd X cl) (mo := .dic [] []) (u := .dK []) sim.st .refl hp ⟨[], .dK [], upd_same, ⟨rfl, .inl ⟨[], rfl, rfl⟩⟩, .nil⟩
  exact c _ _ _ t f r
/-- pop(i) -/
def popD (ds : List D) : MO → Option MO
  | .lst xs => match ds with
    | [.int i] => if fitI i then (seqIndex? i xs.length).bind fun k => if k < xs.length then some (.lst (xs.eraseIdx k)) else none else none
    | _ => none
  | _ => none
theorem repL_erase {w : Wd} {g : Gh} : ∀ {ds : List D} {vs : List V} {k : Nat}, RepL w g ds vs → RepL w g (ds.eraseIdx k) (vs.eraseIdx k)
  | [], _, _, h => by rw [h.cases0]; exact .nil
  | d :: ds, _, 0, h => by obtain ⟨v, r, rfl, q, t⟩ := h.cases; exact t
  | d :: ds, _, k + 1, h => by obtain ⟨v, r, rfl, q, t⟩ := h.cases; exact .cons q (repL_erase t)
theorem mt_popI : MtOk X cl rPopAt popD := fun g H S a us ds mo mo' Q s rp m e q => by
  unfold popD at e
  split at e
  · split at e
    · rename_i i
      split at e
      · rename_i hz
        rw [Option.bind_eq_some_iff] at e
        obtain ⟨k, e1, e2⟩ := e
        split at e2
        · rename_i hk
          cases e2
          obtain ⟨vs, hH, l⟩ := m
          obtain ⟨v, r, rfl, q1, q2⟩ := rp.cases
          rw [q2.cases0, rep_int.mp q1]
          obtain ⟨z1, z2⟩ := fitI_iff hz
          rw [l.length] at e1 hk
          exact ⟨a, vs, i, k, vs[k], rfl, rfl, hH, by omega, by omega, e1, List.getElem?_eq_getElem hk, q _ _ ⟨_, upd_same, repL_erase l⟩⟩
        · cases e2
      · cases e
    · cases e
  · cases e
end
end GG
end

section
set_option linter.all false
set_option maxRecDepth 100000
namespace GG
open PySem PySem.Spec PyProof.Rows L2

/-! ### set(t), t a list or a tuple: the road to the loop -/
section
variable {P : Program} {w : World} {A : Around} {E : Value → Shared → Prop} {s : Shared}
/-- the new empty set -/
def bareSet (w : World) : Obj := { cls := .type "set", dict := none, data := .set #[] 0 (.fresh 0 0 (!w.params.followText "set-order")) }
/-- the iterator over the thing at l -/
def itObj (nm : String) (l : Addr) : Obj := { cls := .type nm, data := .fields #[.ref l, .int 0 0] }
set_option maxHeartbeats 3200000 in
theorem set_road {T IT : String} {l : Addr} {od : Option Addr} {its : Array Value} {nl : Nat} {os : Array (Option Value)} {Q : Value → Shared → Prop}
    (ho : s.heap.get? l = some { cls := .type T, dict := od, data := .seq its nl, slots := os })
    (q1 : isSubtype (.type T) (.type "set") = pure false) (q2 : isSubtype (.type T) (.type "frozenset") = pure false) (q3 : (Value.type T == Value.type "dict") = false)
    (itr : ∀ {B : Around} {Q E t}, t.heap.get? l = some { cls := .type T, dict := od, data := .seq its nl, slots := os } →
      Q (.ref t.heap.objs.size) { t with heap := t.heap.push (itObj IT l) } → wpAny (model P w) B (pyIter (.ref l)) Q E t)
    (run : codeAny (model P w) A.in1.in1 (.builtin "set.update.loop" ⟨[.ref s.heap.objs.size, .ref (s.heap.push (bareSet w)).objs.size], []⟩)
      (fun r s' => r = .ok (.ret .none) ∧ Q (.ref s.heap.objs.size) s')
      { s with heap := (s.heap.push (bareSet w)).push (itObj IT l) }) :
    wpAny (model P w) A (call (.type "set") [.ref l]) Q E s := by
  have ⟨_, _, mroIs⟩ := F.called_set.mro
  have madeIs := F.called_set.made
  have subIs := F.called_set.sub
  have n1 := F.called_set.notType
  have n2 := F.called_set.canCreate
  have tc := F.typeCall_set_1 (.ref l)
  refine wpAny_call (codeAny_of_tree ?_)
  show wpAny _ _ (callAny (.type "set") _) _ _ _
  refine wpAny_pure ⟨Code.quiet_builtin _ (by decide +kernel), ?_⟩
  refine codeAny_builtin F.entry_type_call ?_
  rw [Around.under_plain (weight_type_call_type "set" [.ref l] []) rfl]
  repeat (any_goals (first | assumption | wp_step))
  refine codeAny_mono (code_set_led1 (.ref l) (E := E) (Q₁ := fun x t => x = .ref s.heap.objs.size ∧ t = { s with heap := s.heap.push (bareSet w) }) ⟨rfl, rfl⟩) fun r t hr => ?_
  rcases r with e | fl
  · exact hr
  · cases fl with
    | ret x =>
      obtain ⟨rfl, rfl⟩ := hr
      have here : (s.heap.push (bareSet w)).get? s.heap.objs.size = some (bareSet w) := Heap.get?_push_size _ rfl
      have tyIs : Shared.TypeIs { s with heap := s.heap.push (bareSet w) } (.ref s.heap.objs.size) "set" := ⟨_, here, rfl⟩
      have lookIs := F.called_set.init.lookup
      have bindIs := F.called_set.init.bind (.ref s.heap.objs.size)
      repeat (any_goals (first | assumption | wp_step))
      refine codeAny_mono (codeAny_call_builtin (R := fun r t => r = .ok (.ret .none) ∧ Q (.ref s.heap.objs.size) t) F.called_set.init.plain F.entry_set_init (check_set_init_1 tyIs ?_)) fun r2 t2 hr2 => ?_
      · have ho2 : (s.heap.push (bareSet w)).get? l = some { cls := .type T, dict := od, data := .seq its nl, slots := os } := Heap.get?_push_of_some _ ho
        unfold Builtin.«set.__init__» noKeywords Builtin.Frozenset.updateFrom
        generalize hPI : pyIter = PI
        wp_walk
        subst hPI
        refine itr ho2 (wpAny_bind (wpAny_runValue (codeAny_mono run fun r3 t3 hr3 => ?_)))
        obtain ⟨rfl, q⟩ := hr3
        exact wpAny_pure (wpAny_pure ⟨rfl, q⟩)
      · obtain ⟨rfl, q⟩ := hr2
        repeat (any_goals (first | assumption | wp_step))
    | _ => exact hr.elim
end

section
variable {P : Program} {w : World} {A : Around} {E : Value → Shared → Prop} {s : Shared}
theorem set_road_t {l : Addr} {its : Array Value} {Q : Value → Shared → Prop} (hl : s.heap.IsTuple l its)
    (run : codeAny (model P w) A.in1.in1 (.builtin "set.update.loop" ⟨[.ref s.heap.objs.size, .ref (s.heap.push (bareSet w)).objs.size], []⟩)
      (fun r s' => r = .ok (.ret .none) ∧ Q (.ref s.heap.objs.size) s')
      { s with heap := (s.heap.push (bareSet w)).push (itObj "tuple_iterator" l) }) : wpAny (model P w) A (call (.type "set") [.ref l]) Q E s := by
  obtain ⟨⟨oc, od, oda, os⟩, ho, hc, nl, hd⟩ := hl
  simp only at hc hd
  subst hc hd
  exact set_road ho F.sub_tuple_set F.sub_tuple_frozenset (by decide) (fun e q => wpAny_pyIter_tuple ⟨_, e, rfl, nl, rfl⟩ q) run
theorem set_road_l {l : Addr} {its : Array Value} {Q : Value → Shared → Prop} (hl : s.heap.IsList l its)
    (run : codeAny (model P w) A.in1.in1 (.builtin "set.update.loop" ⟨[.ref s.heap.objs.size, .ref (s.heap.push (bareSet w)).objs.size], []⟩)
      (fun r s' => r = .ok (.ret .none) ∧ Q (.ref s.heap.objs.size) s')
      { s with heap := (s.heap.push (bareSet w)).push (itObj "list_iterator" l) }) : wpAny (model P w) A (call (.type "set") [.ref l]) Q E s := by
  obtain ⟨⟨oc, od, oda, os⟩, ho, hc, nl, hd⟩ := hl
  simp only at hc hd
  subst hc hd
  exact set_road ho F.sub_list_set F.sub_list_frozenset (by decide) (fun e q => wpAny_pyIter_list ⟨_, e, rfl, nl, rfl⟩ q) run
end
end GG
end

section
set_option linter.all false
set_option maxRecDepth 100000
namespace GG
open PySem PySem.Spec PyProof.Rows L2

/-- each once, in the order in which they are first met -/
def uq {α : Type} [DecidableEq α] (xs : List α) : List α := xs.foldl (fun a x => if x ∈ a then a else a ++ [x]) []
theorem uq_snoc {α : Type} [DecidableEq α] (xs : List α) (x : α) : uq (xs ++ [x]) = if x ∈ uq xs then uq xs else uq xs ++ [x] := by
  unfold uq
  rw [List.foldl_append]
  rfl
theorem uq_mem {α : Type} [DecidableEq α] (y : α) : ∀ (n : Nat) (xs : List α), xs.length = n → (y ∈ uq xs ↔ y ∈ xs) := by
  intro n
  induction n with
  | zero => intro xs h; cases xs with
    | nil => exact Iff.rfl
    | cons a b => simp at h
  | succ n ih =>
    intro xs h
    obtain ⟨as, a, rfl⟩ : ∃ as a, xs = as ++ [a] := ⟨xs.dropLast, xs.getLast (by intro e; simp [e] at h), (List.dropLast_concat_getLast _).symm⟩
    have ih := ih as (by simpa using h)
    rw [uq_snoc]
    split
    · rename_i hm
      rw [ih, List.mem_append, List.mem_singleton]
      refine ⟨.inl, fun q => q.elim id fun e => ?_⟩
      subst e
      exact ih.mp hm
    · rw [List.mem_append, List.mem_append, ih]
theorem uq_le {α : Type} [DecidableEq α] : ∀ (n : Nat) (xs : List α), xs.length = n → (uq xs).length ≤ n := by
  intro n
  induction n with
  | zero => intro xs h; cases xs with
    | nil => exact Nat.le_refl _
    | cons a b => simp at h
  | succ n ih =>
    intro xs h
    obtain ⟨as, a, rfl⟩ : ∃ as a, xs = as ++ [a] := ⟨xs.dropLast, xs.getLast (by intro e; simp [e] at h), (List.dropLast_concat_getLast _).symm⟩
    have ih := ih as (by simpa using h)
    rw [uq_snoc]
    split
    · omega
    · simp; omega
theorem uq_nodup {α : Type} [DecidableEq α] : ∀ (n : Nat) (xs : List α), xs.length = n → xs.Nodup → uq xs = xs := by
  intro n
  induction n with
  | zero => intro xs h _; cases xs with
    | nil => rfl
    | cons a b => simp at h
  | succ n ih =>
    intro xs h hd
    obtain ⟨as, a, rfl⟩ : ∃ as a, xs = as ++ [a] := ⟨xs.dropLast, xs.getLast (by intro e; simp [e] at h), (List.dropLast_concat_getLast _).symm⟩
    rw [List.nodup_append] at hd
    have e := ih as (by simpa using h) hd.1
    rw [uq_snoc, e, if_neg fun m => hd.2.2 a m a List.mem_cons_self rfl]

section
variable {P : Program} {w : World} {A : Around} {R : Result → Shared → Prop} {I : Addr} {fp wr : List Addr} {G : Array GenState → Array GenState → Prop} {n : Nat} {Pv : Nat → Value → Prop} {St : Nat → Shared → Prop}
theorem set_fill {K : Type} [DecidableEq K] (kd : PySem.KeyKind P w K) (W : WalksS P w A.in1 I fp wr G n Pv St) (S : Addr) (hS : S ∉ fp) (ks : List K) (hn : n = ks.length) (hb : ks.length + 1 < scanBound)
    (val : ∀ i v, Pv i v → ∃ k, ks[i]? = some k ∧ kd.is k v = true ∧ v.scannable = true) :
    ∀ (d i : Nat) (s : Shared), n - i = d → i ≤ n → St i s → s.heap.SetOf kd S (fun k => decide (k ∈ ks.take i)) (uq (ks.take i)).length →
      (∀ t, Moved (S :: wr) G s t → t.heap.SetOf kd S (fun k => decide (k ∈ ks)) (uq ks).length → R (.ok (.ret .none)) t) →
      codeAny (model P w) A (.builtin "set.update.loop" ⟨[.ref S, .ref I], []⟩) R s := by
  have notW : S ∉ wr := fun h => hS (W.sub _ h)
  have wid : ∀ b ∈ wr, b ∈ S :: wr := fun b h => .tail _ h
  intro d
  induction d with
  | zero =>
    intro i s hd hi hst hO hR
    have hin : i = n := Nat.le_antisymm hi (Nat.le_of_sub_eq_zero hd)
    subst hin
    refine codeAny_builtin F.entry_set_update_loop ?_
    rw [Around.under_plainId F.plain_set_update_loop _]
    show wpAny _ A.in1 (_ >>= _) _ _ s
    refine wpAny_bind (W.done s _ _ hst fun t hm => ?_)
    rw [List.take_of_length_le (by omega)] at hO
    obtain ⟨o, es, ep, tb, ho, rest⟩ := hO
    exact wpAny_pure (hR t (hm.mono wid) ⟨o, es, ep, tb, hm.heap S _ notW ho, rest⟩)
  | succ d ih =>
    intro i s hd hi hst hO hR
    have hlt : i < n := by omega
    refine codeAny_builtin F.entry_set_update_loop ?_
    rw [Around.under_plainId F.plain_set_update_loop _]
    show wpAny _ A.in1 (_ >>= _) _ _ s
    refine wpAny_bind (W.item i s _ _ hlt hst fun v t hP hst' hm => ?_)
    obtain ⟨k, hk, is, sc⟩ := val i v hP
    have hO' : t.heap.SetOf kd S (fun k => decide (k ∈ ks.take i)) (uq (ks.take i)).length := by
      obtain ⟨o, es, ep, tb, ho, rest⟩ := hO
      exact ⟨o, es, ep, tb, hm.heap S _ notW ho, rest⟩
    have small : (uq (ks.take i)).length ≤ i := Nat.le_trans (uq_le _ _ rfl) (by simp; omega)
    show wpAny _ A.in1 (holding [v] (setAdd S v) >>= _) _ _ t
    refine wpAny_bind (wpAny_holding ?_)
    unfold setAdd
    refine wpAny_holding (wpAny_bind (kd.pyHash is ?_))
    refine wpAny_setAddHashed_of (knd := kd) (s := { t with toks := t.toks + 1 }) is sc hO' (by omega) fun h2 same hO2 => ?_
    have tk : ks.take (i + 1) = ks.take i ++ [k] := by rw [List.take_add_one, hk]; rfl
    have e1 : (fun j => decide (j ∈ ks.take i) || decide (j = k)) = fun j => decide (j ∈ ks.take (i + 1)) := funext fun j => by
      rw [tk]
      simp [List.mem_append]
    have e2 : (if decide (k ∈ ks.take i) = true then (uq (ks.take i)).length else (uq (ks.take i)).length + 1) = (uq (ks.take (i + 1))).length := by
      rw [tk, uq_snoc]
      by_cases q : k ∈ ks.take i
      · rw [if_pos (by simpa using q), if_pos ((uq_mem k _ _ rfl).mpr q)]
      · rw [if_neg (by simpa using q), if_neg fun z => q ((uq_mem k _ _ rfl).mp z)]
        simp
    rw [e1, e2] at hO2
    refine wpAny_pure ⟨plainId_quiet F.plain_set_update_loop _, ih (i + 1) _ (by omega) hlt (W.frame _ t _ _ hst' (Nat.le_succ _) fun b hb o e => ?_) hO2 fun t2 hm2 hO3 => ?_⟩
    · rw [same.2 b (fun z : b = S => hS (z ▸ hb))]
      exact e
    · refine hR t2 (Moved.trans W.gtrans ((hm.mono wid).then_heap (Nat.le_succ _) fun b o hb e => ?_) hm2) hO3
      rw [same.2 b (fun z : b = S => hb (z ▸ List.mem_cons_self))]
      exact e
end

section
variable {P : Program} {w : World} {A : Around} {E : Value → Shared → Prop} {s : Shared}
/-- the loop for a new set from the walk over l -/
theorem set_run {K : Type} [DecidableEq K] (kd : PySem.KeyKind P w K) {IT : String} {l : Addr} {n : Nat} {Pv : Nat → Value → Prop} {St : Nat → Shared → Prop} {Q : Value → Shared → Prop} {ks : List K}
    (hl : @LT.lt Nat _ l s.heap.objs.size)
    (W : WalksS P w A.in1.in1.in1 (s.heap.push (bareSet w)).objs.size [(s.heap.push (bareSet w)).objs.size, l] [(s.heap.push (bareSet w)).objs.size] (fun a b => b = a) n Pv St)
    (hn : n = ks.length) (hb : ks.length + 1 < scanBound) (val : ∀ i v, Pv i v → ∃ k, ks[i]? = some k ∧ kd.is k v = true ∧ v.scannable = true)
    (st : St 0 { s with heap := (s.heap.push (bareSet w)).push (itObj IT l) })
    (h : ∀ (h' : Heap) (tk : Nat), h'.SetOf kd s.heap.objs.size (fun k => decide (k ∈ ks)) (uq ks).length →
      (∀ b o, s.heap.get? b = some o → h'.get? b = some o) → Q (.ref s.heap.objs.size) { s with heap := h', toks := tk }) :
    codeAny (model P w) A.in1.in1 (.builtin "set.update.loop" ⟨[.ref s.heap.objs.size, .ref (s.heap.push (bareSet w)).objs.size], []⟩)
      (fun r s' => r = .ok (.ret .none) ∧ Q (.ref s.heap.objs.size) s') { s with heap := (s.heap.push (bareSet w)).push (itObj IT l) } := by
  have z1 : (s.heap.push (bareSet w)).objs.size = s.heap.objs.size + 1 := Heap.size_push ..
  have ne : ∀ {b c d : Addr}, @Ne Nat b c → @Ne Nat b d → b ∉ [c, d] := fun h1 h2 m => by
    rcases List.mem_cons.mp m with q | m
    · exact h1 q
    rcases List.mem_cons.mp m with q | m
    · exact h2 q
    · cases m
  refine set_fill (A := A.in1.in1) kd W s.heap.objs.size (by rw [z1]; exact ne (by omega) (by omega)) ks hn hb val (n - 0) 0 _ rfl (Nat.zero_le _) st ?_ fun t hm hO => ?_
  · have g : ((s.heap.push (bareSet w)).push (itObj IT l)).get? s.heap.objs.size = some (bareSet w) := Heap.get?_push_of_some _ (Heap.get?_push_size _ rfl)
    exact (PyProof.Rows.setObjOf_fresh (knd := kd) _).setOf g (by decide)
  · obtain ⟨h', g', d', tk', os'⟩ := t
    have eg : g' = s.gens := hm.gens
    have ed : d' = s.drawn := hm.drawn
    have eo : os' = s.os := hm.os
    subst eg ed eo
    refine ⟨rfl, h h' tk' hO fun b o e => hm.heap b o ?_ (Heap.get?_push_of_some _ (Heap.get?_push_of_some _ e))⟩
    have : @LT.lt Nat _ b s.heap.objs.size := Heap.lt_size e
    rw [z1]
    exact ne (by omega) (by omega)
end
end GG
end

section
set_option linter.all false
set_option maxRecDepth 100000
namespace GG
open PySem PySem.Spec PyProof.Rows L2

def memK {α : Type} [DecidableEq α] (ks : List α) (k : α) : Bool := decide (k ∈ ks)
theorem keys_at {ks : List L2.Key} {its : List Value} (r : Vals (ks.map kV) its) {i : Nat} {v : Value} (h : its[i]? = some v) : ∃ k, ks[i]? = some k ∧ keyIs k v = true ∧ v.scannable = true := by
  have hi : i < ks.length := by
    have := (List.getElem?_eq_some_iff.mp h).1
    rw [← r.length, List.length_map] at this
    exact this
  obtain ⟨u, e, q⟩ := r.get (i := i) (x := kV ks[i]) (by simp [hi])
  rw [h] at e
  cases e
  refine ⟨ks[i], List.getElem?_eq_getElem hi, ?_⟩
  cases hk : ks[i] with
  | inl n => rw [hk] at q; obtain ⟨t, rfl⟩ := q; exact ⟨keyIs_int _ _, rfl⟩
  | inr n => rw [hk] at q; obtain ⟨t, rfl⟩ := q; exact ⟨keyIs_str _ _, rfl⟩

section
variable {P : Program} {w : World} {A : Around} {E : Value → Shared → Prop} {s : Shared}
theorem set_keys {l : Addr} {its : List Value} {ks : List L2.Key} {Q : Value → Shared → Prop} (hh : A.handled = none) (hl : s.heap.IsList l its.toArray ∨ s.heap.IsTuple l its.toArray) (r : Vals (ks.map kV) its) (hb : ks.length + 1 < scanBound)
    (h : ∀ (h' : Heap) (tk : Nat), h'.SetOf (mixKind P w) s.heap.objs.size (memK ks) (uq ks).length →
      (∀ b o, s.heap.get? b = some o → h'.get? b = some o) → Q (.ref s.heap.objs.size) { s with heap := h', toks := tk }) :
    wpAny (model P w) A (call (.type "set") [.ref l]) Q E s := by
  have hn : its.toArray.size = ks.length := by rw [List.size_toArray, ← r.length, List.length_map]
  have z1 : (s.heap.push (bareSet w)).objs.size = s.heap.objs.size + 1 := Heap.size_push ..
  have hh3 : A.in1.in1.in1.handled = none := by simp [hh]
  have val : ∀ i v, its.toArray[i]? = some v → ∃ k, ks[i]? = some k ∧ (mixKind P w).is k v = true ∧ v.scannable = true := fun i v e => keys_at r (by simpa using e)
  rcases hl with hl | hl
  · obtain ⟨o, ho, -⟩ := id hl
    have hlt : @LT.lt Nat _ l s.heap.objs.size := Heap.lt_size ho
    have ne : l ≠ (s.heap.push (bareSet w)).objs.size := by rw [z1]; exact fun e => Nat.ne_of_lt (Nat.lt_succ_of_lt hlt) e
    refine set_road_l hl (set_run (IT := "list_iterator") (mixKind P w) hlt ((Walks.list hh3 _ l ne its.toArray).toS) hn hb val ⟨⟨_, Heap.get?_push_size _ rfl, rfl, rfl⟩, (hl.push _).push _⟩ h)
  · obtain ⟨o, ho, -⟩ := id hl
    have hlt : @LT.lt Nat _ l s.heap.objs.size := Heap.lt_size ho
    have ne : l ≠ (s.heap.push (bareSet w)).objs.size := by rw [z1]; exact fun e => Nat.ne_of_lt (Nat.lt_succ_of_lt hlt) e
    refine set_road_t hl (set_run (IT := "tuple_iterator") (mixKind P w) hlt ((Walks.tuple hh3 _ l ne its.toArray).toS) hn hb val ⟨⟨_, Heap.get?_push_size _ rfl, rfl, rfl⟩, (hl.push _).push _⟩ h)
end

section
variable {X : Cx}
def tLSK (K : PySem.W.Frag) (ta : TE) : TE := fun σ H Q => ta σ H fun x H1 => ∃ l, ∃ ks : List L2.Key, x = .ref l ∧ (SqL K H1 l (ks.map kV) ∨ SqT K H1 l (ks.map kV)) ∧ ks.length + 1 < scanBound ∧ Q (.int (uq ks).length) H1
theorem pe_lsk {a : Expr} {ta : TE} {p p2 q pos : Pos} (hc : X.calm = true) (hg : Gl X "len") (hm : X.mg "len" = none) (hg2 : Gl X "set") (hm2 : X.mg "set" = none) (ha : PE X a ta)
    (na : starEach [a] X.env = [(false, eval a X.env)]) : PE X (.Call (.Name "len" p) [.Call (.Name "set" p2) [a] [] q] [] pos) (tLSK X.K ta) := by
  refine ⟨fun pins s σ H Q I h => Call_ (ld_blt I hg hm boot_len (PyProof.Rows.callWith_builtin1 (PyProof.Rows.args_cons ?_ rfl) rfl rfl))⟩
  refine Call_ (ld_blt I hg2 hm2 boot_set (PyProof.Rows.callWith_type1 (PyProof.Rows.args_cons (thn (ha.run pins s σ H _ I h) fun v s1 ⟨x, H1, I1, r1, q1⟩ => PyProof.Rows.args_nil ?_) na) na rfl))
  obtain ⟨l, ks, rfl, hq, hb, q1⟩ := q1
  cases r1
  obtain ⟨its, r, hl⟩ : ∃ its : List Value, Vals (ks.map kV) its ∧ (s1.heap.IsList l its.toArray ∨ s1.heap.IsTuple l its.toArray) := by
    rcases hq with hq | hq
    · obtain ⟨its, r, pl, -⟩ := I1.list hq
      exact ⟨its, r, .inl pl.isList⟩
    · obtain ⟨its, r, pl, -⟩ := I1.tuple hq
      exact ⟨its, r, .inr pl⟩
  refine set_keys (I1.ok.hd hc) hl r hb fun h' tk hS hk => PyProof.Rows.args_nil ?_
  obtain ⟨o, es, ep, t, ho, hex, hd, _, _, _, hf, hn⟩ := hS
  have I2 : Inv X pins σ H1 { s1 with heap := h', toks := tk } := I1.kept fun b o e => hk b o e
  have few : (uq ks).length ≤ ks.length := uq_le _ _ rfl
  have c9 : scanBound ≤ 5000 := by decide
  refine call_len_set ho hex hd hf (by rw [hn]; omega) ⟨.int (uq ks).length, H1, I2.tok _, ⟨_, by rw [hn]⟩, q1⟩
end
def lensetD (d : D) : Option D := (seqD d).bind fun xs => (keysL xs).bind fun ks => if ks.length + 1 < scanBound then some (.int (uq ks).length) else none
section
variable {cl : Wp} {X : Cx} {a : Expr} {ha : HX} {pos p p2 q : Pos}
theorem ge_lenset (hc : X.calm = true) (hg : Gl X "len") (hm : X.mg "len" = none) (hg2 : Gl X "set") (hm2 : X.mg "set" = none) (h : GHd cl X a ha) (hs : starEach [a] X.env = [(false, eval a X.env)]) :
    GE cl X (.Call (.Name "len" p) [.Call (.Name "set" p2) [a] [] q] [] pos) (eH ha lensetD) := fun W tk =>
  PE.weak (pe_lsk hc hg hm hg2 hm2 (h W tk) hs) fun σ H Q ⟨ρ, S, g, sim, c⟩ => Con.go sim c fun v H1 hd S1 g1 e1 s1 f1 r1 c1 => by
    obtain ⟨d, e, c3⟩ := c1.opt
    rw [Option.bind_eq_some_iff] at e
    obtain ⟨dc, e3, e4⟩ := e
    unfold lensetD at e4
    rw [Option.bind_eq_some_iff] at e4
    obtain ⟨xs, e5, e6⟩ := e4
    rw [Option.bind_eq_some_iff] at e6
    obtain ⟨ks, e7, e8⟩ := e6
    obtain ⟨l, ys, rfl, hq, hl⟩ := shown_seq s1.st (shown_of s1 r1 e3) e5
    have e9 := keysL_rep e7 hl
    subst e9
    split at e8
    · rename_i hb
      cases e8
      exact ⟨l, ks, rfl, hq, hb, Con.val c3 s1.st (rep_int.mpr rfl)⟩
    · cases e8
end
end GG
end

section
set_option linter.all false
set_option maxRecDepth 100000
namespace GG
open PySem PySem.Spec PyProof.Rows L2

/-! ### sorted(set(t)), t of ints -/
def insU (a : Int) : List Int → List Int
  | [] => [a]
  | b :: r => if a < b then a :: b :: r else if a = b then b :: r else b :: insU a r
def srtU (xs : List Int) : List Int := xs.foldr insU []
theorem insU_mem (a k : Int) : ∀ xs, k ∈ insU a xs ↔ k = a ∨ k ∈ xs
  | [] => by simp [insU]
  | b :: r => by
    unfold insU
    split
    · simp
    · split
      · rename_i e; subst e; simp
      · simp [insU_mem a k r]; constructor
        · rintro (h | h | h) <;> simp [h]
        · rintro (h | h | h) <;> simp [h]
theorem insU_sorted (a : Int) : ∀ xs, xs.Pairwise (· < ·) → (insU a xs).Pairwise (· < ·)
  | [], _ => by simp [insU]
  | b :: r, h => by
    rw [List.pairwise_cons] at h
    unfold insU
    split
    · rename_i hab
      refine List.pairwise_cons.mpr ⟨fun x hx => ?_, List.pairwise_cons.mpr h⟩
      rcases List.mem_cons.mp hx with rfl | hx
      · exact hab
      · have := h.1 x hx; omega
    · split
      · exact List.pairwise_cons.mpr h
      · refine List.pairwise_cons.mpr ⟨fun x hx => ?_, insU_sorted a r h.2⟩
        rcases (insU_mem a x r).mp hx with rfl | hx
        · omega
        · exact h.1 x hx
theorem srtU_mem (k : Int) : ∀ xs, k ∈ srtU xs ↔ k ∈ xs
  | [] => Iff.rfl
  | a :: r => by
    show k ∈ insU a (srtU r) ↔ _
    rw [insU_mem, srtU_mem k r, List.mem_cons]
theorem srtU_sorted : ∀ xs, (srtU xs).Pairwise (· < ·)
  | [] => .nil
  | a :: r => insU_sorted a _ (srtU_sorted r)
theorem sorted_uniq : ∀ {xs ys : List Int}, xs.Pairwise (· < ·) → ys.Pairwise (· < ·) → (∀ k, k ∈ xs ↔ k ∈ ys) → xs = ys
  | [], [], _, _, _ => rfl
  | [], b :: r, _, _, h => by have := (h b).mpr List.mem_cons_self; cases this
  | a :: r, [], _, _, h => by have := (h a).mp List.mem_cons_self; cases this
  | a :: r, b :: t, h1, h2, h => by
    rw [List.pairwise_cons] at h1 h2
    have e : a = b := by
      rcases List.mem_cons.mp ((h a).mp List.mem_cons_self) with e | m
      · exact e
      · rcases List.mem_cons.mp ((h b).mpr List.mem_cons_self) with e | m2
        · exact e.symm
        · have q1 := h2.1 a m; have q2 := h1.1 b m2; omega
    subst e
    have ne1 : a ∉ r := fun m => by have := h1.1 a m; omega
    have ne2 : a ∉ t := fun m => by have := h2.1 a m; omega
    rw [sorted_uniq h1.2 h2.2 fun k => ?_]
    have hk := h k
    rw [List.mem_cons, List.mem_cons] at hk
    constructor
    · intro m
      rcases hk.mp (.inr m) with rfl | m2
      · exact absurd m ne1
      · exact m2
    · intro m
      rcases hk.mpr (.inr m) with rfl | m2
      · exact absurd m ne2
      · exact m2

section
variable {P : Program} {w : World} {A : Around} {E : Value → Shared → Prop} {s : Shared}
theorem set_ints {l : Addr} {its : List Value} {ns : List Int} {Q : Value → Shared → Prop} (hh : A.handled = none) (hl : s.heap.IsList l its.toArray ∨ s.heap.IsTuple l its.toArray) (r : Vals (ns.map V.int) its) (hb : ns.length + 1 < scanBound)
    (h : ∀ (h' : Heap) (tk c : Nat), SetR w h' s.heap.objs.size (fun j => decide (j ∈ ns)) c → c ≤ ns.length →
      (∀ b o, s.heap.get? b = some o → h'.get? b = some o) → Q (.ref s.heap.objs.size) { s with heap := h', toks := tk }) :
    wpAny (model P w) A (call (.type "set") [.ref l]) Q E s := by
  have hn : its.toArray.size = ns.length := by rw [List.size_toArray, ← r.length, List.length_map]
  have z1 : (s.heap.push (bareSet w)).objs.size = s.heap.objs.size + 1 := Heap.size_push ..
  have hh3 : A.in1.in1.in1.handled = none := by simp [hh]
  have val : ∀ i v, its.toArray[i]? = some v → ∃ (k : Int) (t : Tok), ns[i]? = some k ∧ v = Value.int k t := fun i v e => by
    have hi : i < ns.length := by
      rw [← hn]
      exact (Array.getElem?_eq_some_iff.mp e).1
    obtain ⟨u, e1, q⟩ := r.get (i := i) (x := V.int ns[i]) (by simp [hi])
    rw [show its.toArray[i]? = its[i]? by simp, e1] at e
    cases e
    obtain ⟨t, rfl⟩ := q
    exact ⟨ns[i], t, List.getElem?_eq_getElem hi, rfl⟩
  have ne3 : ∀ {b c d : Addr}, @Ne Nat b c → @Ne Nat b d → b ∉ [c, d] := fun h1 h2 m => by
    rcases List.mem_cons.mp m with q | m
    · exact h1 q
    rcases List.mem_cons.mp m with q | m
    · exact h2 q
    · cases m
  have fin : ∀ {IT : String} {Pv : Nat → Value → Prop} {St : Nat → Shared → Prop} (W : WalksS P w A.in1.in1.in1 (s.heap.push (bareSet w)).objs.size [(s.heap.push (bareSet w)).objs.size, l] [(s.heap.push (bareSet w)).objs.size] (fun a b => b = a) its.toArray.size Pv St),
      @LT.lt Nat _ l s.heap.objs.size → (∀ i v, Pv i v → ∃ (k : Int) (t : Tok), ns[i]? = some k ∧ v = Value.int k t) → St 0 { s with heap := (s.heap.push (bareSet w)).push (itObj IT l) } →
      codeAny (model P w) A.in1.in1 (.builtin "set.update.loop" ⟨[.ref s.heap.objs.size, .ref (s.heap.push (bareSet w)).objs.size], []⟩)
        (fun r s' => r = .ok (.ret .none) ∧ Q (.ref s.heap.objs.size) s') { s with heap := (s.heap.push (bareSet w)).push (itObj IT l) } := fun {IT Pv St} W hlt val st => by
    refine set_update_ints W s.heap.objs.size (by rw [z1]; exact ne3 (by omega) (by omega)) ns hn hb val (its.toArray.size - 0) 0 _ rfl (Nat.zero_le _) st ⟨0, Nat.le_refl 0, ?_⟩ fun t c hm hc hO => ?_
    · exact setR_new_at (Heap.get?_push_of_some _ (Heap.get?_push_size _ rfl))
    · obtain ⟨h', g', d', tk', os'⟩ := t
      have eg : g' = s.gens := hm.gens
      have ed : d' = s.drawn := hm.drawn
      have eo : os' = s.os := hm.os
      subst eg ed eo
      refine ⟨rfl, h h' tk' c hO (by omega) fun b o e => hm.heap b o ?_ (Heap.get?_push_of_some _ (Heap.get?_push_of_some _ e))⟩
      have : @LT.lt Nat _ b s.heap.objs.size := Heap.lt_size e
      rw [z1]
      exact ne3 (by omega) (by omega)
  rcases hl with hl | hl
  · obtain ⟨o, ho, -⟩ := id hl
    have hlt : @LT.lt Nat _ l s.heap.objs.size := Heap.lt_size ho
    have ne : l ≠ (s.heap.push (bareSet w)).objs.size := by rw [z1]; exact fun e => Nat.ne_of_lt (Nat.lt_succ_of_lt hlt) e
    exact set_road_l hl (fin (IT := "list_iterator") ((Walks.list hh3 _ l ne its.toArray).toS) hlt val ⟨⟨_, Heap.get?_push_size _ rfl, rfl, rfl⟩, (hl.push _).push _⟩)
  · obtain ⟨o, ho, -⟩ := id hl
    have hlt : @LT.lt Nat _ l s.heap.objs.size := Heap.lt_size ho
    have ne : l ≠ (s.heap.push (bareSet w)).objs.size := by rw [z1]; exact fun e => Nat.ne_of_lt (Nat.lt_succ_of_lt hlt) e
    exact set_road_t hl (fin (IT := "tuple_iterator") ((Walks.tuple hh3 _ l ne its.toArray).toS) hlt val ⟨⟨_, Heap.get?_push_size _ rfl, rfl, rfl⟩, (hl.push _).push _⟩)
end

section
variable {X : Cx}
def tSSI (K : PySem.W.Frag) (ta : TE) : TE := fun σ H Q => ta σ H fun x H1 => ∃ l, ∃ ns : List Int, x = .ref l ∧ (SqL K H1 l (ns.map V.int) ∨ SqT K H1 l (ns.map V.int)) ∧ ns.length < 64 ∧
  ∀ p, H1 p = none → Q (.ref p) (upd H1 p (.lst ((srtU ns).map V.int)))
theorem boot_srt : bootBuiltins "sorted" = some (.builtin "sorted") := by decide +kernel
theorem run_srt {pins : List (Addr × Obj)} {σ : L2.St} {H1 : Hp} {s2 : Shared} {b : Addr} {ns : List Int} {c : Nat} {Q : VK} (I2 : Inv X pins σ H1 s2) (hc : X.calm = true) (hS : SetR X.w s2.heap b (fun j => decide (j ∈ ns)) c) (h64 : c < 64)
    (q1 : ∀ p, H1 p = none → Q (.ref p) (upd H1 p (.lst ((srtU ns).map V.int)))) : wpAny (model X.prog X.w) X.A (call (.builtin "sorted") [.ref b]) (EP X pins σ Q) X.xe s2 := by
  refine sorted_set hS (I2.ok.hd hc) h64 fun s' p out c' ns' k g o hp hg hi hs hm hl => ?_
  have e9 : ns' = srtU ns := sorted_uniq hs (srtU_sorted ns) fun k => by
    rw [hm k, srtU_mem]
    exact decide_eq_true_iff
  have small : (ns'.map V.int).length ≤ sizeLine := by rw [List.length_map, hl, sizeLine_eq]; omega
  have fresh : H1 p = none := I2.hok.fresh hp
  have J : Inv X pins σ (upd H1 p (.lst (ns'.map V.int))) { s2 with heap := s'.heap, gens := s'.gens, drawn := s'.drawn, toks := s'.toks } :=
    I2.call (ch := []) (Un.laid k hp fresh) (I2.hok.laid k hp ⟨small, out.toList, c', vals_of_ints hi, hg⟩) (by rw [g]; exact I2.bare) (fun _ z => nomatch z)
  have e : s' = { s2 with heap := s'.heap, gens := s'.gens, drawn := s'.drawn, toks := s'.toks } := by
    cases s'
    cases s2
    cases o
    rfl
  rw [e]
  subst e9
  exact ⟨.ref p, _, J, rfl, q1 p fresh⟩
theorem pe_ssi {a : Expr} {ta : TE} {p p2 q pos : Pos} (hc : X.calm = true) (hg : Gl X "sorted") (hm : X.mg "sorted" = none) (hg2 : Gl X "set") (hm2 : X.mg "set" = none) (ha : PE X a ta)
    (na : starEach [a] X.env = [(false, eval a X.env)]) : PE X (.Call (.Name "sorted" p) [.Call (.Name "set" p2) [a] [] q] [] pos) (tSSI X.K ta) := by
  refine ⟨fun pins s σ H Q I h => Call_ (ld_blt I hg hm boot_srt (PyProof.Rows.callWith_builtin1 (PyProof.Rows.args_cons ?_ rfl) rfl rfl))⟩
  refine Call_ (ld_blt I hg2 hm2 boot_set (PyProof.Rows.callWith_type1 (PyProof.Rows.args_cons (thn (ha.run pins s σ H _ I h) fun v s1 ⟨x, H1, I1, r1, q1⟩ => PyProof.Rows.args_nil ?_) na) na rfl))
  obtain ⟨l, ns, rfl, hq, hb, q1⟩ := q1
  cases r1
  obtain ⟨its, r, hl⟩ : ∃ its : List Value, Vals (ns.map V.int) its ∧ (s1.heap.IsList l its.toArray ∨ s1.heap.IsTuple l its.toArray) := by
    rcases hq with hq | hq
    · obtain ⟨its, r, pl, -⟩ := I1.list hq
      exact ⟨its, r, .inl pl.isList⟩
    · obtain ⟨its, r, pl, -⟩ := I1.tuple hq
      exact ⟨its, r, .inr pl⟩
  have c9 : 100 ≤ scanBound := by decide
  refine set_ints (I1.ok.hd hc) hl r (by omega) fun h' tk c hS hc' hk => PyProof.Rows.args_nil ?_
  have I2 : Inv X pins σ H1 { s1 with heap := h', toks := tk } := I1.kept fun b o e => hk b o e
  exact run_srt I2 hc hS (by omega) q1
end
def intsD : List D → Option (List Int)
  | [] => some []
  | .int i :: ds => (intsD ds).map (i :: ·)
  | _ => none
theorem intsD_rep {w : Wd} {g : Gh} : ∀ {ds : List D} {ns : List Int} {vs : List V}, intsD ds = some ns → RepL w g ds vs → vs = ns.map V.int
  | [], _, _, e, r => by cases e; rw [r.cases0]; rfl
  | d :: ds, _, _, e, r => by
    cases d <;> first | (cases e; done) | skip
    simp only [intsD, Option.map_eq_some_iff] at e
    obtain ⟨ns, e1, rfl⟩ := e
    obtain ⟨v, l, rfl, q1, q2⟩ := r.cases
    rw [rep_int.mp q1, intsD_rep e1 q2]; rfl
theorem repL_ints {w : Wd} {g : Gh} : ∀ {ns : List Int}, RepL w g (ns.map D.int) (ns.map V.int)
  | [] => .nil
  | n :: ns => .cons (rep_int.mpr rfl) repL_ints
def srtsetD (d : D) : Option (List Int) := (seqD d).bind fun xs => (intsD xs).bind fun ks => if ks.length < 64 then some (srtU ks) else none
def mSrtSet (h : HX) : MX := fun ρ S => (h ρ S).bind fun p => (Out.opt ((deref ρ p.2 p.1).bind srtsetD)).bind fun xs => .ok (.lst (xs.map D.int), p.2)
section
variable {cl : Wp} {X : Cx} {a : Expr} {ha : HX} {pos p p2 q : Pos}
theorem gm_srtset (hc : X.calm = true) (hg : Gl X "sorted") (hm : X.mg "sorted" = none) (hg2 : Gl X "set") (hm2 : X.mg "set" = none) (h : GHd cl X a ha) (hs : starEach [a] X.env = [(false, eval a X.env)]) :
    GM cl X (.Call (.Name "sorted" p) [.Call (.Name "set" p2) [a] [] q] [] pos) (mSrtSet ha) := fun W tk =>
  PE.weak (pe_ssi hc hg hm hg2 hm2 (h W tk) hs) fun σ H Q ⟨ρ, S, g, sim, c⟩ => Con.fst (R := RH (wd X cl) σ) sim c fun v H1 hd S1 g1 s1 f1 r1 c1 => by
    obtain ⟨xs, e, c2⟩ := c1.opt
    rw [Option.bind_eq_some_iff] at e
    obtain ⟨d, e1, e2⟩ := e
    unfold srtsetD at e2
    rw [Option.bind_eq_some_iff] at e2
    obtain ⟨ys, e5, e6⟩ := e2
    rw [Option.bind_eq_some_iff] at e6
    obtain ⟨ks, e7, e8⟩ := e6
    obtain ⟨l, vs, rfl, hq, hl⟩ := shown_seq s1.st (shown_of s1 r1 e1) e5
    have e9 := intsD_rep e7 hl
    subst e9
    split at e8
    · rename_i hb
      cases e8
      refine ⟨l, ks, rfl, hq, hb, fun p hp => ?_⟩
      obtain ⟨t, f, r⟩ := new_RN (mo := .lst ((srtU ks).map D.int)) (u := .lst ((srtU ks).map V.int)) s1.st f1 hp ⟨_, upd_same, repL_ints⟩
      exact c2 _ _ _ t f r
    · cases e8
end
end GG
end

section
set_option linter.all false
set_option maxRecDepth 100000
namespace GG
open PySem PySem.Spec PyProof.Rows L2

/-! ### t[::-1], t a tuple -/
theorem back_adjust (n : Nat) : Builtin.Slice.sliceAdjust none none (-1) (n : Int) = ((n : Int) - 1, -1) := by
  unfold Builtin.Slice.sliceAdjust
  simp
theorem back_places (n : Nat) : Builtin.Slice.slicePlaces ((n : Int) - 1) (-1) (-1) = n := by
  unfold Builtin.Slice.slicePlaces
  simp
  split <;> omega
theorem fm_map {α β : Type} {f : α → Option β} {g : α → β} : ∀ {l : List α}, (∀ m ∈ l, f m = some (g m)) → l.filterMap f = l.map g
  | [], _ => rfl
  | a :: r, h => by rw [List.filterMap_cons_some (h a List.mem_cons_self), List.map_cons, fm_map fun m q => h m (.tail _ q)]
theorem back_pick (xs : List Value) : ((List.range xs.length).filterMap fun (m : Nat) => xs.toArray[(((xs.length : Int) - 1) + (m : Int) * (-1)).toNat]?) = xs.reverse := by
  apply List.ext_getElem?
  intro i
  have h : (List.range xs.length).filterMap (fun (m : Nat) => xs.toArray[(((xs.length : Int) - 1) + (m : Int) * (-1)).toNat]?) = (List.range xs.length).map fun m => xs.getD (xs.length - 1 - m) .none := by
    refine fm_map fun m hm => ?_
    rw [List.mem_range] at hm
    have e : (((xs.length : Int) - 1) + (m : Int) * (-1)).toNat = xs.length - 1 - m := by omega
    have lt : xs.length - 1 - m < xs.length := by omega
    rw [e]
    simp [List.getD_eq_getElem?_getD, lt]
  rw [h, List.getElem?_map]
  by_cases hi : i < xs.length
  · have lt : xs.length - 1 - i < xs.length := by omega
    rw [List.getElem?_range hi, List.getElem?_reverse hi]
    simp [List.getD_eq_getElem?_getD, lt]
  · rw [List.getElem?_eq_none (by simp; omega), List.getElem?_eq_none (by simp; omega)]
    rfl
section
variable {prog : Program} {w : World} {A : Around} {E : Value → Shared → Prop} {s : Shared}
theorem sliceApplied_back {sl : Addr} {tk : Tok} {n : Nat} {Q : Int × Int × Nat → Shared → Prop} (hs : s.heap.IsSliceOf sl .none .none (.int (-1) tk))
    (h : Q ((n : Int) - 1, -1, n) s) : wpAny (model prog w) A (Builtin.Slice.sliceApplied (.ref sl) (pure (n : Int))) Q E s := by
  obtain ⟨ob, hob, hcb, hdb⟩ := id hs
  unfold Builtin.Slice.sliceApplied Builtin.Slice.sliceFields
  refine wpAny_bind (wpAny_bind (wpAny_field hob hdb (x := .none) rfl (wpAny_bind (wpAny_field hob hdb (x := .none) rfl (wpAny_bind (wpAny_field hob hdb (x := .int (-1) tk) rfl (wpAny_pure ?_)))))))
  refine wpAny_bind (slicePart_int ?_)
  show wpAny _ _ (if ((-1 : Int) == 0) = true then _ else _) _ _ s
  rw [if_neg (by decide)]
  refine wpAny_bind (slicePart_none (wpAny_bind (slicePart_none (wpAny_bind (wpAny_pure ?_)))))
  show wpAny _ _ (match Builtin.Slice.sliceAdjust none none (-1) (n : Int) with | (lo, hi) => pure (lo, (-1 : Int), Builtin.Slice.slicePlaces lo hi (-1))) _ _ s
  rw [back_adjust]
  show wpAny _ _ (pure ((n : Int) - 1, (-1 : Int), Builtin.Slice.slicePlaces ((n : Int) - 1) (-1) (-1))) _ _ s
  rw [back_places]
  exact wpAny_pure h
theorem getItem_tuple_back {t sl : Addr} {its : List Value} {tk : Tok} {Q : Value → Shared → Prop} (ht : IsTup s.heap t its.toArray) (hs : s.heap.IsSliceOf sl .none .none (.int (-1) tk))
    (h : Q (.ref s.heap.objs.size) { s with heap := s.heap.push { cls := .type "tuple", data := .seq its.reverse.toArray } })
    (hsz : its.length ≤ sizeLine) : wpAny (model prog w) A (getItem (.ref t) (.ref sl)) Q E s := by
  have fits : sizeOk (.seq its.reverse.toArray) := by
    show its.reverse.toArray.size ≤ sizeLine
    rw [List.size_toArray, List.length_reverse]
    exact hsz
  obtain ⟨ob, hob, hcb, hdb⟩ := id hs
  have tyS : s.TypeIs (.ref sl) "slice" := ⟨ob, hob, hcb⟩
  unfold getItem
  try with_reducible refine wpAny_holding ?_
  first | refine wpAny_bind (wpAny_pure ?_) | skip
  refine wpAny_bind (wpAny_sequenceKey ht.typeIs (by decide) (wpAny_bind (wpAny_callSpecial?_slot (name := Str.ofString "__getitem__") ht.typeIs PyProof.Rows.slot_tuple_getitem
    (wpAny_call_entry PyProof.Rows.slot_tuple_getitem ht.typeIs entry_tuple_getitem ?_ (args_tuple_getitem _ _)))))
  change wpAny _ _ (Builtin.Tuple.tupleItemsOf (.ref t) >>= _) _ _ s
  refine wpAny_bind (tupleItemsOf_ ht (wpAny_bind (wpAny_typeOf tyS ?_)))
  rw [if_pos (by decide)]
  have hz : its.toArray.size = its.length := List.size_toArray
  refine wpAny_bind ?_
  rw [hz]
  refine sliceApplied_back hs ?_
  have no : ¬ ((((its.length : Int) - 1) == 0 && (-1 : Int) == 1 && its.length == its.length) = true) := by
    intro q
    rw [Bool.and_eq_true, Bool.and_eq_true] at q
    exact absurd q.1.2 (by decide)
  show wpAny _ _ (if (((its.length : Int) - 1) == 0 && (-1 : Int) == 1 && its.length == its.length) = true then _ else _) _ _ s
  rw [if_neg no, back_pick]
  first
    | exact wpAny_bind (m := Builtin.Tuple.tupleExact _) (wpAny_newObj_type (wpAny_pure ⟨_, rfl, wpAny_pure h⟩) fits)
    | exact wpAny_bind (m := Builtin.Tuple.tupleExact _) (wpAny_newObj_type (wpAny_bind (wpAny_pure (wpAny_pure ⟨_, rfl, wpAny_pure h⟩))) fits)
    | exact wpAny_bind (wpAny_bind (m := Builtin.Tuple.tupleExact _) (wpAny_newObj_type (wpAny_pure (wpAny_pure ⟨_, rfl, wpAny_pure h⟩)) fits))
    | exact wpAny_bind (wpAny_bind (m := Builtin.Tuple.tupleExact _) (wpAny_newObj_type (wpAny_pure ⟨_, rfl, wpAny_pure h⟩) fits))
end
section
variable {X : Cx}
def tBack (K : PySem.W.Frag) (te : TE) : TE := fun σ H Q => te σ H fun x H1 => ∃ a xs, x = .ref a ∧
  ((SqL K H1 a xs ∧ ∀ p, H1 p = none → Q (.ref p) (upd H1 p (.lst xs.reverse))) ∨ (SqT K H1 a xs ∧ ∀ p, H1 p = none → Q (.ref p) (upd H1 p (.tup xs.reverse))))
theorem pe_back {e : Expr} {te : TE} {k : Nat} {p1 p2 p3 pos : Pos} (he : PE X e te) : PE X (.Subscript e (.Slice none none (some (.UnaryOp .USub (.Constant (.int 1) k p1) p2)) p3) pos) (tBack X.K te) := by
  refine ⟨fun pins s σ H Q I h => Subscript_ (thn (he.run pins s σ H _ I h) fun v s1 ⟨x, H1, I1, r1, q1⟩ => ?_)⟩
  obtain ⟨a, xs, rfl, q⟩ := q1
  cases r1
  have step : PO X (some (.UnaryOp .USub (.Constant (.int 1) k p1) p2)) (tPart (tUn (rU fun i => .int (-i)) (tC (.int 1)))) := po_some (pe_un un_neg pe_int)
  refine wpAny_Slice (thn (po_none.run pins s1 σ H1 (fun o K => o = none ∧ K = H1) I1 ⟨rfl, rfl⟩) fun lo s2 ⟨o1, H2, I2, g1, d1, d2⟩ => ?_)
  subst d1 d2
  refine thn (po_none.run pins s2 σ H2 (fun o K => o = none ∧ K = H2) I2 ⟨rfl, rfl⟩) fun hi s3 ⟨o2, H3, I3, g2, d1, d2⟩ => ?_
  subst d1 d2
  refine thn (step.run pins s3 σ H3 (fun o K => o = some (-1) ∧ K = H3) I3 ⟨1, rfl, -1, rfl, rfl, rfl⟩) fun st s4 ⟨o3, H4, I4, g3, d1, d2⟩ => ?_
  subst d1 d2
  have I5 : Inv X pins σ H4 { s4 with heap := s4.heap.push { cls := .type "slice", data := .fields #[lo, hi, st] } } := I4.kept (t' := s4.toks) fun b ob q => Heap.get?_push_of_some _ q
  change wpAny (model X.prog X.w) X.A (subscriptTail e (.Slice none none (some (.UnaryOp .USub (.Constant (.int 1) k p1) p2)) p3) (.ref a) (.ref s4.heap.objs.size)) _ _ _
  rcases q with ⟨hq, q⟩ | ⟨hq, q⟩
  · obtain ⟨its, r, ht, hz⟩ := I5.list hq
    have same := r.length
    refine tail_any (ops := [.ref a, .ref s4.heap.objs.size]) ht.isList.typeIs (PySem.slot_list_getitem.lookup) ?_ (by with_unfolding_all rfl)
    refine wpAny_getItem_list_slice ht.isList (Heap.IsSliceOf.new _ lo hi st) g1 g2 g3 (by decide) ?_ (by rw [List.size_toArray]; omega)
    rw [PySem.W.krv_pick]
    refine ⟨.ref _, _, I5.laid (t' := s4.toks) (o := .lst xs.reverse) (fun b ob q => Heap.get?_push_of_some _ q) (Nat.le_refl _) ⟨?_, _, 0, r.reverse, Heap.get?_push_size _ rfl⟩, rfl, q _ (I5.hok.fresh (Nat.le_refl _))⟩
    rw [List.length_reverse]
    exact hz
  · obtain ⟨its, r, ht, hz⟩ := I5.tuple hq
    have same := r.length
    cases g1
    cases g2
    cases g3
    refine tail_any (ops := [.ref a, .ref s4.heap.objs.size]) ht.typeIs (PyProof.Rows.slot_tuple_getitem.lookup) ?_ (by with_unfolding_all rfl)
    refine getItem_tuple_back ht (Heap.IsSliceOf.new _ .none .none _) ?_ (by omega)
    refine ⟨.ref _, _, I5.laid (t' := s4.toks) (o := .tup xs.reverse) (fun b ob q => Heap.get?_push_of_some _ q) (Nat.le_refl _) ⟨?_, _, r.reverse, IsTup.new _ _⟩, rfl, q _ (I5.hok.fresh (Nat.le_refl _))⟩
    rw [List.length_reverse]
    exact hz
end
def revD : D → Option D
  | .lst xs => some (.lst xs.reverse)
  | .frl xs => some (.lst xs.reverse)
  | .tup xs => some (.tup xs.reverse)
  | .ktp xs => some (.tup xs.reverse)
  | _ => none
section
variable {cl : Wp} {X : Cx} {a : Expr} {ha : HX} {k : Nat} {p1 p2 p3 pos : Pos}
theorem ge_rev (h : GHd cl X a ha) : GE cl X (.Subscript a (.Slice none none (some (.UnaryOp .USub (.Constant (.int 1) k p1) p2)) p3) pos) (eH ha revD) := fun W tk =>
  PE.weak (pe_back (h W tk)) fun σ H Q ⟨ρ, S, g, sim, c⟩ => Con.go sim c fun v H1 hd S1 g1 e1 s1 f1 r1 c1 => by
    obtain ⟨d, e, c3⟩ := c1.opt
    rw [Option.bind_eq_some_iff] at e
    obtain ⟨dc, e3, e4⟩ := e
    have sh := shown_of s1 r1 e3
    cases dc <;> first | (cases e4; done) | skip
    · cases e4
      obtain ⟨a, vs, rfl, h, l⟩ := (rep_tup' (w := wd X cl) (g := g1)).mp sh
      refine ⟨a, vs, rfl, .inr ⟨sqT_sub s1.st.sub (SqT.of h), fun p hp => ?_⟩⟩
      obtain ⟨t, f⟩ := s1.st.put (u := .tup vs.reverse) hp
      exact c3 _ _ _ t f (rep_tup f.le (RepL.reverse l))
    · cases e4
      obtain ⟨a, vs, rfl, h, l⟩ := sh
      refine ⟨a, vs, rfl, .inl ⟨SqL.of h, fun p hp => ?_⟩⟩
      obtain ⟨t, f⟩ := s1.st.put (u := .lst vs.reverse) hp
      exact c3 _ _ _ t f (rep_lst f.le (RepL.reverse l))
    · cases e4
      obtain ⟨a, vs, rfl, h, l⟩ := (rep_ktp' (w := wd X cl) (g := g1)).mp sh
      refine ⟨a, vs, rfl, .inr ⟨sqT_sub s1.st.sub h, fun p hp => ?_⟩⟩
      obtain ⟨t, f⟩ := s1.st.put (u := .tup vs.reverse) hp
      exact c3 _ _ _ t f (rep_tup f.le (RepL.reverse l))
    · cases e4
      obtain ⟨a, vs, rfl, h, l⟩ := (rep_frl' (w := wd X cl) (g := g1)).mp sh
      refine ⟨a, vs, rfl, .inl ⟨sqL_sub s1.st.sub h, fun p hp => ?_⟩⟩
      obtain ⟨t, f⟩ := s1.st.put (u := .lst vs.reverse) hp
      exact c3 _ _ _ t f (rep_lst f.le (RepL.reverse l))
end
end GG
end

section
set_option linter.all false
set_option maxRecDepth 100000
set_option maxHeartbeats 4000000
namespace GG
open PySem PySem.Spec PyProof.Rows L2

/-! ### t * 1 -/
theorem tup_once (l : Addr) (its : Array Value) (n : Nat) (dd : Option Addr) (sl : Array (Option Value)) (u : Tok) :
    Meets (Builtin.«tuple.__mul__» ⟨[.ref l, .int 1 u], []⟩) (fun _ R s => s.heap.get? l = some { cls := .type "tuple", dict := dd, data := .seq its n, slots := sl } ∧ R (.ok (.ret (Value.ref l))) s) :=
  .of_wp fun prog w A R s h => by
    obtain ⟨hp, g, d, tk, os⟩ := s
    obtain ⟨hl, h⟩ := h
    have ix := AutoSeq1.idx_int
    wp_walk using AutoSeq1.wpAny_loadPart' hl
    exact ⟨_, rfl, h⟩
def rRep1 (K : PySem.W.Frag) : R2 := fun x y H Q => ∃ l k xs, x = .ref l ∧ y = .int k ∧ SqT K H l xs ∧ xs ≠ [] ∧ 1 ≤ k ∧ k ≤ 1000 ∧ xs.length ≤ 1000 ∧ (k = 1 → Q x H) ∧ (k ≠ 1 → ∀ p, H p = none → Q (.ref p) (upd H p (.tup (List.replicate k.toNat xs).flatten)))
section
variable {X : Cx}
theorem op_rep1 : OpR X (binaryOp .Mult) (rRep1 X.K) := by
  intro pins s σ H x y v u Q I rx ry h
  obtain ⟨l, k, xs, rfl, rfl, hT, hne, h1, h2, hz, qa, qb⟩ := h
  by_cases hk : k = 1
  · subst hk
    have rx0 := rx
    cases rx
    have q := qa rfl
    obtain ⟨t, rfl⟩ := ry
    obtain ⟨its, r, ⟨⟨cls, dd, data, sl⟩, ho, hc, n, hd⟩, hs⟩ := I.tuple hT
    simp only at hc hd
    subst hc hd
    exact wpAny_binaryOp_repeat_ref (T := "tuple") (U := "int") (by decide) ⟨_, ho, rfl⟩ (fun s' => typeIs_int s' 1 t) noFill_tuple_mul F.fills_int_mul F.slot_int_rmul repeat_tuple F.slot_int_index.lookup
      (call_meets F.slot_int_rmul (typeIs_int s 1 t) F.entry_int_rmul (F.args_int_rmul_2 _ _) (int_rmul_tuple 1 t l its.toArray n dd sl)
        ⟨ho, rfl, ⟨_, ho, rfl⟩, call_meets F.slot_tuple_mul ⟨_, ho, rfl⟩ F.entry_tuple_mul (F.args_tuple_mul_2 _ _) (tup_once l its.toArray n dd sl t) ⟨ho, ⟨.ref l, H, I, rx0, q⟩⟩⟩)
  · exact op_repT pins s σ H _ _ v u Q I rx ry ⟨l, k, xs, rfl, rfl, hT, hne, by omega, h2, hz, qb hk⟩
end
def tmulD : D → D → Option D
  | .tup xs, .int k => if xs ≠ [] ∧ 1 ≤ k ∧ k ≤ 1000 ∧ xs.length ≤ 1000 then some (.tup (List.replicate k.toNat xs).flatten) else none
  | _, _ => none
theorem repL_rep {w : Wd} {g : Gh} {ds : List D} {vs : List V} (h : RepL w g ds vs) : ∀ n, RepL w g (List.replicate n ds).flatten (List.replicate n vs).flatten
  | 0 => .nil
  | n + 1 => by
    rw [List.replicate_succ, List.replicate_succ, List.flatten_cons, List.flatten_cons]
    exact h.append (repL_rep h n)
section
variable {cl : Wp} {X : Cx}
theorem ok_tmul : OpR X (binaryOp .Mult) (rD (wd X cl) tmulD) := by
  intro pins s σ H x y v u Q I rx ry h
  obtain ⟨d1, d2, d, g, S, sim, r1, r2, e, q⟩ := h
  unfold tmulD at e
  split at e
  · split at e
    · rename_i hz
      cases e
      rw [rep_int.mp r2] at ry
      have r1' := r1
      obtain ⟨a, vs, rfl, h, l⟩ := (rep_tup' (w := wd X cl) (g := g)).mp r1
      have ln := l.length
      refine op_rep1 pins s σ H _ _ v u Q I rx ry ⟨a, _, vs, rfl, rfl, sqT_sub sim.sub (SqT.of h), ?_, hz.2.1, hz.2.2.1, by omega, ?_, fun hk p hp => ?_⟩
      · intro e
        subst e
        exact hz.1 (List.eq_nil_of_length_eq_zero ln)
      · intro hk
        subst hk
        refine q _ g H sim .refl ?_
        have one : ∀ zs : List D, (List.replicate (1 : Int).toNat zs).flatten = zs := fun zs => by
          show (List.replicate 1 zs).flatten = zs
          rw [List.replicate_one, List.flatten_singleton]
        rw [one]
        exact r1'
      · obtain ⟨t, f⟩ := sim.put (u := .tup (List.replicate _ vs).flatten) hp
        exact q _ _ _ t f (rep_tup f.le (repL_rep l _))
    · cases e
  · cases e
end

/-! ### sep.join(xs) -/
def strsD : List D → Option (List Str)
  | [] => some []
  | .str i :: ds => (strsD ds).map (i :: ·)
  | _ => none
theorem strsD_rep {w : Wd} {g : Gh} : ∀ {ds : List D} {ns : List Str} {vs : List V}, strsD ds = some ns → RepL w g ds vs → vs = ns.map V.str
  | [], _, _, e, r => by cases e; rw [r.cases0]; rfl
  | d :: ds, _, _, e, r => by
    cases d <;> first | (cases e; done) | skip
    simp only [strsD, Option.map_eq_some_iff] at e
    obtain ⟨ns, e1, rfl⟩ := e
    obtain ⟨v, l, rfl, q1, q2⟩ := r.cases
    rw [rep_str.mp q1, strsD_rep e1 q2]; rfl
def joinD : D → D → Option D
  | .str a, d => (seqD d).bind fun xs => (strsD xs).bind fun ys => if (ys.map (·.length)).sum + ys.length * a.length ≤ 16777216 then some (.str (Txt.join a ys)) else none
  | _, _ => none
def eJoin (a : EX) (h : HX) : EX := fun ρ S => (a ρ S).bind fun p => match p.1 with
  | .str _ => (h ρ p.2).bind fun q => (Out.opt ((deref ρ q.2 q.1).bind (joinD p.1))).bind fun d => .ok (d, q.2)
  | _ => .stuck
section
variable {cl : Wp} {X : Cx} {a b : Expr} {da : EX} {hb : HX} {apos pos : Pos}
theorem ge_join (h1 : GE cl X a da) (h2 : GHd cl X b hb) (hs : starEach [b] X.env = [(false, eval b X.env)]) (hbase : attributeBase a "join" X.env (eval a X.env) = eval a X.env) (hline : (apos.endLine == pos.line) = true) :
    GE cl X (.Call (.Attribute a "join" apos) [b] [] pos) (eJoin da hb) := fun W tk =>
  PE.weak (pe_join (h1 W tk) (h2 W tk) hs hbase hline) fun σ H Q ⟨ρ, S, g, sim, c⟩ =>
    Con.go sim c fun v H1 d1 S1 g1 e1 s1 f1 r1 c1 => by
      cases d1 <;> first | (exact c1.elim) | skip
      rename_i z
      have r1 := rep_str.mp r1
      subst r1
      refine ⟨⟨z, rfl⟩, ?_⟩
      exact Con.go (den := hb) s1 c1 fun u H2 d2 S2 g2 e2 s2 f2 r2 c2 => by
        obtain ⟨d, e, c3⟩ := c2.opt
        rw [Option.bind_eq_some_iff] at e
        obtain ⟨dc, e3, e4⟩ := e
        simp only [joinD, Option.bind_eq_some_iff] at e4
        obtain ⟨xs, e5, ys, e6, e7⟩ := e4
        obtain ⟨p, vs, rfl, hq, hl⟩ := shown_seq s2.st (shown_of s2 r2 e3) e5
        have e9 := strsD_rep e6 hl
        subst e9
        split at e7
        · rename_i hz
          cases e7
          exact ⟨z, p, ys, rfl, rfl, hq, hz, Con.val c3 s2.st (rep_str.mpr rfl)⟩
        · cases e7
end
end GG
end

section
set_option linter.all false
set_option maxRecDepth 100000
namespace GG
open PySem PySem.Spec PyProof.Rows L2

/-! ### dict comprehensions, keys ints or texts -/
def putP (ks : List (L2.Key × D)) (k : L2.Key) (d : D) : List (L2.Key × D) :=
  if (ks.any fun p => decide (p.1 = k)) = true then ks.map (fun p => if p.1 = k then (p.1, d) else p) else ks ++ [(k, d)]
inductive RepP (w : Wd) (g : Gh) : List (L2.Key × D) → List (L2.Key × V) → Prop where
  | nil : RepP w g [] []
  | cons {k : L2.Key} {d : D} {v : V} {ds : List (L2.Key × D)} {vs : List (L2.Key × V)} : Rep w g d v → RepP w g ds vs → RepP w g ((k, d) :: ds) ((k, v) :: vs)
section
variable {w : Wd} {g g' : Gh}
theorem RepP.mono (l : Le g g') : ∀ {ds : List (L2.Key × D)} {vs : List (L2.Key × V)}, RepP w g ds vs → RepP w g' ds vs
  | _, _, .nil => .nil
  | _, _, .cons r t => .cons (Rep.mono l r) (RepP.mono l t)
theorem RepP.length : ∀ {ds : List (L2.Key × D)} {vs : List (L2.Key × V)}, RepP w g ds vs → ds.length = vs.length
  | _, _, .nil => rfl
  | _, _, .cons _ t => by rw [List.length_cons, List.length_cons, RepP.length t]
theorem RepP.any (k : L2.Key) : ∀ {ds : List (L2.Key × D)} {vs : List (L2.Key × V)}, RepP w g ds vs → (ds.any fun p => decide (p.1 = k)) = (vs.any fun p => decide (p.1 = k))
  | _, _, .nil => rfl
  | _, _, .cons _ t => by rw [List.any_cons, List.any_cons, RepP.any k t]
theorem RepP.snoc {k : L2.Key} {d : D} {v : V} (r : Rep w g d v) : ∀ {ds : List (L2.Key × D)} {vs : List (L2.Key × V)}, RepP w g ds vs → RepP w g (ds ++ [(k, d)]) (vs ++ [(k, v)])
  | _, _, .nil => .cons r .nil
  | _, _, .cons q t => .cons q (RepP.snoc r t)
theorem RepP.over {k : L2.Key} {d : D} {v : V} (r : Rep w g d v) : ∀ {ds : List (L2.Key × D)} {vs : List (L2.Key × V)}, RepP w g ds vs → RepP w g (ds.map fun p => if p.1 = k then (p.1, d) else p) (vs.map fun p => if p.1 = k then (p.1, v) else p)
  | _, _, .nil => .nil
  | _, _, .cons (k := k0) q t => by
    rw [List.map_cons, List.map_cons]
    by_cases h : k0 = k
    · simp only [h, if_true]
      exact .cons r (RepP.over r t)
    · simp only [h, if_false]
      exact .cons q (RepP.over r t)
theorem RepP.put {k : L2.Key} {d : D} {v : V} (r : Rep w g d v) {ds : List (L2.Key × D)} {vs : List (L2.Key × V)} (h : RepP w g ds vs) : RepP w g (putP ds k d) (putK vs k v) := by
  unfold putP putK
  rw [h.any k]
  split
  · exact h.over r
  · exact h.snoc r
theorem RepP.keys : ∀ {ds : List (L2.Key × D)} {vs : List (L2.Key × V)}, RepP w g ds vs → ds.map (·.1) = vs.map (·.1)
  | _, _, .nil => rfl
  | _, _, .cons _ t => by rw [List.map_cons, List.map_cons, RepP.keys t]
theorem RepP.vals : ∀ {ds : List (L2.Key × D)} {vs : List (L2.Key × V)}, RepP w g ds vs → RepL w g (ds.map (·.2)) (vs.map (·.2))
  | _, _, .nil => .nil
  | _, _, .cons r t => .cons r (RepP.vals t)
theorem zip_self {α β : Type} : ∀ (l : List (α × β)), (l.map (·.1)).zip (l.map (·.2)) = l
  | [] => rfl
  | a :: r => by rw [List.map_cons, List.map_cons, List.zip_cons_cons, zip_self r]
def dicP (ps : List (L2.Key × D)) : MO := .dic ((ps.map (·.1)).map KK.k) (ps.map (·.2))
theorem RepP.mok {ds : List (L2.Key × D)} {vs : List (L2.Key × V)} {H : Hp} {a : Addr} (h : RepP w g ds vs) (e : H a = some (.dK vs)) : MOk w g H a (dicP ds) :=
  ⟨vs.map (·.2), .dK vs, e, ⟨by rw [List.length_map, List.length_map, List.length_map, h.length], .inl ⟨vs.map (·.1), by rw [h.keys], by rw [zip_self]⟩⟩, h.vals⟩
end

def dcL (n : NX) (t : BX) (k e : EX) : List D → List (L2.Key × D) → LEnv → Store → Out (List (L2.Key × D) × Store)
  | [], acc, _, S => .ok (acc, S)
  | d :: ds, acc, ρ, S => match n d ρ with
    | none => .stuck
    | some ρ' => (t ρ' S).calm.bind fun b => if b.1 then (k ρ' b.2).calm.bind fun y => (e ρ' y.2).calm.bind fun z => match keyK y.1 with
        | some q => if acc.length < sizeLine then dcL n t k e ds (putP acc q z.1) ρ z.2 else .stuck
        | none => .stuck
      else dcL n t k e ds acc ρ b.2
def mDc (i : IX) (n : NX) (t : BX) (k e : EX) (vs : List Nat) : MX := fun ρ S => (i ρ S).bind fun p => (dcL n t k e p.1 [] (wipeD ρ vs) p.2).bind fun r => .ok (dicP r.1, r.2)
structure AccD (w : Wd) (g0 : Gh) (H0 : Hp) (L : Addr) (ρ : LEnv) (σ : L2.St) (g1 : Gh) (g : Gh) (H : Hp) (S : Store) (acc : List (L2.Key × D)) (us : List (L2.Key × V)) : Prop where
  sim : Sim w g H ρ σ S
  fr : GG.Fr g0 H0 g H
  le : Le g1 g
  at_ : H L = some (.dK us)
  f0 : H0 L = Option.none
  f1 : g.F L = Option.none
  f2 : ∀ j, g.m j ≠ some L
  rep : RepP w g acc us
theorem AccD.step {w : Wd} {g0 g1 g g' : Gh} {H0 H H' : Hp} {L : Addr} {ρ : LEnv} {σ : L2.St} {S S' : Store} {acc : List (L2.Key × D)} {us : List (L2.Key × V)} (a : AccD w g0 H0 L ρ σ g1 g H S acc us) (f : GG.Fr g H g' H') (s : SimS w g' H' S') : AccD w g0 H0 L ρ σ g1 g' H' S' acc us := by
  obtain ⟨k1, k2, k3⟩ := f.out L _ a.at_ a.f1 a.f2
  exact ⟨a.sim.fr f s, a.fr.trans f, a.le.trans f.le, k1, a.f0, k2, k3, a.rep.mono f.le⟩
theorem AccD.push {w : Wd} {g0 g1 g : Gh} {H0 H : Hp} {L : Addr} {ρ : LEnv} {σ : L2.St} {S : Store} {acc : List (L2.Key × D)} {us : List (L2.Key × V)} {k : L2.Key} {d : D} {v : V} (a : AccD w g0 H0 L ρ σ g1 g H S acc us) (r : Rep w g d v)
    (far : ∀ (i : Nat) o b, ρ[i]? = some (Slot.own o) → σ[i]? = some (some (V.ref b)) → b ≠ L) : AccD w g0 H0 L ρ σ g1 g (upd H L (.dK (putK us k v))) S (putP acc k d) (putK us k v) :=
  ⟨a.sim.off a.f1 a.f2 far, a.fr.off a.f0, a.le, upd_same, a.f0, a.f1, a.f2, a.rep.put r⟩
theorem AccD.done {w : Wd} {W : WX} {σ' : L2.St} {g0 g1 g : Gh} {H0 H : Hp} {L : Addr} {ρ : LEnv} {σ : L2.St} {S : Store} {acc : List (L2.Key × D)} {us : List (L2.Key × V)} {Q : VK} (a : AccD w g0 H0 L ρ σ g1 g H S acc us) (c : GG.Con w W σ' (RN w H0) g0 H0 Q (.ok (dicP acc, S))) : Q (.ref L) H :=
  c _ g H a.sim.st a.fr ⟨L, rfl, a.f0, a.f1, a.f2, a.rep.mok a.at_⟩
theorem rd_dc {w : Wd} {W : WX} {di : IX} {n : NX} {tt : BX} {dk de : EX} {vs us : List Nat} {wi : TI} {g : TG} {t : TT} {tk te : TE} {σ : L2.St} {H : Hp} {Q : VK} (hv : ∀ i ∈ us, i ∈ vs) (hwi : ∀ R, tX w W (RI w) di σ H R → wi σ H R) (hg : ∀ v σ H Q, rN w us n v σ H Q → g v σ H Q)
    (ht : ∀ σ H Q, tX w (fun _ _ _ _ => False) RB tt σ H Q → t σ H Q) (hk : ∀ σ H Q, tX w (fun _ _ _ _ => False) (RE w) dk σ H Q → tk σ H Q) (he : ∀ σ H Q, tX w (fun _ _ _ _ => False) (RE w) de σ H Q → te σ H Q) (h : tX w W (RN w H) (mDc di n tt dk de vs) σ H Q) : tDc wi g t tk te vs σ H Q := by
  obtain ⟨ρ, S, g0, sim, c⟩ := h
  refine hwi _ (Con.fst sim c fun J H1 items S1 g1 s1 f1 r1 c1 L hL => ?_)
  have r1 : ItD w g1 items J := r1
  have hL0 : H L = Option.none := f1.none hL
  obtain ⟨n1, n2⟩ := SimS.none s1.st hL
  have far : ∀ (i : Nat) o b, (wipeD ρ vs)[i]? = some (Slot.own o) → (wipe σ vs)[i]? = some (some (V.ref b)) → b ≠ L := (sim.wipe vs).far hL0
  refine ⟨fun i m Hc => m = items.length - i ∧ i ≤ items.length ∧ ∃ g2 S2 acc ws, AccD w g0 H L (wipeD ρ vs) (wipe σ vs) g1 g2 Hc S2 acc ws ∧ GG.Con w W σ (RN w H) g0 H Q ((dcL n tt dk de (items.drop i) acc (wipeD ρ vs) S2).bind fun r => .ok (dicP r.1, r.2)),
    ⟨_, rfl, Nat.zero_le _, g1, S1, [], [], ⟨(s1.wipe vs).off n1 n2 far, f1.off hL0, .refl, upd_same, hL0, n1, n2, .nil⟩, c1⟩, ?_⟩
  rintro i m Hc ⟨rfl, hi, g2, S2, acc, ws, A, c2⟩
  by_cases hlt : i < items.length
  · right
    rw [List.drop_eq_getElem_cons hlt] at c2
    obtain ⟨hgo, hy⟩ := r1.go g2 Hc S2 A.le A.sim.st i hlt
    refine ⟨hgo, fun Hc => ∃ g2 S2 acc ws, AccD w g0 H L (wipeD ρ vs) (wipe σ vs) g1 g2 Hc S2 acc ws ∧ GG.Con w W σ (RN w H) g0 H Q ((dcL n tt dk de (items.drop (i + 1)) acc (wipeD ρ vs) S2).bind fun r => .ok (dicP r.1, r.2)),
      fun H' h => ⟨items.length - (i + 1), by omega, rfl, hlt, h⟩, fun x H' y => ?_⟩
    obtain ⟨g3, d, ed, rd, s3, f3⟩ := hy x H' y
    rw [List.getElem?_eq_getElem hlt] at ed
    cases ed
    have A3 := A.step f3 s3
    unfold dcL at c2
    cases en : n items[i] (wipeD ρ vs) with
    | none => rw [en] at c2; exact c2.elim
    | some ρ' =>
      rw [en] at c2
      dsimp only at c2
      refine hg _ _ _ _ ⟨_, _, S2, g3, ρ', A3.sim, rd, en, fun σ' s' k => ⟨by rw [k.wipe hv, wipe_wipe], ?_⟩⟩
      rw [Out.bind_assoc] at c2
      refine ht _ _ _ (Con.calm_go s' c2 fun b H4 b' S4 g4 s4 f4 r4 c4 => ?_)
      have r4 : b' = b := r4
      subst r4
      have A4 := A3.step f4 s4.st
      cases b' with
      | false =>
        simp only [Bool.false_eq_true, if_false] at c4 ⊢
        exact ⟨g4, S4, acc, ws, A4, c4⟩
      | true =>
        simp only [if_true] at c4 ⊢
        rw [Out.bind_assoc] at c4
        refine hk _ _ _ (Con.calm_go s4 c4 fun y H5 d5 S5 g5 s5 f5 r5 c5 => ?_)
        rw [Out.bind_assoc] at c5
        refine he _ _ _ (Con.calm_go s5 c5 fun z H6 d6 S6 g6 s6 f6 r6 c6 => ?_)
        have A6 := (A4.step f5 s5.st).step f6 s6.st
        have r5 : Rep w g5 d5 y := r5
        have r6 : Rep w g6 d6 z := r6
        cases eq : keyK d5 with
        | none => simp only [eq] at c6; exact c6.elim
        | some q =>
          simp only [eq] at c6
          split at c6
          · rename_i hz
            exact ⟨ws, q, keyK_rep eq r5, A6.at_, by rw [← A6.rep.length]; exact hz, g6, S6, putP acc q d6, putK ws q z, A6.push r6 far, c6⟩
          · exact c6.elim
  · left
    have e : i = items.length := by omega
    subst e
    rw [List.drop_length] at c2
    exact ⟨r1.done g2 Hc S2 A.le A.sim.st, A.done c2⟩
section
variable {cl : Wp} {X : Cx} {tg it kx vx : Expr} {ifs : List Expr} {scope : Scope} {own : List (Str × Nat)} {di : IX} {n : NX} {tt : BX} {dk de : EX} {us : List Nat} {pos : Pos}
theorem gm_dc (hc : X.calm = true) (hN : X.N.Nodup) (hi : GI cl X tg it di) (ok : BlkOk X.N X.env.scope scope own) (hv : ∀ i ∈ us, i ∈ own.map (·.2)) (hg : BX' X scope fun Y => GN cl Y us tg n) (ht : BX' X scope fun Y => GTs cl Y ifs tt) (hk : BX' X scope fun Y => GE cl Y kx dk) (he : BX' X scope fun Y => GE cl Y vx de)
    (hs : ∀ x, foldedSetIterable it X.env x = pure x) : GM cl X (.DictComp kx vx [⟨tg, it, ifs, 0⟩] scope pos) (mDc di n tt dk de (own.map (·.2))) := fun W tk =>
  PE.weak (pe_dc (g := rN (wd X cl) us n) (tt := tX (wd X cl) (fun _ _ _ _ => False) RB tt) (tk := tX (wd X cl) (fun _ _ _ _ => False) (RE (wd X cl)) dk) (tv := tX (wd X cl) (fun _ _ _ _ => False) (RE (wd X cl)) de) hc hN (hi W tk) ok (fun s H C c' fp => hg s H C c' fp) (fun s H C c' fp => ht s H C c' fp _ takes_none) (fun s H C c' fp => hk s H C c' fp _ takes_none) (fun s H C c' fp => he s H C c' fp _ takes_none) hs)
    fun σ H Q h => rd_dc hv (fun _ z => z) (fun _ _ _ _ z => z) (fun _ _ _ z => z) (fun _ _ _ z => z) (fun _ _ _ z => z) h
end
end GG
end

section
set_option linter.all false
set_option maxRecDepth 100000
namespace GG
open PySem L2
open PyProof.Rows hiding St

/-! ### the law's own def -/
def spLaw (K : PySem.W.Frag) : Sp := fun vs H Q _ => ∃ (a : Addr) (ns : List Int), vs = [.ref a] ∧ SqL K H a (ns.map V.int) ∧ ns.length ≤ 63 ∧ ∀ H', Q (.bl true) H'
/-- what is to be shown of the law in plain Lean -/
def Keeps (den : Den) : Prop := ∀ ns : List Int, ns.length ≤ 63 → ∃ S, den [.frl (ns.map D.int)] [] = .ok (.bl true, S)
theorem fnK_of {P : Program} {w : World} {K : PySem.W.Frag} {mg : Str → Option Value} {base : Heap} {cl : Wp} {f : Addr} {k n : Nat} {x qual : Str} {st : Stmt} {fd : FuncData} {N ps : List Str} {m : Nat} {body : SX} (F : Fun K x qual st f fd) (hS : FnScope N ps (defScope st)) (hn : ps.length = n) (hm : N.length = n + m)
    (B : ∀ (cdv : Value) (A : Around) (outer : List Env) (s : Shared) (H : Hp) (E : XK), Room k (A.deeper (envOfC qual (defScope st) s.heap.objs.size f cdv)) → GSs cl (cxOf (L2.CX P w) P w K mg base N qual (defScope st) f cdv A outer s H E) (defBody st) body) :
    FnOk P w K mg base (L2.CX P w) (k + 1) f fd ps (spD ⟨K, mg, cl.cl, cl.kc, cl.xa⟩ n (runD n m body)) := by
  refine Fun.okX F hS (fun vs H Q E h => by rw [h.1, hn]) fun cdv A outer s H vs Q E hr ⟨hl, ds, S, g, sm, rp, c⟩ => ?_
  unfold runD at c
  split at c
  · refine ⟨_, B cdv A outer s H E hr _ (takes_of (E := E) rfl rfl rfl rfl) (passes_of rfl), _, S, g, ⟨g, H, fun _ => False, none⟩, sim_start sm rp (by rw [hm, hl]), ⟨⟨.refl, fun _ _ h f m _ => ⟨h, f, m⟩, fun _ _ h => ⟨_, h⟩⟩, fun i o a e => ?_, fun p o e => nomatch e⟩, conS_end c⟩
    have e := List.mem_of_getElem? e
    unfold startD at e
    simp only [List.mem_append, List.mem_map, List.mem_replicate] at e
    rcases e with ⟨_, _, e⟩ | ⟨_, e⟩ <;> cases e
  · exact c.elim
/-- the heap cut to one address -/
def oneF (H : Hp) (a : Addr) : Hp := fun b => if b = a then H a else none
theorem sqL_one {K : PySem.W.Frag} {H : Hp} {a : Addr} {xs : List V} (h : SqL K H a xs) : SqL K (oneF H a) a xs := by
  have e : oneF H a a = H a := by unfold oneF; rw [if_pos rfl]
  rcases h with (h | ⟨o, h⟩) | h
  · exact .inl (.inl (e.trans h))
  · exact .inl (.inr ⟨o, e.trans h⟩)
  · exact .inr h
theorem law_ok {P : Program} {w : World} {K : PySem.W.Frag} {mg : Str → Option Value} {base : Heap} {cl : Wp} {f : Addr} {k : Nat} {x qual p : Str} {st : Stmt} {fd : FuncData} {N : List Str} {m : Nat} {body : SX} (F : Fun K x qual st f fd) (hS : FnScope N [p] (defScope st)) (hm : N.length = 1 + m)
    (B : ∀ (cdv : Value) (A : Around) (outer : List Env) (s : Shared) (H : Hp) (E : XK), Room k (A.deeper (envOfC qual (defScope st) s.heap.objs.size f cdv)) → GSs cl (cxOf (L2.CX P w) P w K mg base N qual (defScope st) f cdv A outer s H E) (defBody st) body)
    (hk : Keeps (runD 1 m body)) : FnOk P w K mg base (L2.CX P w) (k + 1) f fd [p] (spLaw K) := by
  refine (fnK_of F hS rfl hm B).imp fun vs H Q E ⟨a, ns, e, hq, hl, q⟩ => ?_
  subst e
  obtain ⟨S, e⟩ := hk ns hl
  refine ⟨rfl, [.frl (ns.map D.int)], [], ⟨oneF H a, fun _ => none⟩, ⟨fun b u e => ?_, fun i => ⟨fun h => absurd h (Nat.not_lt_zero _), fun ⟨_, h⟩ => (nomatch h)⟩, fun _ _ _ h => (nomatch h), fun _ _ _ h => (nomatch h)⟩, .cons (rep_frl'.mpr ⟨a, _, rfl, sqL_one hq, repL_ints⟩) .nil, ?_⟩
  · by_cases hb : b = a
    · subst hb
      exact .inl (by rw [← e]; exact (if_pos rfl).symm)
    · have e : oneF H a b = some u := e
      rw [show oneF H a b = none from if_neg hb] at e
      cases e
  · change ConD _ _ H Q E (runD 1 m body [.frl (ns.map D.int)] [])
    rw [e]
    intro v g' H' s f r
    rw [rep_bl.mp r]
    exact q H'
end GG
end

section
set_option linter.all false
set_option maxRecDepth 100000
namespace GG
open PySem L2
open PyProof.Rows hiding St
section
variable {K : PySem.W.Frag}
theorem kit_ref {t : Value} {C : Addr} {b : Bool} (h2 : PySem.W.isClsIn K C = true) (h3 : PySem.W.typeIn K (.ref C) = some (.type "type")) (h4 : PySem.W.subIn K t (.ref C) = some b) (ne : (t == .ref C) = false) : PySem.W.kitOne K t (.ref C) = some b := by
  have e2 : ((PySem.W.clsIn K C).isSome && PySem.W.typeIn K (.ref C) == some (.type "type")) = true := by
    have z : (PySem.W.clsIn K C).isSome = true := h2
    rw [z, h3]
    rfl
  unfold PySem.W.kitOne
  rw [ne]
  show (if ((PySem.W.clsIn K C).isSome && PySem.W.typeIn K (.ref C) == some (.type "type")) = true then PySem.W.subIn K t (.ref C) else none) = some b
  rw [if_pos e2, h4]
theorem kit_same {C : Addr} : PySem.W.kitOne K (.ref C) (.ref C) = some true := by
  unfold PySem.W.kitOne
  rw [beq_self_eq_true]
  rfl
theorem ref_ne {a b : Addr} (h : @Ne Nat a b) : (Value.ref a == Value.ref b) = false := beq_eq_false_iff_ne.mpr fun e => h (by cases e; rfl)
theorem kit_rr {a C : Addr} {b : Bool} (h2 : PySem.W.isClsIn K C = true) (h3 : PySem.W.typeIn K (.ref C) = some (.type "type")) (h4 : PySem.W.subIn K (.ref a) (.ref C) = some b) (hs : a = C → b = true) : PySem.W.kitOne K (.ref a) (.ref C) = some b := by
  by_cases e : a = C
  · subst e
    rw [hs rfl]
    exact kit_same
  · exact kit_ref h2 h3 h4 (beq_eq_false_iff_ne.mpr fun q => e (by cases q; rfl))
theorem exm_rr {a C : Addr} {b : Bool} (h1 : PySem.W.subIn K (.ref C) (.type "BaseException") = some true) (h2 : PySem.W.isClsIn K C = true) (h3 : PySem.W.typeIn K (.ref C) = some (.type "type")) (h4 : PySem.W.subIn K (.ref a) (.ref C) = some b) : PySem.W.exmOne K (.ref a) (.ref C) = some b := by
  have e1 : (PySem.W.subIn K (.ref C) (.type "BaseException") == some true) = true := by rw [h1]; rfl
  have e2 : ((PySem.W.clsIn K C).isSome && PySem.W.typeIn K (.ref C) == some (.type "type")) = true := by
    have z : (PySem.W.clsIn K C).isSome = true := h2
    rw [z, h3]
    rfl
  unfold PySem.W.exmOne
  rw [if_pos e1]
  show (if ((PySem.W.clsIn K C).isSome && PySem.W.typeIn K (.ref C) == some (.type "type")) = true then PySem.W.subIn K (.ref a) (.ref C) else none) = some b
  rw [if_pos e2, h4]
theorem kit_rt {C : Addr} {T : String} {b : Bool} (hk : PySem.W.kitMeta T = true) (h4 : PySem.W.subIn K (.ref C) (.type T) = some b) : PySem.W.kitOne K (.ref C) (.type T) = some b := by
  unfold PySem.W.kitOne
  show (if (PySem.W.kitMeta T) = true then PySem.W.subIn K (.ref C) (.type T) else none) = some b
  rw [if_pos hk, h4]
theorem kit_tr {C : Addr} {T : String} {b : Bool} (h2 : PySem.W.isClsIn K C = true) (h3 : PySem.W.typeIn K (.ref C) = some (.type "type")) (h4 : PySem.W.subIn K (.type T) (.ref C) = some b) : PySem.W.kitOne K (.type T) (.ref C) = some b :=
  kit_ref h2 h3 h4 rfl
/-- what the top tells of an own class -/
structure ClsF (K : PySem.W.Frag) (C : Addr) : Prop where
  pg : PySem.W.plainGet K C Str.empty = true
  hd : PySem.W.hasDictIn K C = true
  po : PySem.W.plainOver K C = true
  sa : PySem.W.findIn K (.ref C) "__setattr__" = some (some (.builtin "object.__setattr__"))
  mks : PySem.W.makesIn K C = true
  kp : PySem.W.keepIn K (.ref C) = true
  ha : PySem.W.findIn K (.ref C) "__class__" = some (some (.builtin "object.__class__"))
  hm : PySem.W.mroIn K C (.type "object") = some true
  ic : PySem.W.isClsIn K C = true
  ty : PySem.W.typeIn K (.ref C) = some (.type "type")
  t1 : PySem.W.subIn K (.ref C) (.type "int") = some false
  t2 : PySem.W.subIn K (.ref C) (.type "bool") = some false
  t3 : PySem.W.subIn K (.ref C) (.type "str") = some false
  t4 : PySem.W.subIn K (.ref C) (.type "tuple") = some false
  t5 : PySem.W.subIn K (.ref C) (.type "list") = some false
  t6 : PySem.W.subIn K (.ref C) (.type "dict") = some false
  u0 : PySem.W.subIn K (.type "NoneType") (.ref C) = some false
  u1 : PySem.W.subIn K (.type "int") (.ref C) = some false
  u2 : PySem.W.subIn K (.type "bool") (.ref C) = some false
  u3 : PySem.W.subIn K (.type "str") (.ref C) = some false
  u4 : PySem.W.subIn K (.type "tuple") (.ref C) = some false
  u5 : PySem.W.subIn K (.type "list") (.ref C) = some false
  u6 : PySem.W.subIn K (.type "dict") (.ref C) = some false
theorem ClsF.cls {C : Addr} (c : ClsF K C) : Cls K C := ⟨c.pg, c.hd, c.po, c.sa⟩
theorem ClsF.fact {C : Addr} (c : ClsF K C) (hn : PySem.W.specialIn K (.builtin "object.__class__") "__get__" = some (some (.builtin "getset_descriptor.__get__"))) (ht : PySem.W.takesIn K (.builtin "object.__class__") = some true) : CFact K C := by
  refine ⟨c.cls, c.ha, hn, ht, c.hm, fun m hm => ?_, fun n hn => ?_⟩
  · have hm : m ∈ biTypes := by simpa using hm
    simp only [biTypes, List.mem_cons, List.not_mem_nil, or_false] at hm
    rcases hm with rfl | rfl | rfl | rfl | rfl | rfl
    · exact kit_rt (by decide +kernel) c.t1
    · exact kit_rt (by decide +kernel) c.t2
    · exact kit_rt (by decide +kernel) c.t3
    · exact kit_rt (by decide +kernel) c.t4
    · exact kit_rt (by decide +kernel) c.t5
    · exact kit_rt (by decide +kernel) c.t6
  · have hn : n ∈ srcTypes := by simpa using hn
    simp only [srcTypes, List.mem_cons, List.not_mem_nil, or_false] at hn
    rcases hn with rfl | rfl | rfl | rfl | rfl | rfl | rfl
    · exact kit_tr c.ic c.ty c.u0
    · exact kit_tr c.ic c.ty c.u1
    · exact kit_tr c.ic c.ty c.u2
    · exact kit_tr c.ic c.ty c.u3
    · exact kit_tr c.ic c.ty c.u4
    · exact kit_tr c.ic c.ty c.u5
    · exact kit_tr c.ic c.ty c.u6
/-- what the top tells of an own exception class, one with no __init__ -/
structure ExcF (K : PySem.W.Frag) (C : Addr) : Prop where
  xk : PySem.W.keepIn K (.ref C) = true
  xs : PySem.W.subIn K (.ref C) (.type "BaseException") = some true
  xv : PySem.W.subIn K (.ref C) (.type "ValueError") = some true
  xt : PySem.W.typeIn K (.ref C) = some (.type "type")
  ic : PySem.W.isClsIn K C = true
  hg : PySem.W.findIn K (.ref C) "__getattribute__" = some (some (.builtin "BaseException.__getattribute__"))
  hk : PySem.W.findIn K (.ref C) "__getattr__" = some none
  hd : PySem.W.hasDictIn K C = true
  ha : PySem.W.findIn K (.ref C) "__class__" = some (some (.builtin "object.__class__"))
  hm : PySem.W.mroIn K C (.type "object") = some true
theorem ExcF.excC {C : Addr} (c : ExcF K C) (hn : PySem.W.specialIn K (.builtin "object.__class__") "__get__" = some (some (.builtin "getset_descriptor.__get__"))) (ht : PySem.W.takesIn K (.builtin "object.__class__") = some true) : ExcC K C :=
  ⟨c.hg, c.hk, c.xs, c.hd, c.ha, hn, ht, c.hm⟩
theorem ExcF.ve {C : Addr} (c : ExcF K C) : PySem.W.kitOne K (.ref C) (.type "ValueError") = some true := kit_rt (by decide +kernel) c.xv
theorem kit_sub {a C : Addr} {b : Bool} (h2 : PySem.W.isClsIn K C = true) (h3 : PySem.W.typeIn K (.ref C) = some (.type "type")) (self : PySem.W.subIn K (.ref C) (.ref C) = some true) (h4 : PySem.W.subIn K (.ref a) (.ref C) = some b) : PySem.W.kitOne K (.ref a) (.ref C) = some b :=
  kit_rr h2 h3 h4 fun e => by
    subst e
    rw [self] at h4
    cases h4
    rfl
theorem tab_at {α : Type} {mg : Str → Option Value} {tab : List (Str × α × Addr)} {c : Str} {l : α} (h : (tab.map fun p => (p.1, p.2.1)).lookup c = some l) : ∃ p ∈ tab, p.1 = c ∧ p.2.1 = l := by
  induction tab with
  | nil => cases h
  | cons p r ih =>
    rw [List.map_cons, List.lookup_cons] at h
    split at h
    · rename_i e
      cases h
      exact ⟨p, List.mem_cons_self, (eq_of_beq e).symm, rfl⟩
    · obtain ⟨q, m, h1, h2⟩ := ih h
      exact ⟨q, .tail _ m, h1, h2⟩
theorem ctab_of {mg : Str → Option Value} (L : List (Str × List Str × Addr)) (h1 : ∀ p ∈ L, mg p.1 = some (.ref p.2.2) ∧ CFact K p.2.2) (h2 : ∀ p ∈ L, ∀ q ∈ L, PySem.W.kitOne K (.ref p.2.2) (.ref q.2.2) = some (p.2.1.contains q.1)) : CTabOk K mg (L.map fun p => (p.1, p.2.1)) := by
  refine ⟨fun c l h => ?_, fun c d l l' C D a b e f => ?_⟩
  · obtain ⟨p, m, rfl, rfl⟩ := tab_at (mg := mg) h
    exact ⟨p.2.2, h1 p m⟩
  · obtain ⟨p, m, rfl, rfl⟩ := tab_at (mg := mg) a
    obtain ⟨q, m2, rfl, rfl⟩ := tab_at (mg := mg) b
    have e1 := (h1 p m).1.symm.trans e
    have e2 := (h1 q m2).1.symm.trans f
    cases e1
    cases e2
    exact h2 p m q m2
theorem etab_of {mg : Str → Option Value} (L : List (Str × List Str × Addr)) (h1 : ∀ p ∈ L, mg p.1 = some (.ref p.2.2) ∧ ExcC K p.2.2 ∧ PySem.W.kitOne K (.ref p.2.2) (.type "ValueError") = some true)
    (h2 : ∀ p ∈ L, ∀ q ∈ L, PySem.W.kitOne K (.ref p.2.2) (.ref q.2.2) = some (p.2.1.contains q.1) ∧ PySem.W.exmOne K (.ref p.2.2) (.ref q.2.2) = some (p.2.1.contains q.1)) : ETabOk K mg (L.map fun p => (p.1, p.2.1)) := by
  refine ⟨fun c l h => ?_, fun c d l l' C D a b e f => ?_, fun c l C a e => ?_⟩
  · obtain ⟨p, m, rfl, rfl⟩ := tab_at (mg := mg) h
    exact ⟨p.2.2, (h1 p m).1, (h1 p m).2.1⟩
  · obtain ⟨p, m, rfl, rfl⟩ := tab_at (mg := mg) a
    obtain ⟨q, m2, rfl, rfl⟩ := tab_at (mg := mg) b
    have e1 := (h1 p m).1.symm.trans e
    have e2 := (h1 q m2).1.symm.trans f
    cases e1
    cases e2
    exact h2 p m q m2
  · obtain ⟨p, m, rfl, rfl⟩ := tab_at (mg := mg) a
    have e1 := (h1 p m).1.symm.trans e
    cases e1
    exact (h1 p m).2.2
theorem ex_sub {a C : Addr} {b : Bool} (c : ExcF K C) (self : PySem.W.subIn K (.ref C) (.ref C) = some true) (h4 : PySem.W.subIn K (.ref a) (.ref C) = some b) : PySem.W.kitOne K (.ref a) (.ref C) = some b ∧ PySem.W.exmOne K (.ref a) (.ref C) = some b :=
  ⟨kit_sub c.ic c.xt self h4, exm_rr c.xs c.ic c.xt h4⟩
theorem fld_of {mg : Str → Option Value} {cl : Wp} {f : Str} (cs : List (Str × Addr)) (hk : ∀ c, cl.kc c → c ∈ cs.map (·.1)) (h : ∀ p ∈ cs, mg p.1 = some (.ref p.2) ∧ Cls K p.2 ∧ PySem.W.findIn K (.ref p.2) f = some none) : FldOk K mg cl f := by
  refine ⟨fun c C hc e => ?_⟩
  obtain ⟨p, m, rfl⟩ := List.mem_map.mp (hk c hc)
  obtain ⟨h1, h2, h3⟩ := h p m
  rw [h1] at e
  cases e
  exact ⟨h2, h3⟩
end
end GG
end

section
/-! G.Q: evaluation of combinators by rules; loops and comprehensions by induction. Plain Lean, no heap. -/
set_option linter.all false
set_option maxRecDepth 100000
namespace GG
open PySem L2
theorem nd {α : Type} {a b : α} (h : a = b) : a = b := h
section
variable {ρ ρ' : LEnv} {S S' : Store}
theorem eC_a {d : D} : eC d ρ S = .ok (d, S) := nd rfl
theorem eV_a {i : Nat} : eV i ρ S = match ρ[i]? with
  | some (.val d) => .ok (d, S)
  | _ => .stuck := nd rfl
theorem hE_a {e : EX} : hE e ρ S = (e ρ S).bind fun p => .ok (.d p.1, p.2) := nd rfl
theorem hV_a {i : Nat} : hV i ρ S = match ρ[i]? with
  | some (.val d) => .ok (.d d, S)
  | some (.own _) => .ok (.own i, S)
  | _ => .stuck := nd rfl
theorem eH_a {h : HX} {f : D → Option D} : eH h f ρ S = (h ρ S).bind fun p => (Out.opt ((deref ρ p.2 p.1).bind f)).bind fun d => .ok (d, p.2) := nd rfl
theorem eHB_a {h : HX} {b : EX} {f : D → D → Option D} : eHB h b f ρ S = (h ρ S).bind fun p => (b ρ p.2).bind fun q => (Out.opt ((deref ρ q.2 p.1).bind fun d => f d q.1)).bind fun d => .ok (d, q.2) := nd rfl
theorem eBin_a {f : D → D → Option D} {a b : EX} : eBin f a b ρ S = (a ρ S).bind fun p => (b ρ p.2).bind fun q => (Out.opt (f p.1 q.1)).bind fun d => .ok (d, q.2) := nd rfl
theorem eUn_a {f : D → Option D} {a : EX} : eUn f a ρ S = (a ρ S).bind fun p => (Out.opt (f p.1)).bind fun d => .ok (d, p.2) := nd rfl
theorem eAnd_a {a b : EX} : eAnd a b ρ S = (a ρ S).bind fun p => (Out.opt (bD p.1)).bind fun c => if c then b ρ p.2 else .ok (.bl false, p.2) := nd rfl
theorem eOr_a {a b : EX} : eOr a b ρ S = (a ρ S).bind fun p => (Out.opt (bD p.1)).bind fun c => if c then .ok (.bl true, p.2) else b ρ p.2 := nd rfl
theorem eNot_a {a : EX} : eNot a ρ S = (a ρ S).bind fun p => (Out.opt (bD p.1)).bind fun c => .ok (.bl (!c), p.2) := nd rfl
theorem eIf_a {t : BX} {a b : EX} : eIf t a b ρ S = (t ρ S).bind fun p => if p.1 then a ρ p.2 else b ρ p.2 := nd rfl
theorem eCmp_a {f : D → D → Option Bool} {a b : EX} : eCmp f a b ρ S = (a ρ S).bind fun p => (b ρ p.2).bind fun q => (Out.opt (f p.1 q.1)).bind fun d => .ok (.bl d, q.2) := nd rfl
theorem eChain_a {f g : D → D → Option Bool} {a b c : EX} : eChain f g a b c ρ S = (a ρ S).bind fun p => (b ρ p.2).bind fun q => (Out.opt (f p.1 q.1)).bind fun k =>
  if k then (c ρ q.2).bind fun r => (Out.opt (g q.1 r.1)).bind fun d => .ok (.bl d, r.2) else .ok (.bl false, q.2) := nd rfl
theorem aN_a : aN ρ S = .ok ([], S) := nd rfl
theorem aC_a {e : EX} {r : AX} : aC e r ρ S = (e ρ S).bind fun p => (r ρ p.2).bind fun q => .ok (p.1 :: q.1, q.2) := nd rfl
theorem eTup_a {a : AX} : eTup a ρ S = (a ρ S).bind fun p => if szOk p.1.length then .ok (.tup p.1, p.2) else .stuck := nd rfl
theorem eLst_a {a : AX} : eLst a ρ S = (a ρ S).bind fun p => if szOk p.1.length then .ok (.lst p.1, p.2) else .stuck := nd rfl
theorem eCall_a {f : Den} {a : AX} : eCall f a ρ S = (a ρ S).bind fun p => f p.1 p.2 := nd rfl
theorem eB_a {f : List D → Option D} {a : AX} : eB f a ρ S = (a ρ S).bind fun p => (Out.opt (f p.1)).bind fun d => .ok (d, p.2) := nd rfl
theorem eFz_a {n : MX} : eFz n ρ S = (n ρ S).bind fun p => .ok (p.1.frz, p.2) := nd rfl
theorem eAl_a {n : MX} : eAl n ρ S = (n ρ S).bind fun p => .ok (.ptr p.2.length, p.2 ++ [p.1]) := nd rfl
theorem mLst_a {t : AX} : mLst t ρ S = (t ρ S).bind fun p => if szOk p.1.length then .ok (.lst p.1, p.2) else .stuck := nd rfl
theorem mLc_a {i : IX} {n : NX} {t : BX} {e : EX} {vs : List Nat} : mLc i n t e vs ρ S = (i ρ S).bind fun p => (lcL n t e p.1 (wipeD ρ vs) p.2).bind fun r => .ok (.lst r.1, r.2) := nd rfl
theorem mLc2_a {i : IX} {n : NX} {t : BX} {i1 : IX} {n1 : NX} {t1 : BX} {e : EX} {vs vs1 : List Nat} : mLc2 i n t i1 n1 t1 e vs vs1 ρ S = (i ρ S).bind fun p => (lc2L n t i1 n1 t1 e vs1 p.1 (wipeD ρ vs) p.2).calm.bind (lcEnd []) := nd rfl
theorem mDc_a {i : IX} {n : NX} {t : BX} {k e : EX} {vs : List Nat} : mDc i n t k e vs ρ S = (i ρ S).bind fun p => (dcL n t k e p.1 [] (wipeD ρ vs) p.2).bind fun r => .ok (dicP r.1, r.2) := nd rfl
theorem mMk_a {c : Str} {den : DenO} {t : AX} : mMk c den t ρ S = (t ρ S).bind fun p => den (.ins c [] []) p.1 p.2 := nd rfl
theorem mDic0_a : mDic0 ρ S = .ok (.dic [] [], S) := nd rfl
theorem mList_a {h : HX} : mList h ρ S = (h ρ S).bind fun p => (Out.opt ((deref ρ p.2 p.1).bind seqD)).bind fun xs => .ok (.lst xs, p.2) := nd rfl
theorem eMeth_a {m : Str} {tab : GTab} {o : EX} {t : AX} : eMeth m tab o t ρ S = (o ρ S).bind fun p => (Out.opt (methAt m tab p.2 p.1)).bind fun den => (t ρ p.2).bind fun q => den (p.1 :: q.1) q.2 := nd rfl
theorem eIsi1_a {tab : CTab} {t : IsT} {a : EX} : eIsi1 tab t a ρ S = (a ρ S).bind fun p => (Out.opt ((typN p.2 p.1).bind fun u => isOne tab u t)).bind fun b => .ok (.bl b, p.2) := nd rfl
theorem eIsi_a {tab : CTab} {ts : List IsT} {a : EX} : eIsi tab ts a ρ S = (a ρ S).bind fun p => (Out.opt ((typN p.2 p.1).bind fun t => isAny tab t ts)).bind fun b => .ok (.bl b, p.2) := nd rfl
theorem eInH_a {neg : Bool} {a : EX} {h : HX} : eInH neg a h ρ S = (a ρ S).bind fun p => (h ρ p.2).bind fun q => (Out.opt ((deref ρ q.2 q.1).bind (inD p.1))).bind fun b => .ok (.bl (if neg then !b else b), q.2) := nd rfl
theorem eSl_a {h : HX} {lo hi : Option EX} : eSl h lo hi ρ S = (h ρ S).bind fun p => (oX lo ρ p.2).bind fun l => (oX hi ρ l.2).bind fun u => (Out.opt ((deref ρ u.2 p.1).bind (sliceD l.1 u.1))).bind fun d => .ok (d, u.2) := nd rfl
theorem oX_none : oX none ρ S = .ok (none, S) := nd rfl
theorem oX_some {e : EX} : oX (some e) ρ S = (e ρ S).bind fun q => match q.1 with
    | .int i => Out.ok (some i, q.2)
    | _ => Out.stuck := nd rfl
theorem bV_a {e : EX} : bV e ρ S = (e ρ S).bind fun p => (Out.opt (bD p.1)).bind fun c => .ok (c, p.2) := nd rfl
theorem bT_a {e : EX} : bT e ρ S = (e ρ S).bind fun p => (Out.opt (truD p.1)).bind fun c => .ok (c, p.2) := nd rfl
theorem bAnd_a {a b : BX} : bAnd a b ρ S = (a ρ S).bind fun p => if p.1 then b ρ p.2 else .ok (false, p.2) := nd rfl
theorem bOr_a {a b : BX} : bOr a b ρ S = (a ρ S).bind fun p => if p.1 then .ok (true, p.2) else b ρ p.2 := nd rfl
theorem bNot_a {a : BX} : bNot a ρ S = (a ρ S).bind fun p => .ok (!p.1, p.2) := nd rfl
theorem bTrue_a : bTrue ρ S = .ok (true, S) := nd rfl
theorem iS_a {e : EX} : iS e ρ S = (e ρ S).bind fun p => (Out.opt (walkD p.1)).bind fun xs => .ok (xs, p.2) := nd rfl
theorem iEn_a {e : EX} : iEn e ρ S = (e ρ S).bind fun p => (Out.opt (seqD p.1)).bind fun xs => .ok (xs.zipIdx.map fun q => .tup [.int (q.2 : Nat), q.1], p.2) := nd rfl
theorem iZ_a {a b : EX} : iZ a b ρ S = (a ρ S).bind fun p => (b ρ p.2).bind fun q => (Out.opt (seqD p.1)).bind fun xs => (Out.opt (seqD q.1)).bind fun ys => .ok ((xs.zip ys).map fun q => .tup [q.1, q.2], q.2) := nd rfl
theorem iR1_a {a : AX} : iR1 a ρ S = (a ρ S).bind fun p => (Out.opt (rngD1 p.1)).bind fun xs => .ok (xs, p.2) := nd rfl
theorem iR2_a {a : AX} : iR2 a ρ S = (a ρ S).bind fun p => (Out.opt (rngD2 p.1)).bind fun xs => .ok (xs, p.2) := nd rfl
theorem iR3_a {a : AX} : iR3 a ρ S = (a ρ S).bind fun p => (Out.opt (rngD3 p.1)).bind fun xs => .ok (xs, p.2) := nd rfl
theorem sSeq_a {a b : SX} : sSeq a b ρ S = (a ρ S).seq b := nd rfl
theorem sNil_a : sNil ρ S = .nx ρ S := nd rfl
theorem sExpr_a {e : EX} : sExpr e ρ S = (e ρ S).st ρ fun _ S => .nx ρ S := nd rfl
theorem sRet_a {e : EX} : sRet e ρ S = (e ρ S).st ρ fun d S => .rt d S := nd rfl
theorem sRetN_a : sRetN ρ S = .rt .non S := nd rfl
theorem sIf_a {c : BX} {a b : SX} : sIf c a b ρ S = (c ρ S).st ρ fun k S => if k then a ρ S else b ρ S := nd rfl
theorem sBrk_a : sBrk ρ S = .bk ρ S := nd rfl
theorem sCnt_a : sCnt ρ S = .ct ρ S := nd rfl
theorem sSet_a {i : Nat} {e : EX} : sSet i e ρ S = (e ρ S).st ρ fun d S => .nx (ρ.set i (.val d)) S := nd rfl
theorem sOwn_a {i : Nat} {n : MX} : sOwn i n ρ S = (n ρ S).st ρ fun mo S => .nx (ρ.set i (.own mo)) S := nd rfl
theorem sFz_a {i : Nat} {k : SX} : sFz i k ρ S = k (frzAt i ρ) S := nd rfl
theorem sFor_a {it : IX} {n : NX} {body : SX} : sFor it n body ρ S = (it ρ S).st ρ fun items S => forL n body items ρ S := nd rfl
theorem sMt_a {h : HX} {a : AX} {f : List D → MO → Option MO} : sMt h a f ρ S = (h ρ S).st ρ fun hd S => optS ((curH ρ S hd).bind MO.isL) fun _ => (a ρ S).st ρ fun ds S => optS ((curH ρ S hd).bind (f ds)) fun mo => optS (putO ρ S mo hd) fun p => .nx p.1 p.2 := nd rfl
theorem sFld_a {h : HX} {f : Str} {e : EX} : sFld h f e ρ S = (e ρ S).st ρ fun d S => (h ρ S).st ρ fun hd S => optS ((curH ρ S hd).bind (setFD f d)) fun mo => optS (putO ρ S mo hd) fun p => .nx p.1 p.2 := nd rfl
theorem sAsg_a {e : EX} {t : TX} : sAsg e t ρ S = (e ρ S).st ρ fun d S => optS (t d ρ S) fun p => .nx p.1 p.2 := nd rfl
theorem sRaise_a {c : Str} : sRaise c ρ S = .ex c [] ρ S := nd rfl
theorem sTry_a {tab : ETab} {cH : Str} {i : Nat} {body : SX} {su : List Str → SX} : sTry tab cH i body su ρ S = catchX tab cH i su (body ρ S) := nd rfl
theorem sMethO_a {i : Nat} {m : Str} {tab : OTab} {t : AX} : sMethO i m tab t ρ S = optS (ownAt m tab ρ i) fun q => (t ρ S).st ρ fun ds S => (q.2 q.1 ds S).calm.st ρ fun mo S => .nx (ρ.set i (.own mo)) S := nd rfl
theorem bok {α β : Type} (a : α) (f : α → Out β) : (Out.ok a).bind f = f a := nd rfl
theorem bex {α β : Type} (c : Str) (fs : List (Str × D)) (S : Store) (f : α → Out β) : (Out.exc c fs S).bind f = .exc c fs S := nd rfl
theorem oso {α : Type} (a : α) : Out.opt (some a) = .ok a := nd rfl
theorem sok {α : Type} (ρ : LEnv) (p : α × Store) (k : α → Store → SOut) : (Out.ok p).st ρ k = k p.1 p.2 := nd rfl
theorem sxc {α : Type} (ρ : LEnv) (c : Str) (fs : List (Str × D)) (S : Store) (k : α → Store → SOut) : (Out.exc c fs S).st ρ k = .ex c fs ρ S := nd rfl
theorem cok {α : Type} (a : α) : (Out.ok a).calm = .ok a := nd rfl
theorem qnx (ρ : LEnv) (S : Store) (k : SX) : (SOut.nx ρ S).seq k = k ρ S := nd rfl
theorem qrt (d : D) (S : Store) (k : SX) : (SOut.rt d S).seq k = .rt d S := nd rfl
theorem qbk (ρ : LEnv) (S : Store) (k : SX) : (SOut.bk ρ S).seq k = .bk ρ S := nd rfl
theorem qct (ρ : LEnv) (S : Store) (k : SX) : (SOut.ct ρ S).seq k = .ct ρ S := nd rfl
theorem qex (c : Str) (fs : List (Str × D)) (ρ : LEnv) (S : Store) (k : SX) : (SOut.ex c fs ρ S).seq k = .ex c fs ρ S := nd rfl
theorem lnx (ρ : LEnv) (S : Store) (k : SX) : (SOut.nx ρ S).loop k = k ρ S := nd rfl
theorem lct (ρ : LEnv) (S : Store) (k : SX) : (SOut.ct ρ S).loop k = k ρ S := nd rfl
theorem lbk (ρ : LEnv) (S : Store) (k : SX) : (SOut.bk ρ S).loop k = .nx ρ S := nd rfl
theorem lrt (d : D) (S : Store) (k : SX) : (SOut.rt d S).loop k = .rt d S := nd rfl
theorem lxc (c : Str) (fs : List (Str × D)) (ρ : LEnv) (S : Store) (k : SX) : (SOut.ex c fs ρ S).loop k = .ex c fs ρ S := nd rfl
theorem oss {α : Type} (x : α) (k : α → SOut) : optS (some x) k = k x := nd rfl
theorem okk {α : Type} (a : α) : okO (.ok a) = some a := nd rfl
theorem obs {α β : Type} (a : α) (f : α → Option β) : (some a).bind f = f a := nd rfl
theorem oms {α β : Type} (a : α) (f : α → β) : (some a).map f = some (f a) := nd rfl
theorem add_i (i j : Int) : addD (.int i) (.int j) = some (.int (i + j)) := nd rfl
theorem add_s {x y : Str} (h : x.length + y.length ≤ 16777216) : addD (.str x) (.str y) = some (.str (x ++ y)) := if_pos h
theorem add_t {x y : List D} (h : x.length + y.length ≤ 16777216) : addD (.tup x) (.tup y) = some (.tup (x ++ y)) := if_pos h
theorem add_l {x y : List D} (h : x.length + y.length ≤ 16777216) : addD (.lst x) (.lst y) = some (.lst (x ++ y)) := if_pos h
theorem sub_i (i j : Int) : subD (.int i) (.int j) = some (.int (i - j)) := nd rfl
theorem mul_i {i j : Int} (h : mulOk i j = true) : mulD (.int i) (.int j) = some (.int (i * j)) := if_pos h
theorem fdiv_i {i j : Int} (h : divOk j = true) : fdivD (.int i) (.int j) = some (.int (i / j)) := if_pos h
theorem mod_i {i j : Int} (h : 0 < j) : modD (.int i) (.int j) = some (.int (i % j)) := if_pos h
theorem neg_i (i : Int) : negD (.int i) = some (.int (-i)) := nd rfl
theorem lt_i (i j : Int) : ltD (.int i) (.int j) = some (decide (i < j)) := nd rfl
theorem le_i (i j : Int) : leD (.int i) (.int j) = some (decide (i ≤ j)) := nd rfl
theorem gt_i (i j : Int) : gtD (.int i) (.int j) = some (decide (j < i)) := nd rfl
theorem ge_i (i j : Int) : geD (.int i) (.int j) = some (decide (j ≤ i)) := nd rfl
theorem len_l (xs : List D) : lenD (.lst xs) = some (.int xs.length) := nd rfl
theorem len_t (xs : List D) : lenD (.tup xs) = some (.int xs.length) := nd rfl
theorem len_f (xs : List D) : lenD (.frl xs) = some (.int xs.length) := nd rfl
theorem len_k (xs : List D) : lenD (.ktp xs) = some (.int xs.length) := nd rfl
theorem len_s {z : Str} (h : z.length ≤ 16777216) : lenD (.str z) = some (.int z.length) := if_pos h
theorem len_d (ks : List KK) (vs : List D) : lenD (.dic ks vs) = some (.int ks.length) := nd rfl
theorem idx_l (xs : List D) (i : Int) : idxD (.lst xs) (.int i) = atI xs i := nd rfl
theorem idx_t (xs : List D) (i : Int) : idxD (.tup xs) (.int i) = atI xs i := nd rfl
theorem idx_f (xs : List D) (i : Int) : idxD (.frl xs) (.int i) = atI xs i := nd rfl
theorem walk_l (xs : List D) : walkD (.lst xs) = some xs := nd rfl
theorem walk_t (xs : List D) : walkD (.tup xs) = some xs := nd rfl
theorem walk_s {z : Str} (h : z.length ≤ 16777216) : walkD (.str z) = some (charsD z) := if_pos h
theorem walk_f (xs : List D) : walkD (.frl xs) = some xs := nd rfl
theorem seq_l (xs : List D) : seqD (.lst xs) = some xs := nd rfl
theorem seq_t (xs : List D) : seqD (.tup xs) = some xs := nd rfl
theorem tuple_l (xs : List D) : tupleD (.lst xs) = some (.tup xs) := nd rfl
theorem tuple_t (xs : List D) : tupleD (.tup xs) = some (.tup xs) := nd rfl
theorem int_i (i : Int) : intD (.int i) = some (.int i) := nd rfl
theorem bD_b (b : Bool) : bD (.bl b) = some b := nd rfl
theorem tru_n : truD .non = some false := nd rfl
theorem tru_b (b : Bool) : truD (.bl b) = some b := nd rfl
theorem tru_l (xs : List D) : truD (.lst xs) = some (!xs.isEmpty) := nd rfl
theorem tru_t (xs : List D) : truD (.tup xs) = some (!xs.isEmpty) := nd rfl
theorem dr_n {ρ : LEnv} {S : Store} : deref ρ S (.d .non) = some .non := nd rfl
theorem dr_b {ρ : LEnv} {S : Store} {b : Bool} : deref ρ S (.d (.bl b)) = some (.bl b) := nd rfl
theorem dr_i {ρ : LEnv} {S : Store} {i : Int} : deref ρ S (.d (.int i)) = some (.int i) := nd rfl
theorem dr_s {ρ : LEnv} {S : Store} {z : Str} : deref ρ S (.d (.str z)) = some (.str z) := nd rfl
theorem dr_l {ρ : LEnv} {S : Store} {xs : List D} : deref ρ S (.d (.lst xs)) = some (.lst xs) := nd rfl
theorem dr_t {ρ : LEnv} {S : Store} {xs : List D} : deref ρ S (.d (.tup xs)) = some (.tup xs) := nd rfl
theorem dr_k {ρ : LEnv} {S : Store} {xs : List D} : deref ρ S (.d (.ktp xs)) = some (.ktp xs) := nd rfl
theorem dr_f {ρ : LEnv} {S : Store} {xs : List D} : deref ρ S (.d (.frl xs)) = some (.frl xs) := nd rfl
theorem dr_d {ρ : LEnv} {S : Store} {ks : List KK} {xs : List D} : deref ρ S (.d (.dic ks xs)) = some (.dic ks xs) := nd rfl
theorem dr_o {ρ : LEnv} {S : Store} {c : Str} {fs : List Str} {xs : List D} : deref ρ S (.d (.obj c fs xs)) = some (.obj c fs xs) := nd rfl
theorem dr_p {ρ : LEnv} {S : Store} {n : Nat} : deref ρ S (.d (.ptr n)) = (S[n]?).map MO.now := nd rfl
theorem dr_w {ρ : LEnv} {S : Store} {i : Nat} : deref ρ S (.own i) = match ρ[i]? with
    | some (.own o) => some o.now
    | _ => none := nd rfl
theorem now_l (xs : List D) : MO.now (.lst xs) = .lst xs := nd rfl
theorem now_d (ks : List KK) (xs : List D) : MO.now (.dic ks xs) = .dic ks xs := nd rfl
theorem now_o (c : Str) (fs : List Str) (xs : List D) : MO.now (.ins c fs xs) = .obj c fs xs := nd rfl
theorem frz_l (xs : List D) : MO.frz (.lst xs) = .lst xs := nd rfl
theorem frz_d (ks : List KK) (xs : List D) : MO.frz (.dic ks xs) = .dic ks xs := nd rfl
theorem frz_o (c : Str) (fs : List Str) (xs : List D) : MO.frz (.ins c fs xs) = .obj c fs xs := nd rfl
theorem isL_l (xs : List D) : MO.isL (.lst xs) = some () := nd rfl
theorem cu_p {ρ : LEnv} {S : Store} {n : Nat} : curH ρ S (.d (.ptr n)) = S[n]? := nd rfl
theorem cu_w {ρ : LEnv} {S : Store} {i : Nat} : curH ρ S (.own i) = match ρ[i]? with
    | some (Slot.own o) => some o
    | _ => none := nd rfl
theorem pu_p {ρ : LEnv} {S : Store} {n : Nat} {mo : MO} : putO ρ S mo (.d (.ptr n)) = some (ρ, S.set n mo) := nd rfl
theorem pu_w {ρ : LEnv} {S : Store} {i : Nat} {mo : MO} : putO ρ S mo (.own i) = some (ρ.set i (.own mo), S) := nd rfl
theorem gN_a {i : Nat} {d : D} {ρ : LEnv} : gN i d ρ = some (ρ.set i (.val d)) := nd rfl
theorem gT_t {ns : List NX} {ds : List D} {ρ : LEnv} : gT ns (.tup ds) ρ = gAll ns ds ρ := nd rfl
theorem gAll_n {ρ : LEnv} : gAll [] [] ρ = some ρ := nd rfl
theorem gAll_c {n : NX} {ns : List NX} {d : D} {ds : List D} {ρ : LEnv} : gAll (n :: ns) (d :: ds) ρ = (n d ρ).bind (gAll ns ds) := nd rfl
theorem app_l {xs : List D} {d : D} (h : xs.length < 16777216) : appD [d] (.lst xs) = some (.lst (xs ++ [d])) := if_pos h
theorem ext_l {xs ys : List D} (h : xs.length + ys.length ≤ 16777216) : extD [.lst ys] (.lst xs) = some (.lst (xs ++ ys)) := if_pos h
theorem szOk_t {n : Nat} (h : n ≤ 16777216) : szOk n = true := decide_eq_true h
theorem szOk_1 : szOk 1 = true := by decide +kernel
theorem szOk_0 : szOk 0 = true := by decide +kernel
theorem szOk_2 : szOk 2 = true := by decide +kernel
theorem szOk_3 : szOk 3 = true := by decide +kernel
theorem szOk_4 : szOk 4 = true := by decide +kernel
theorem ite_and {k d : Bool} {S : Store} : (if k = true then (Out.ok (D.bl d, S) : Out (D × Store)) else Out.ok (D.bl false, S)) = Out.ok (D.bl (k && d), S) := by cases k <;> rfl
theorem ite_or {k d : Bool} {S : Store} : (if k = true then (Out.ok (D.bl true, S) : Out (D × Store)) else Out.ok (D.bl d, S)) = Out.ok (D.bl (k || d), S) := by cases k <;> rfl
theorem ite_andB {k d : Bool} {S : Store} : (if k = true then (Out.ok (d, S) : Out (Bool × Store)) else Out.ok (false, S)) = Out.ok (k && d, S) := by cases k <;> rfl
theorem ite_orB {k d : Bool} {S : Store} : (if k = true then (Out.ok (true, S) : Out (Bool × Store)) else Out.ok (d, S)) = Out.ok (k || d, S) := by cases k <;> rfl
theorem atI_0 {α : Type} (a : α) (xs : List α) : atI (a :: xs) 0 = some a := by
  unfold atI ixN
  rw [if_pos (Int.le_refl 0), if_pos (by rw [List.length_cons]; omega)]
  rfl
theorem atI_1 {α : Type} (a b : α) (xs : List α) : atI (a :: b :: xs) 1 = some b := by
  unfold atI ixN
  rw [if_pos (by decide), if_pos (by rw [List.length_cons, List.length_cons]; omega)]
  rfl
theorem atI_2 {α : Type} (a b c : α) (xs : List α) : atI (a :: b :: c :: xs) 2 = some c := by
  unfold atI ixN
  rw [if_pos (by decide), if_pos (by rw [List.length_cons, List.length_cons, List.length_cons]; omega)]
  rfl
theorem runD_a {n m : Nat} {body : SX} {ds : List D} (h : ds.length = n) : runD n m body ds S = endD (body (startD m ds) S) := by
  unfold runD; rw [if_pos h]
theorem runO_a {n m : Nat} {body : SX} {mo : MO} {ds : List D} (h : ds.length = n) : runO n m body mo ds S = endO (body (startO m mo ds) S) := by
  unfold runO; rw [if_pos h]
theorem endD_rt (d : D) (S : Store) : endD (.rt d S) = .ok (d, S) := rfl
theorem endD_nx (ρ : LEnv) (S : Store) : endD (.nx ρ S) = .ok (.non, S) := rfl
theorem endD_ex (c : Str) (fs : List (Str × D)) (ρ : LEnv) (S : Store) : endD (.ex c fs ρ S) = .exc c fs S := rfl
theorem deref_val {x : D} (h : ∀ n, x ≠ .ptr n) : deref ρ S (.d x) = some x := by
  cases x <;> first | rfl | exact absurd rfl (h _)
theorem seq_nx {a b : SX} (h : a ρ S = .nx ρ' S') : sSeq a b ρ S = b ρ' S' := by
  show (a ρ S).seq b = _
  rw [h]
  rfl
theorem seq_rt {a b : SX} {d : D} (h : a ρ S = .rt d S') : sSeq a b ρ S = .rt d S' := by
  show (a ρ S).seq b = _
  rw [h]
  rfl
theorem for_run {it : IX} {n : NX} {body : SX} {items : List D} (h : it ρ S = .ok (items, S')) : sFor it n body ρ S = forL n body items ρ S' := by
  show (it ρ S).st ρ _ = _
  rw [h]
  rfl

/-! ### loops -/
theorem forL_nil {n : NX} {body : SX} : forL n body [] ρ S = .nx ρ S := rfl
theorem forL_cons {n : NX} {body : SX} {d : D} {ds : List D} (h : n d ρ = some ρ') : forL n body (d :: ds) ρ S = (body ρ' S).loop (forL n body ds) := by
  show (match n d ρ with | some ρ' => (body ρ' S).loop (forL n body ds) | none => .stuck) = _
  rw [h]
/-- a loop by an invariant that counts -/
theorem forL_inv {α : Type} {enc : α → D} {n : NX} {body : SX} (P : Nat → LEnv → Store → Prop) : ∀ (xs : List α) (k : Nat) (ρ : LEnv) (S : Store), P k ρ S →
    (∀ i x ρ S, xs[i]? = some x → P (k + i) ρ S → ∃ ρ1 ρ2 S2, n (enc x) ρ = some ρ1 ∧ (body ρ1 S = .nx ρ2 S2 ∨ body ρ1 S = .ct ρ2 S2) ∧ P (k + i + 1) ρ2 S2) →
    ∃ ρ' S', forL n body (xs.map enc) ρ S = .nx ρ' S' ∧ P (k + xs.length) ρ' S'
  | [], k, ρ, S, h, _ => ⟨ρ, S, rfl, h⟩
  | x :: xs, k, ρ, S, h, st => by
    obtain ⟨ρ1, ρ2, S2, h1, h2, h3⟩ := st 0 x ρ S rfl h
    obtain ⟨ρ', S', e, q⟩ := forL_inv P xs (k + 1) ρ2 S2 h3 fun i y ρ S e p => by
      have := st (i + 1) y ρ S e (by rw [show k + (i + 1) = k + 1 + i from by omega]; exact p)
      rw [show k + (i + 1) + 1 = k + 1 + i + 1 from by omega] at this
      exact this
    refine ⟨ρ', S', ?_, by rw [List.length_cons, show k + (xs.length + 1) = k + 1 + xs.length from by omega]; exact q⟩
    rw [List.map_cons, forL_cons h1]
    rcases h2 with h2 | h2 <;> (rw [h2]; exact e)
/-- a loop that folds -/
theorem forL_fold {α σ : Type} {enc : α → D} {n : NX} {body : SX} (R : σ → LEnv → Store → Prop) (f : σ → α → σ) : ∀ (xs : List α) (s : σ) (ρ : LEnv) (S : Store), R s ρ S →
    (∀ s x ρ S, x ∈ xs → R s ρ S → ∃ ρ1 ρ2 S2, n (enc x) ρ = some ρ1 ∧ (body ρ1 S = .nx ρ2 S2 ∨ body ρ1 S = .ct ρ2 S2) ∧ R (f s x) ρ2 S2) →
    ∃ ρ' S', forL n body (xs.map enc) ρ S = .nx ρ' S' ∧ R (xs.foldl f s) ρ' S'
  | [], s, ρ, S, h, _ => ⟨ρ, S, rfl, h⟩
  | x :: xs, s, ρ, S, h, st => by
    obtain ⟨ρ1, ρ2, S2, h1, h2, h3⟩ := st s x ρ S List.mem_cons_self h
    obtain ⟨ρ', S', e, q⟩ := forL_fold R f xs (f s x) ρ2 S2 h3 fun s y ρ S m p => st s y ρ S (.tail _ m) p
    refine ⟨ρ', S', ?_, q⟩
    rw [List.map_cons, forL_cons h1]
    rcases h2 with h2 | h2 <;> (rw [h2]; exact e)
/-- a loop that may end early, nothing changing -/
theorem forL_find {α : Type} {enc : α → D} {n : NX} {body : SX} {o : α → SOut} (R : LEnv → Prop) (b : α → Bool) : ∀ (xs : List α) (ρ : LEnv), R ρ →
    (∀ x ρ, x ∈ xs → R ρ → ∃ ρ1, n (enc x) ρ = some ρ1 ∧ (b x = false → ∃ ρ2, body ρ1 S = .nx ρ2 S ∧ R ρ2) ∧ (b x = true → ∃ d, body ρ1 S = .rt d S ∧ o x = .rt d S)) →
    (xs.find? b = none → ∃ ρ', forL n body (xs.map enc) ρ S = .nx ρ' S ∧ R ρ') ∧ (∀ x, xs.find? b = some x → forL n body (xs.map enc) ρ S = o x)
  | [], ρ, h, _ => ⟨fun _ => ⟨ρ, rfl, h⟩, fun x e => by cases e⟩
  | x :: xs, ρ, h, st => by
    obtain ⟨ρ1, h1, h2, h3⟩ := st x ρ List.mem_cons_self h
    rw [List.map_cons, forL_cons h1, List.find?_cons]
    cases hb : b x with
    | true =>
      obtain ⟨d, e1, e2⟩ := h3 hb
      refine ⟨fun e => by simp at e, fun y e => ?_⟩
      have e : x = y := by simpa using e
      rw [← e, e1, e2]
      rfl
    | false =>
      obtain ⟨ρ2, e1, e2⟩ := h2 hb
      rw [e1]
      exact forL_find R b xs ρ2 e2 fun y ρ m p => st y ρ (.tail _ m) p
theorem forL_foldD {σ : Type} {n : NX} {body : SX} (R : σ → LEnv → Store → Prop) (f : σ → D → σ) (xs : List D) (s : σ) (ρ : LEnv) (S : Store) (h0 : R s ρ S)
    (h : ∀ s x ρ S, x ∈ xs → R s ρ S → ∃ ρ1 ρ2 S2, n x ρ = some ρ1 ∧ (body ρ1 S = .nx ρ2 S2 ∨ body ρ1 S = .ct ρ2 S2) ∧ R (f s x) ρ2 S2) :
    ∃ ρ' S', forL n body xs ρ S = .nx ρ' S' ∧ R (xs.foldl f s) ρ' S' := by
  have := forL_fold (enc := id) R f xs s ρ S h0 h
  rw [List.map_id] at this
  exact this
theorem forL_findD {n : NX} {body : SX} {o : D → SOut} (R : LEnv → Prop) (b : D → Bool) (xs : List D) (ρ : LEnv) (h0 : R ρ)
    (h : ∀ x ρ, x ∈ xs → R ρ → ∃ ρ1, n x ρ = some ρ1 ∧ (b x = false → ∃ ρ2, body ρ1 S = .nx ρ2 S ∧ R ρ2) ∧ (b x = true → ∃ d, body ρ1 S = .rt d S ∧ o x = .rt d S)) :
    (xs.find? b = none → ∃ ρ', forL n body xs ρ S = .nx ρ' S ∧ R ρ') ∧ (∀ x, xs.find? b = some x → forL n body xs ρ S = o x) := by
  have := forL_find (S := S) (enc := id) (o := o) R b xs ρ h0 h
  rw [List.map_id] at this
  exact this
/-- one turn of a while loop -/
theorem while_t {c : BX} {body : SX} (h : c ρ S = .ok (true, S')) : sWhile c body ρ S = (body ρ S').loop (sWhile c body) := by
  rw [sWhile_eq, h]
  rfl
theorem while_f {c : BX} {body : SX} (h : c ρ S = .ok (false, S')) : sWhile c body ρ S = .nx ρ S' := by
  rw [sWhile_eq, h]
  rfl

/-! ### comprehensions -/
theorem lcL_cons {n : NX} {t : BX} {e : EX} {d : D} {ds : List D} (h : n d ρ = some ρ') : lcL n t e (d :: ds) ρ S = (t ρ' S).calm.bind fun b => if b.1 then (e ρ' b.2).calm.bind fun y => (lcL n t e ds ρ y.2).bind fun r => .ok (y.1 :: r.1, r.2) else lcL n t e ds ρ b.2 := by
  unfold lcL
  rw [h]
  cases ds <;> rfl
/-- a comprehension that leaves the store -/
theorem lcL_if {α : Type} {enc : α → D} {n : NX} {t : BX} {e : EX} {f : α → D} {b : α → Bool} : ∀ {xs : List α}, (∀ x ∈ xs, ∃ ρ', n (enc x) ρ = some ρ' ∧ t ρ' S = .ok (b x, S) ∧ (b x = true → e ρ' S = .ok (f x, S))) → lcL n t e (xs.map enc) ρ S = .ok ((xs.filter b).map f, S)
  | [], _ => rfl
  | x :: xs, h => by
    obtain ⟨ρ', h1, h2, h3⟩ := h x List.mem_cons_self
    have ih := lcL_if (xs := xs) fun x m => h x (.tail _ m)
    rw [List.map_cons, lcL_cons h1]
    simp only [h2, Out.calm_ok, Out.bind_ok]
    cases hb : b x with
    | false =>
      simp only [Bool.false_eq_true, if_false, List.filter_cons, hb]
      exact ih
    | true =>
      simp only [if_true, h3 hb, Out.calm_ok, Out.bind_ok, ih, List.filter_cons, hb, List.map_cons]
theorem lcL_map {α : Type} {enc : α → D} {n : NX} {e : EX} {f : α → D} {xs : List α} (h : ∀ x ∈ xs, ∃ ρ', n (enc x) ρ = some ρ' ∧ e ρ' S = .ok (f x, S)) : lcL n bTrue e (xs.map enc) ρ S = .ok (xs.map f, S) := by
  rw [lcL_if (b := fun _ => true) (f := f) fun x m => ?_]
  · rw [List.filter_eq_self.mpr fun _ _ => rfl]
  · obtain ⟨ρ', h1, h2⟩ := h x m
    exact ⟨ρ', h1, rfl, fun _ => h2⟩
theorem lcL_ifD {n : NX} {t : BX} {e : EX} {f : D → D} {b : D → Bool} {xs : List D} (h : ∀ x ∈ xs, ∃ ρ', n x ρ = some ρ' ∧ t ρ' S = .ok (b x, S) ∧ (b x = true → e ρ' S = .ok (f x, S))) : lcL n t e xs ρ S = .ok ((xs.filter b).map f, S) := by
  have := lcL_if (enc := id) h
  rw [List.map_id] at this
  exact this
theorem lcL_mapD {n : NX} {e : EX} {f : D → D} {xs : List D} (h : ∀ x ∈ xs, ∃ ρ', n x ρ = some ρ' ∧ e ρ' S = .ok (f x, S)) : lcL n bTrue e xs ρ S = .ok (xs.map f, S) := by
  have := lcL_map (enc := id) h
  rw [List.map_id] at this
  exact this
/-- a comprehension that changes the store, by an invariant -/
theorem lcL_inv {α : Type} {enc : α → D} {n : NX} {e : EX} (P : Nat → List D → Store → Prop) : ∀ (xs : List α) (k : Nat) (acc : List D) (S : Store), P k acc S →
    (∀ i x acc S, xs[i]? = some x → P (k + i) acc S → ∃ ρ1 d S2, n (enc x) ρ = some ρ1 ∧ e ρ1 S = .ok (d, S2) ∧ P (k + i + 1) (acc ++ [d]) S2) →
    ∃ ds S', lcL n bTrue e (xs.map enc) ρ S = .ok (ds, S') ∧ P (k + xs.length) (acc ++ ds) S'
  | [], k, acc, S, h, _ => ⟨[], S, rfl, by rw [List.append_nil]; exact h⟩
  | x :: xs, k, acc, S, h, st => by
    obtain ⟨ρ1, d, S2, h1, h2, h3⟩ := st 0 x acc S rfl h
    obtain ⟨ds, S', e, q⟩ := lcL_inv P xs (k + 1) (acc ++ [d]) S2 h3 fun i y acc S e p => by
      have := st (i + 1) y acc S e (by rw [show k + (i + 1) = k + 1 + i from by omega]; exact p)
      rw [show k + (i + 1) + 1 = k + 1 + i + 1 from by omega] at this
      exact this
    refine ⟨d :: ds, S', ?_, by rw [List.length_cons, show k + (xs.length + 1) = k + 1 + xs.length from by omega, show acc ++ d :: ds = acc ++ [d] ++ ds from by simp]; exact q⟩
    rw [List.map_cons, lcL_cons h1]
    simp only [bTrue_a, Out.calm_ok, Out.bind_ok, if_true, h2, e]
/-- .. that maps, the store going along -/
theorem lcL_st {α σ : Type} {enc : α → D} {n : NX} {e : EX} (R : σ → Store → Prop) (f : σ → α → D × σ) : ∀ (xs : List α) (s : σ) (S : Store), R s S →
    (∀ s x S, x ∈ xs → R s S → ∃ ρ1 S2, n (enc x) ρ = some ρ1 ∧ e ρ1 S = .ok ((f s x).1, S2) ∧ R (f s x).2 S2) →
    ∃ S', lcL n bTrue e (xs.map enc) ρ S = .ok ((xs.foldl (fun (p : List D × σ) x => (p.1 ++ [(f p.2 x).1], (f p.2 x).2)) ([], s)).1, S') ∧ R (xs.foldl (fun (p : List D × σ) x => (p.1 ++ [(f p.2 x).1], (f p.2 x).2)) ([], s)).2 S' := by
  have gen : ∀ (xs : List α) (acc : List D) (s : σ), xs.foldl (fun (p : List D × σ) x => (p.1 ++ [(f p.2 x).1], (f p.2 x).2)) (acc, s) = (acc ++ (xs.foldl (fun (p : List D × σ) x => (p.1 ++ [(f p.2 x).1], (f p.2 x).2)) ([], s)).1, (xs.foldl (fun (p : List D × σ) x => (p.1 ++ [(f p.2 x).1], (f p.2 x).2)) ([], s)).2) := by
    intro xs
    induction xs with
    | nil => intro acc s; simp
    | cons x xs ih =>
      intro acc s
      rw [List.foldl_cons, List.foldl_cons, ih, ih ([] ++ _)]
      simp
  intro xs
  induction xs with
  | nil => intro s S h _; exact ⟨S, rfl, h⟩
  | cons x xs ih =>
    intro s S h st
    obtain ⟨ρ1, S2, h1, h2, h3⟩ := st s x S List.mem_cons_self h
    obtain ⟨S', e1, e2⟩ := ih (f s x).2 S2 h3 fun s y S m p => st s y S (.tail _ m) p
    refine ⟨S', ?_, ?_⟩
    · rw [List.map_cons, lcL_cons h1, List.foldl_cons, gen]
      simp only [bTrue_a, Out.calm_ok, Out.bind_ok, if_true, h2, e1, List.nil_append, List.singleton_append]
    · rw [List.foldl_cons, gen]
      exact e2
theorem lc2L_cons {n : NX} {t : BX} {i1 : IX} {n1 : NX} {t1 : BX} {e : EX} {vs1 : List Nat} {d : D} {ds : List D} (h : n d ρ = some ρ') : lc2L n t i1 n1 t1 e vs1 (d :: ds) ρ S = (t ρ' S).calm.bind fun b => if b.1 then (i1 ρ' b.2).calm.bind fun p => (lcL n1 t1 e p.1 (wipeD ρ' vs1) p.2).calm.bind fun q => (lc2L n t i1 n1 t1 e vs1 ds ρ q.2).calm.bind fun r => .ok (q.1 ++ r.1, r.2)
        else lc2L n t i1 n1 t1 e vs1 ds ρ b.2 := by
  unfold lc2L
  rw [h]
  cases ds <;> rfl
/-- two sources, the store staying: flat map -/
theorem lc2L_map {α : Type} {enc : α → D} {n : NX} {i1 : IX} {n1 : NX} {t1 : BX} {e : EX} {vs1 : List Nat} {f : α → List D} : ∀ {xs : List α}, (∀ x ∈ xs, ∃ ρ' items, n (enc x) ρ = some ρ' ∧ i1 ρ' S = .ok (items, S) ∧ lcL n1 t1 e items (wipeD ρ' vs1) S = .ok (f x, S)) → lc2L n bTrue i1 n1 t1 e vs1 (xs.map enc) ρ S = .ok (xs.flatMap f, S)
  | [], _ => rfl
  | x :: xs, h => by
    obtain ⟨ρ', items, h1, h2, h3⟩ := h x List.mem_cons_self
    have ih := lc2L_map (xs := xs) fun x m => h x (.tail _ m)
    rw [List.map_cons, lc2L_cons h1]
    simp only [bTrue_a, Out.calm_ok, Out.bind_ok, if_true, h2, h3, ih, List.flatMap_cons]

/-! ### built-in things -/
theorem boolsOf_map {α : Type} (f : α → Bool) : ∀ xs : List α, boolsOf (xs.map fun x => D.bl (f x)) = some (xs.map f)
  | [] => rfl
  | x :: xs => by rw [List.map_cons]; unfold boolsOf; rw [boolsOf_map f xs]; rfl
theorem intsOf_map {α : Type} (f : α → Int) : ∀ xs : List α, intsOf (xs.map fun x => D.int (f x)) = some (xs.map f)
  | [] => rfl
  | x :: xs => by rw [List.map_cons]; unfold intsOf; rw [intsOf_map f xs]; rfl
theorem strsOf_map {α : Type} (f : α → Str) : ∀ xs : List α, strsOf (xs.map fun x => D.str (f x)) = some (xs.map f)
  | [] => rfl
  | x :: xs => by rw [List.map_cons]; unfold strsOf; rw [strsOf_map f xs]; rfl
theorem strsD_map {α : Type} (f : α → Str) : ∀ xs : List α, strsD (xs.map fun x => D.str (f x)) = some (xs.map f)
  | [] => rfl
  | x :: xs => by rw [List.map_cons]; unfold strsD; rw [strsD_map f xs]; rfl
theorem allD_map {α : Type} (f : α → Bool) (xs : List α) : allD (.lst (xs.map fun x => D.bl (f x))) = some (.bl (xs.all f)) := by
  show (boolsOf _).map _ = _
  rw [boolsOf_map]
  show some (D.bl ((xs.map f).all id)) = _
  rw [List.all_map]
  rfl
theorem anyD_map {α : Type} (f : α → Bool) (xs : List α) : anyD (.lst (xs.map fun x => D.bl (f x))) = some (.bl (xs.any f)) := by
  show (boolsOf _).map _ = _
  rw [boolsOf_map]
  show some (D.bl ((xs.map f).any id)) = _
  rw [List.any_map]
  rfl
theorem sumD_map {α : Type} (f : α → Int) (xs : List α) : sumD (.lst (xs.map fun x => D.int (f x))) = some (.int (xs.map f).sum) := by
  show (intsOf _).map _ = _
  rw [intsOf_map]
  rfl
theorem atI_nat {α : Type} {xs : List α} {i : Nat} {x : α} (h : xs[i]? = some x) : atI xs (i : Int) = some x := by
  have hl : i < xs.length := (List.getElem?_eq_some_iff.mp h).1
  unfold atI ixN
  rw [if_pos (by omega), if_pos (by omega), Option.bind_some, Int.toNat_natCast]
  exact h
theorem ixN_nat {n i : Nat} (h : i < n) : ixN n (i : Int) = some i := by
  unfold ixN
  rw [if_pos (by omega), if_pos (by omega), Int.toNat_natCast]
theorem ix_at {n : Nat} {i : Int} (h0 : 0 ≤ i) (h1 : i < n) : ixN n i = some i.toNat := by
  unfold ixN
  rw [if_pos h0, if_pos h1]
theorem size_big : sizeLine = 16777216 := rfl
theorem szOk_of {n : Nat} (h : n ≤ 16777216) : szOk n = true := decide_eq_true h
theorem fit_of {i : Int} (h0 : -1000000000000000000 ≤ i) (h1 : i ≤ 1000000000000000000) : fitI i = true := by
  unfold fitI
  rw [decide_eq_true (by omega), decide_eq_true (by omega)]
  rfl
theorem rng1 (n : Nat) (h : n ≤ 16777216) : rngD1 [.int (n : Nat)] = some ((List.range n).map fun i => D.int (i : Nat)) := by
  show (if (fitI ((n : Nat) : Int) && szOk ((n : Nat) : Int).toNat) = true then some (rngL 0 1 ((n : Nat) : Int).toNat) else none) = _
  rw [Int.toNat_natCast, fit_of (by omega) (by omega), szOk_of h]
  show some (rngL 0 1 n) = _
  unfold rngL
  congr 1
  refine List.map_congr_left fun i _ => ?_
  congr 1
  omega
end
end GG
namespace GG
theorem tab_c {α : Type} {c c' : PySem.Str} {d d' : α} {r : List (PySem.Str × α)} (h : List.lookup c ((c', d') :: r) = some d) : (c = c' ∧ d' = d) ∨ List.lookup c r = some d := by
  rw [List.lookup_cons] at h
  cases e : (c == c') with
  | true => rw [e] at h; exact .inl ⟨by simpa using e, Option.some.inj h⟩
  | false => rw [e] at h; exact .inr h
theorem tab_nil {α : Type} {c : PySem.Str} {d : α} {p : Prop} (h : List.lookup c ([] : List (PySem.Str × α)) = some d) : p := by cases h
end GG
end

section
set_option linter.all false
set_option maxRecDepth 100000
namespace GG
open PySem PySem.Spec PyProof.Rows L2

/-! ### the order of texts -/
theorem lc_irr : ∀ a : List Nat, ltCps a a = false
  | [] => rfl
  | x :: a => by simp [ltCps, lc_irr a]
theorem lc_trans : ∀ {a b c : List Nat}, ltCps a b = true → ltCps b c = true → ltCps a c = true
  | [], [], _, h, _ => by simp [ltCps] at h
  | [], _ :: _, [], _, h => by simp [ltCps] at h
  | [], _ :: _, _ :: _, _, _ => by simp [ltCps]
  | _ :: _, [], _, h, _ => by simp [ltCps] at h
  | _ :: _, _ :: _, [], _, h => by simp [ltCps] at h
  | x :: a, y :: b, z :: c, h1, h2 => by
    simp only [ltCps, Bool.or_eq_true, Bool.and_eq_true, decide_eq_true_eq, beq_iff_eq] at h1 h2 ⊢
    rcases h1 with h1 | ⟨rfl, h1⟩
    · rcases h2 with h2 | ⟨rfl, h2⟩
      · left; omega
      · left; exact h1
    · rcases h2 with h2 | ⟨rfl, h2⟩
      · left; exact h2
      · right; exact ⟨rfl, lc_trans h1 h2⟩
theorem lc_tri : ∀ {a b : List Nat}, ltCps a b = false → ltCps b a = false → a = b
  | [], [], _, _ => rfl
  | [], _ :: _, h, _ => by simp [ltCps] at h
  | _ :: _, [], _, h => by simp [ltCps] at h
  | x :: a, y :: b, h1, h2 => by
    simp only [ltCps, Bool.or_eq_false_iff, Bool.and_eq_false_iff, decide_eq_false_iff_not, beq_eq_false_iff_ne, ne_eq] at h1 h2
    have e : x = y := by omega
    subst e
    rw [lc_tri (h1.2.resolve_left fun z => z rfl) (h2.2.resolve_left fun z => z rfl)]
def leS (x y : Str) : Prop := ltCps y.cps.toList x.cps.toList = false
theorem leS_trans {x y z : Str} (h1 : leS x y) (h2 : leS y z) : leS x z := by
  unfold leS at *
  cases h : ltCps z.cps.toList x.cps.toList with
  | false => rfl
  | true =>
    cases h3 : ltCps x.cps.toList y.cps.toList with
    | false =>
      have e := lc_tri h3 h1
      rw [e, h2] at h
      cases h
    | true =>
      have := lc_trans h h3
      rw [h2] at this
      cases this
theorem leS_anti {x y : Str} (h1 : leS x y) (h2 : leS y x) : x = y := by
  have e := lc_tri h2 h1
  cases x; cases y
  simp only [Str.mk.injEq]
  exact Array.toList_inj.mp e
theorem leS_total (x y : Str) : leS x y ∨ leS y x := by
  unfold leS
  cases h : ltCps y.cps.toList x.cps.toList with
  | false => exact .inl rfl
  | true =>
    cases h2 : ltCps x.cps.toList y.cps.toList with
    | false => exact .inr rfl
    | true =>
      have := lc_trans h h2
      rw [lc_irr] at this
      cases this
def insS (a : Str) : List Str → List Str
  | [] => [a]
  | b :: r => if ltCps b.cps.toList a.cps.toList then b :: insS a r else a :: b :: r
/-- texts, ascending -/
def srtS (xs : List Str) : List Str := xs.foldr insS []
theorem insS_perm (a : Str) : ∀ xs, (insS a xs).Perm (a :: xs)
  | [] => .refl _
  | b :: r => by
    unfold insS
    split
    · exact ((insS_perm a r).cons b).trans (List.Perm.swap a b r)
    · exact .refl _
theorem srtS_perm : ∀ xs, (srtS xs).Perm xs
  | [] => .refl _
  | a :: xs => (insS_perm a (srtS xs)).trans ((srtS_perm xs).cons a)
theorem insS_up (a : Str) : ∀ {xs : List Str}, xs.Pairwise leS → (insS a xs).Pairwise leS
  | [], _ => by simp [insS]
  | b :: r, h => by
    obtain ⟨h1, h2⟩ := List.pairwise_cons.mp h
    unfold insS
    split
    · rename_i hb
      refine List.pairwise_cons.mpr ⟨fun y hy => ?_, insS_up a h2⟩
      rcases List.mem_cons.mp ((insS_perm a r).mem_iff.mp hy) with rfl | hy
      · rcases leS_total b y with z | z
        · exact z
        · unfold leS at z; rw [hb] at z; cases z
      · exact h1 y hy
    · rename_i hb
      have hab : leS a b := by unfold leS; simpa using hb
      refine List.pairwise_cons.mpr ⟨fun y hy => ?_, h⟩
      rcases List.mem_cons.mp hy with rfl | hy
      · exact hab
      · exact leS_trans hab (h1 y hy)
theorem srtS_up : ∀ xs : List Str, (srtS xs).Pairwise leS
  | [] => by simp [srtS]
  | a :: xs => insS_up a (srtS_up xs)
theorem rising_up : ∀ {xs : List Str} {p : Str}, risingS p xs = true → (p :: xs).Pairwise leS
  | [], p, _ => by simp
  | x :: xs, p, h => by
    simp only [risingS, Bool.and_eq_true, Bool.not_eq_true'] at h
    have ih := rising_up h.2
    obtain ⟨h1, _⟩ := List.pairwise_cons.mp ih
    refine List.pairwise_cons.mpr ⟨fun y hy => ?_, ih⟩
    rcases List.mem_cons.mp hy with rfl | hy
    · exact h.1
    · exact leS_trans h.1 (h1 y hy)
theorem up_of {xs : List Str} (h : sortedS xs = true) : xs.Pairwise leS := by
  cases xs with
  | nil => exact .nil
  | cons x r => exact rising_up h
theorem up_uniq : ∀ {xs ys : List Str}, xs.Pairwise leS → ys.Pairwise leS → xs.Perm ys → xs = ys
  | [], _, _, _, p => p.nil_eq
  | x :: xs, [], _, _, p => absurd p.length_eq (by simp)
  | x :: xs, y :: ys, h1, h2, p => by
    obtain ⟨a1, a2⟩ := List.pairwise_cons.mp h1
    obtain ⟨b1, b2⟩ := List.pairwise_cons.mp h2
    have e : x = y := by
      rcases List.mem_cons.mp (p.mem_iff.mp List.mem_cons_self) with e | hx
      · exact e
      · rcases List.mem_cons.mp (p.mem_iff.mpr List.mem_cons_self) with e | hy
        · exact e.symm
        · exact leS_anti (a1 y hy) (b1 x hx)
    subst e
    rw [up_uniq a2 b2 ((List.perm_cons x).mp p)]
theorem srt_of {xs ys : List Str} (h : sortedS xs = true) (p : xs.Perm ys) : xs = srtS ys := up_uniq (up_of h) (srtS_up ys) (p.trans (srtS_perm ys).symm)
theorem srtS_of_perm {xs ys : List Str} (p : xs.Perm ys) : srtS xs = srtS ys := up_uniq (srtS_up xs) (srtS_up ys) ((srtS_perm xs).trans (p.trans (srtS_perm ys).symm))

/-! ### sorted of texts that can be collected -/
section
variable {P : Program} {w : World} {A : Around} {E : Value → Shared → Prop} {s : Shared}
theorem sorted_by {r : Addr} {ss : List Str} {Q : Value → Shared → Prop} (hL : ss.length ≤ sizeLine)
    (col : ∀ R : List Value → Shared → Prop, (∀ (s' : Shared) (vs : List Value) (ss' : List Str), (∀ b o, s.heap.get? b = some o → s'.heap.get? b = some o) → s'.gens = s.gens → s'.os = s.os → s.heap.objs.size ≤ s'.heap.objs.size → StrsAre vs ss' → ss'.Perm ss → R vs s') →
      wpAny (model P w) A.in1 (collect (.ref r)) R E s)
    (hQ : ∀ (s' : Shared) (p : Addr) (out : Array Value) (c : Nat), (∀ b o, s.heap.get? b = some o → s'.heap.get? b = some o) → s'.gens = s.gens → s'.os = s.os → s.heap.objs.size ≤ p → s'.heap.get? p = some (seqObj "list" out c) → StrsAre out.toList (srtS ss) → Q (.ref p) s') :
    wpAny (model P w) A (call (.builtin "sorted") [.ref r]) Q E s := by
  refine Calls.call_function_entry kind_sorted plain_sorted entry_sorted (args_sorted1 _) ?_
  unfold Builtin.«sorted»
  refine wpAny_bind (m := checkCount "sorted" 1 1 _) (wpAny_pure ?_)
  refine wpAny_bind (col _ fun t vs ss' keep g o big are pm => ?_)
  have sz : vs.length ≤ sizeLine := by
    rw [← are.strs] at pm
    have := pm.length_eq
    rw [List.length_map] at this
    omega
  refine wpAny_bind (wpAny_newList ?_ sz)
  have at0 : (t.heap.push (seqObj "list" vs.toArray 0)).get? t.heap.objs.size = some (seqObj "list" vs.toArray 0) := Heap.get?_push_size _ rfl
  refine wpAny_bind (wpAny_holding (wpAny_call_entry slot_list_sort ⟨_, at0, rfl⟩ entry_list_sort (list_sort_treeKAny strKind_oneLt at0 are.keysOf (fun v1 v2 rest e => keyKind_strs (by rw [← e]; exact are)) sz fun st hp hs => ⟨_, rfl, ?_⟩) (args_list_sort _)))
  obtain ⟨s3, h1, h2, h3⟩ := sorted_out_str are hp hs
  obtain ⟨c, hc⟩ := sortedHeap_at (vs := vs) (out := (arrOf st).map (·.2)) at0
  have e3 := srt_of h3 (h2.trans pm)
  rw [e3] at h1
  refine wpAny_pure ⟨_, rfl, hQ _ t.heap.objs.size _ c (fun b u e => ?_) g o big hc h1⟩
  have q := keep b u e
  have lt := Heap.lt_size q
  show (sortedHeap (t.heap.push (seqObj "list" vs.toArray 0)) t.heap.objs.size vs ((arrOf st).map (·.2))).get? b = some u
  rw [sortedHeap_old (Nat.ne_of_lt lt) (by rw [size_push']; exact Nat.lt_succ_of_lt lt)]
  exact Heap.get?_push_of_some _ q
end
end GG
namespace GG
open PySem PySem.Spec PyProof.Rows L2
theorem key_str {x : Str} {v : Value} (h : keyIs (.inr x) v = true) : ∃ t, v = .str x t := by
  have := relV_key h
  exact this
section
variable {P : Program} {w : World} {A : Around} {E : Value → Shared → Prop} {s : Shared}
theorem strs_items {ss : List Str} {acc : List Value} (hl : acc.length = ss.length) (h : ∀ (i : Nat) (v : Value), acc[i]? = some v → ∃ x t, ss[i]? = some x ∧ v = .str x t) : StrsAre acc ss := by
  induction acc generalizing ss with
  | nil => cases ss with
    | nil => exact .nil
    | cons a b => simp at hl
  | cons v acc ih =>
    cases ss with
    | nil => simp at hl
    | cons x ss =>
      obtain ⟨y, t, e, rfl⟩ := h 0 v rfl
      have e : x = y := by simpa using e
      subst e
      exact .cons x t (ih (by simpa using hl) fun i v e => by
        obtain ⟨y, t, e1, e2⟩ := h (i + 1) v (by simpa using e)
        exact ⟨y, t, by simpa using e1, e2⟩)
theorem collect_sz {T : String} {r d : Addr} {n : Nat} {Pv : Nat → Value → Prop} {OK : Heap → Prop} {R : List Value → Shared → Prop} (K : PySem.W.KdlSrc P w T r d n Pv OK) (hh : A.handled = none) (hok : OK s.heap) (hn : n ≤ sizeLine)
    (go : ∀ (h' : Heap) (tk : Nat) (acc : Array Value), (∀ b o, s.heap.get? b = some o → h'.get? b = some o) → s.heap.objs.size ≤ h'.objs.size → ItemsOf Pv acc n → R acc.toList { s with heap := h', toks := tk }) :
    wpAny (model P w) A (collect (.ref r)) R E s := by
  obtain ⟨l1, l2⟩ := K.there _ hok
  unfold collect
  refine wpAny_bind (wpAny_runValue (codeAny_builtin entry_proto_collect' ?_))
  rw [Around.under_plainId PySem.F.plain_proto_collect _]
  show wpAny _ A.in1 (newList [] >>= fun l => again (.builtin "list.__iadd__" ⟨[l, .ref r], []⟩)) _ _ s
  refine wpAny_bind (wpAny_newObj_type ?_)
  refine wpAny_pure ⟨plainId_quiet PySem.F.plain_list_iadd _, codeAny_builtin entry_list_iadd' ?_⟩
  rw [Around.under_plainId PySem.F.plain_list_iadd _]
  have new0 : (s.heap.push { cls := .type "list", data := .seq ([] : List Value).toArray }).get? s.heap.objs.size = some { cls := .type "list", data := .seq #[] } := Heap.get?_push_size _ rfl
  show wpAny _ A.in1 (Builtin.List.listExtendWith (.ref s.heap.objs.size) (.ref r) (.ref s.heap.objs.size)) _ _ _
  have run := PySem.W.kdl_extend (A := A) (s := { s with heap := s.heap.push { cls := .type "list", data := .seq ([] : List Value).toArray } })
    (R := fun (q : Result) (t : Shared) => ∃ (h' : Heap) (tk : Nat) (acc : Array Value) (c : Nat), q = .ok (.ret (.ref s.heap.objs.size)) ∧ t = { s with heap := h', toks := tk } ∧
      (∀ b o, s.heap.get? b = some o → h'.get? b = some o) ∧ h'.get? s.heap.objs.size = some { cls := .type "list", dict := none, data := .seq acc c, slots := #[] } ∧ ItemsOf Pv acc n)
    K hh (K.keep _ _ hok fun b _ o e => Heap.get?_push_of_some _ e) s.heap.objs.size (Nat.ne_of_gt l1) (Nat.ne_of_gt l2) (.ref s.heap.objs.size) 0 new0
    (fun h' tk acc c k at' its => ⟨h', tk, acc, c, rfl, rfl, fun b o e => k b o (Nat.ne_of_lt (Heap.lt_size e)) (Heap.get?_push_of_some _ e), at', its⟩) hn
  have last : ∀ {h' : Heap} {tk : Nat} {acc : Array Value} {c : Nat}, (∀ b o, s.heap.get? b = some o → h'.get? b = some o) → h'.get? s.heap.objs.size = some { cls := .type "list", dict := none, data := .seq acc c, slots := #[] } → ItemsOf Pv acc n → R acc.toList { s with heap := h', toks := tk } :=
    fun k at' its => go _ _ _ k (Nat.le_of_lt (Heap.lt_size at')) its
  refine wpAny_mono run (fun fin t x => ?_) fun e t x => ?_
  · cases fin with
    | done f =>
      obtain ⟨h', tk, acc, c, e, rfl, k, at', its⟩ := x
      cases e
      show wpAny _ A (load s.heap.objs.size >>= _) _ _ _
      refine wpAny_bind (wpAny_load at' ?_)
      exact wpAny_pure (last k at' its)
    | again c1 =>
      refine ⟨x.1, codeAny_mono x.2 fun q t2 y => ?_⟩
      obtain ⟨h', tk, acc, c, rfl, rfl, k, at', its⟩ := y
      show wpAny _ A (load s.heap.objs.size >>= _) _ _ _
      refine wpAny_bind (wpAny_load at' ?_)
      exact wpAny_pure (last k at' its)
  · obtain ⟨_, _, _, _, e', _⟩ := x
    cases e'
theorem sorted_dict {d : Addr} {kvs : List (L2.Key × Value)} {ss : List Str} {Q : Value → Shared → Prop} (hh : A.handled = none) (lo : (d == sysModules) = false) (hd : s.heap.DictOf (mixKind P w) d kvs) (hk : kvs.map (·.1) = ss.map Sum.inr) (hL : ss.length ≤ sizeLine)
    (hQ : ∀ (s' : Shared) (p : Addr) (out : Array Value) (c : Nat), (∀ b o, s.heap.get? b = some o → s'.heap.get? b = some o) → s'.gens = s.gens → s'.os = s.os → s.heap.objs.size ≤ p → s'.heap.get? p = some (seqObj "list" out c) → StrsAre out.toList (srtS ss) → Q (.ref p) s') :
    wpAny (model P w) A (call (.builtin "sorted") [.ref d]) Q E s := by
  refine sorted_by hL (fun R go => ?_) hQ
  obtain ⟨ep, hat⟩ := hd.dictAt
  have ln : kvs.length = ss.length := by
    have := congrArg List.length hk
    simpa using this
  refine collect_sz (A := A.in1) (PySem.W.kdl_dict (knd := mixKind P w) (kvs := kvs) (ep := ep) lo) (by simp [hh]) hat (by omega) fun h' tk acc keep sz its => ?_
  refine go _ _ ss keep rfl rfl sz (strs_items (by rw [Array.length_toList, its.1, ln]) fun i v e => ?_) (.refl _)
  · obtain ⟨k, x, h1, h2⟩ := its.2 i v (by rw [← Array.getElem?_toList]; exact e)
    have hki : (kvs.map (·.1))[i]? = some k := by rw [List.getElem?_map, h1]; rfl
    rw [hk, List.getElem?_map] at hki
    obtain ⟨z, h3, rfl⟩ := Option.map_eq_some_iff.mp hki
    obtain ⟨t, rfl⟩ := key_str h2
    exact ⟨z, t, h3, rfl⟩

/-! sets of texts -/
open PySem.Froz (TxOk addTx SD add_ok tailTx sObj add_x)
/-- the payload of a set of texts, such that it can be walked -/
structure TxR (P : Program) (w : World) (D : SD) (l : List Str) : Prop where
  ok : TxOk P w D l
  nd : l.Nodup
  ris : Ris D.2.2.place.toList
  led : w.params.followText "set-order" = true ∨ D.2.2.led = true
theorem tailTx_ris {ep : Nat} {es1 : Array (Int × Value)} {t2 : SetTable} {b : Bool} (h : Ris t2.place.toList) : Ris (tailTx ep es1 t2 b).2.2.place.toList := by
  unfold tailTx
  split
  · exact relayAll_ris _ _ _
  · exact h
theorem tailTx_led {ep : Nat} {es1 : Array (Int × Value)} {t2 : SetTable} {b : Bool} (h : t2.led = true) : (tailTx ep es1 t2 b).2.2.led = true := by
  unfold tailTx
  split
  · show (relayAll _ _ _).2.1.led = true
    rw [relayAll_led]
    exact h
  · exact h
theorem off_ris {t : SetTable} {c : Prop} [Decidable c] (h : Ris t.place.toList) : Ris (if c then { t with plain := false } else t).place.toList := by
  split <;> exact h
theorem off_led {t : SetTable} {c : Prop} [Decidable c] (h : t.led = true) : (if c then { t with plain := false } else t).led = true := by
  split <;> exact h
theorem TxR.add {D : SD} {l : List Str} {k : Str} (u : Tok) (F : TxR P w D l) (hk : k ∉ l) : TxR P w (addTx (hashStr w k) (.str k u) D) (k :: l) :=
  ⟨add_ok u F.ok, List.nodup_cons.mpr ⟨hk, F.nd⟩, tailTx_ris (off_ris (layNew_ris D.2.2 D.1 (hashStr w k) (.str k u) F.ris)), F.led.imp id fun z => tailTx_led (off_led ((layNew_led D.2.2 D.1 (hashStr w k) (.str k u)).trans z))⟩
/-- adding what is there -/
theorem add_same {a : Addr} {D : SD} {l : List Str} {k : Str} {u : Tok} {Q : Bool → Shared → Prop} (ho : s.heap.get? a = some (sObj "set" D)) (F : TxOk P w D l) (hk : k ∈ l) (hb : l.length + 1 < scanBound)
    (h : Q false s) : wpAny (model P w) A (setAddHashed a (.str k u) (hashStr w k)) Q E s := by
  obtain ⟨es, ep, t⟩ := D
  have hd : (sObj "set" (es, ep, t)).data = .set es ep t := rfl
  have hf : t.fits es.size = true := F.fit
  have hel : ElemsOf (strKind P w) es.toList := F.el
  have hsz : es.size = l.length := F.sz
  have hkey : (strKind P w).is k (.str k u) = true := PySem.Froz.is_str k u
  obtain ⟨e, he, hp⟩ := (F.mem k).mp hk
  have hsome : ∃ j, List.findIdx? (fun e => (strKind P w).is k e.2) es.toList = some j := by
    cases hr : List.findIdx? (fun e => (strKind P w).is k e.2) es.toList with
    | some j => exact ⟨j, rfl⟩
    | none =>
      have c := List.findIdx?_eq_none_iff.mp hr e he
      rw [hp] at c
      cases c
  obtain ⟨j, hj⟩ := hsome
  unfold setAddHashed setAddHashedIn
  refine wpAny_holding (wpAny_bind (wpAny_setState_of ho hd hf ?_))
  dsimp only
  rw [byScan_of rfl (by omega) hel]
  simp only [↓reduceIte]
  unfold setAddByScan
  refine wpAny_bind ?_
  refine wpAny_bind (wpAny_rule ?_)
  refine wpAny_bind (wpAny_setScan_of (knd := strKind P w) (k := k) hkey ho hd hf hel ?_)
  rw [hj]
  dsimp only
  exact wpAny_pure (wpAny_pure h)
theorem tx_fill {I : Addr} {fp wr : List Addr} {G : Array GenState → Array GenState → Prop} {n : Nat} {Pv : Nat → Value → Prop} {St : Nat → Shared → Prop} {R : Result → Shared → Prop}
    (W : WalksS P w A.in1 I fp wr G n Pv St) (S : Addr) (hS : S ∉ fp) (ss : List Str) (hn : n = ss.length) (hb : ss.length + 1 < scanBound)
    (val : ∀ i v, Pv i v → ∃ k t, ss[i]? = some k ∧ v = Value.str k t) :
    ∀ (d i : Nat) (s : Shared), n - i = d → i ≤ n → St i s → (∃ D l, s.heap.get? S = some (sObj "set" D) ∧ TxR P w D l ∧ l.Perm (uq (ss.take i))) →
      (∀ t D l, Moved (S :: wr) G s t → t.heap.get? S = some (sObj "set" D) → TxR P w D l → l.Perm (uq ss) → R (.ok (.ret .none)) t) →
      codeAny (model P w) A (.builtin "set.update.loop" ⟨[.ref S, .ref I], []⟩) R s := by
  have notW : S ∉ wr := fun h => hS (W.sub _ h)
  have wid : ∀ b ∈ wr, b ∈ S :: wr := fun b h => .tail _ h
  intro d
  induction d with
  | zero =>
    intro i s hd hi hst ⟨D, l, ho, Fx, pm⟩ hR
    have hin : i = n := Nat.le_antisymm hi (Nat.le_of_sub_eq_zero hd)
    subst hin
    refine codeAny_builtin F.entry_set_update_loop ?_
    rw [Around.under_plainId F.plain_set_update_loop _]
    show wpAny _ A.in1 (_ >>= _) _ _ s
    refine wpAny_bind (W.done s _ _ hst fun t hm => ?_)
    rw [List.take_of_length_le (by omega)] at pm
    exact wpAny_pure (hR t D l (hm.mono wid) (hm.heap S _ notW ho) Fx pm)
  | succ d ih =>
    intro i s hd hi hst ⟨D, l, ho, Fx, pm⟩ hR
    have hlt : i < n := by omega
    refine codeAny_builtin F.entry_set_update_loop ?_
    rw [Around.under_plainId F.plain_set_update_loop _]
    show wpAny _ A.in1 (_ >>= _) _ _ s
    refine wpAny_bind (W.item i s _ _ hlt hst fun v t hP hst' hm => ?_)
    obtain ⟨k, tk, hk, rfl⟩ := val i v hP
    have ho' : t.heap.get? S = some (sObj "set" D) := hm.heap S _ notW ho
    have small : l.length ≤ i := by
      rw [pm.length_eq]
      exact Nat.le_trans (uq_le _ _ rfl) (by simp; omega)
    have tke : ss.take (i + 1) = ss.take i ++ [k] := by rw [List.take_add_one, hk]; rfl
    have up : ∀ {b o}, b ∈ fp → t.heap.get? b = some o → ∀ {Y : Obj}, (t.heap.update S (fun _ => Y)).get? b = some o := fun {b o} hb e {Y} => by
      rw [Heap.get?_update_other _ _ (fun z : S = b => hS (z ▸ hb))]
      exact e
    show wpAny _ A.in1 (holding [.str k tk] (setAdd S (.str k tk)) >>= _) _ _ t
    refine wpAny_bind (wpAny_holding ?_)
    unfold setAdd
    refine wpAny_holding (wpAny_bind ((strKind P w).pyHash (PySem.Froz.is_str k tk) ?_))
    have plain := plainId_quiet F.plain_set_update_loop
    by_cases hin : k ∈ l
    · refine add_same (s := { t with toks := t.toks + 1 }) (a := S) ho' Fx.ok hin (by omega) ?_
      have pm2 : l.Perm (uq (ss.take (i + 1))) := by
        rw [tke, uq_snoc, if_pos (pm.mem_iff.mp hin)]
        exact pm
      refine wpAny_pure ⟨plain _, ih (i + 1) _ (by omega) hlt (W.frame _ t _ _ hst' (Nat.le_succ _) fun b hb o e => e) ⟨D, l, ho', Fx, pm2⟩ fun t2 D2 l2 hm2 => hR t2 D2 l2 (Moved.trans W.gtrans ((hm.mono wid).then_heap (Nat.le_succ _) fun b o hb e => e) hm2)⟩
    · refine PySem.Froz.add_x (s := { t with toks := t.toks + 1 }) (a := S) (T := "set") ho' Fx.ok hin (by omega) ?_
      have pm2 : (k :: l).Perm (uq (ss.take (i + 1))) := by
        rw [tke, uq_snoc, if_neg fun z => hin (pm.mem_iff.mpr z)]
        exact (pm.cons k).trans (List.perm_append_singleton _ _).symm
      have at2 : (t.heap.update S (fun _ => sObj "set" (addTx (hashStr w k) (.str k tk) D))).get? S = some (sObj "set" (addTx (hashStr w k) (.str k tk) D)) := PySem.Froz.get_upd _ ho' rfl
      refine wpAny_pure ⟨plain _, ih (i + 1) _ (by omega) hlt (W.frame _ t _ _ hst' (Nat.le_succ _) fun b hb o e => up hb e) ⟨_, k :: l, at2, Fx.add tk hin, pm2⟩ fun t2 D2 l2 hm2 => hR t2 D2 l2 (Moved.trans W.gtrans ((hm.mono wid).then_heap (Nat.le_succ _) fun b o hb e => ?_) hm2)⟩
      rw [Heap.get?_update_other _ _ (fun z : S = b => hb (z ▸ List.mem_cons_self))]
      exact e
theorem perm_sub {α : Type} [DecidableEq α] : ∀ {l r : List α}, l.Nodup → (∀ x ∈ l, x ∈ r) → r.length = l.length → l.Perm r
  | [], r, _, _, e => by
    have : r = [] := List.length_eq_zero_iff.mp e
    subst this
    exact .refl _
  | a :: l, r, h1, h2, e => by
    obtain ⟨n1, n2⟩ := List.nodup_cons.mp h1
    have ha := h2 a List.mem_cons_self
    have pr : r.Perm (a :: r.erase a) := List.perm_cons_erase ha
    have le : (r.erase a).length = l.length := by
      have := pr.length_eq
      rw [List.length_cons] at this e
      omega
    refine ((perm_sub (r := r.erase a) n2 (fun x hx => ?_) le).cons a).trans pr.symm
    have hr := pr.mem_iff.mp (h2 x (.tail _ hx))
    rcases List.mem_cons.mp hr with rfl | hr
    · exact absurd hx n1
    · exact hr
theorem tx_strs {D : SD} {l : List Str} (F : TxR P w D l) {vs : List Value} (pv : vs.Perm (D.1.toList.map (·.2))) : ∃ ss', StrsAre vs ss' ∧ ss'.Perm l := by
  have isv : ∀ v ∈ vs, ∃ x t, v = .str x t := fun v hv => by
    obtain ⟨e, he, rfl⟩ := List.mem_map.mp (pv.mem_iff.mp hv)
    obtain ⟨⟨k, hk, _⟩, _⟩ := F.ok.el e he
    obtain ⟨t, ht⟩ := Value.isStrOf_shape hk
    exact ⟨k, t, ht⟩
  refine ⟨vs.map PyProof.Rows.strOf, strsAre_map vs isv, (perm_sub F.nd (fun x hx => ?_) ?_).symm⟩
  · obtain ⟨e, he, hk⟩ := (F.ok.mem x).mp hx
    obtain ⟨t, ht⟩ := Value.isStrOf_shape hk
    exact List.mem_map.mpr ⟨e.2, pv.mem_iff.mpr (List.mem_map_of_mem he), by rw [ht]; rfl⟩
  · rw [List.length_map, pv.length_eq, List.length_map, Array.length_toList]
    exact F.ok.sz
theorem set_strs {l : Addr} {its : List Value} {ss : List Str} {Q : Value → Shared → Prop} (hh : A.handled = none) (hl : s.heap.IsList l its.toArray ∨ s.heap.IsTuple l its.toArray) (r : Vals (ss.map V.str) its) (hb : ss.length + 1 < scanBound)
    (h : ∀ (h' : Heap) (tk : Nat) (D : SD) (u : List Str), h'.get? s.heap.objs.size = some (sObj "set" D) → TxR P w D u → u.Perm (uq ss) →
      (∀ b o, s.heap.get? b = some o → h'.get? b = some o) → Q (.ref s.heap.objs.size) { s with heap := h', toks := tk }) :
    wpAny (model P w) A (call (.type "set") [.ref l]) Q E s := by
  have hn : its.toArray.size = ss.length := by rw [List.size_toArray, ← r.length, List.length_map]
  have z1 : (s.heap.push (bareSet w)).objs.size = s.heap.objs.size + 1 := Heap.size_push ..
  have hh3 : A.in1.in1.in1.handled = none := by simp [hh]
  have val : ∀ i v, its.toArray[i]? = some v → ∃ (k : Str) (t : Tok), ss[i]? = some k ∧ v = Value.str k t := fun i v e => by
    have hi : i < ss.length := by
      rw [← hn]
      exact (Array.getElem?_eq_some_iff.mp e).1
    obtain ⟨u, e1, q⟩ := r.get (i := i) (x := V.str ss[i]) (by simp [hi])
    rw [show its.toArray[i]? = its[i]? by simp, e1] at e
    cases e
    obtain ⟨t, rfl⟩ := q
    exact ⟨ss[i], t, List.getElem?_eq_getElem hi, rfl⟩
  have ne3 : ∀ {b c d : Addr}, @Ne Nat b c → @Ne Nat b d → b ∉ [c, d] := fun h1 h2 m => by
    rcases List.mem_cons.mp m with q | m
    · exact h1 q
    rcases List.mem_cons.mp m with q | m
    · exact h2 q
    · cases m
  have fin : ∀ {IT : String} {Pv : Nat → Value → Prop} {St : Nat → Shared → Prop} (W : WalksS P w A.in1.in1.in1 (s.heap.push (bareSet w)).objs.size [(s.heap.push (bareSet w)).objs.size, l] [(s.heap.push (bareSet w)).objs.size] (fun a b => b = a) its.toArray.size Pv St),
      @LT.lt Nat _ l s.heap.objs.size → (∀ i v, Pv i v → ∃ (k : Str) (t : Tok), ss[i]? = some k ∧ v = Value.str k t) → St 0 { s with heap := (s.heap.push (bareSet w)).push (itObj IT l) } →
      codeAny (model P w) A.in1.in1 (.builtin "set.update.loop" ⟨[.ref s.heap.objs.size, .ref (s.heap.push (bareSet w)).objs.size], []⟩)
        (fun r s' => r = .ok (.ret .none) ∧ Q (.ref s.heap.objs.size) s') { s with heap := (s.heap.push (bareSet w)).push (itObj IT l) } := fun {IT Pv St} W hlt val st => by
    have g0 : ((s.heap.push (bareSet w)).push (itObj IT l)).get? s.heap.objs.size = some (bareSet w) := Heap.get?_push_of_some _ (Heap.get?_push_size _ rfl)
    refine tx_fill W s.heap.objs.size (by rw [z1]; exact ne3 (by omega) (by omega)) ss hn hb val (its.toArray.size - 0) 0 _ rfl (Nat.zero_le _) st ⟨(#[], 0, .fresh 0 0 (!w.params.followText "set-order")), [], g0, ⟨PySem.Froz.TxOk.nil (by rfl), .nil, ?_, ?_⟩, by rw [List.take_zero]; exact .refl _⟩ fun t D u hm hD F pm => ?_
    · show Ris ([] : List Nat)
      exact .nil
    · cases hf : w.params.followText "set-order" with
      | true => exact .inl rfl
      | false => exact .inr rfl
    · obtain ⟨h', g', d', tk', os'⟩ := t
      have eg : g' = s.gens := hm.gens
      have ed : d' = s.drawn := hm.drawn
      have eo : os' = s.os := hm.os
      subst eg ed eo
      refine ⟨rfl, h h' tk' D u hD F pm fun b o e => hm.heap b o ?_ (Heap.get?_push_of_some _ (Heap.get?_push_of_some _ e))⟩
      have : @LT.lt Nat _ b s.heap.objs.size := Heap.lt_size e
      rw [z1]
      exact ne3 (by omega) (by omega)
  rcases hl with hl | hl
  · obtain ⟨o, ho, -⟩ := id hl
    have hlt : @LT.lt Nat _ l s.heap.objs.size := Heap.lt_size ho
    have ne : l ≠ (s.heap.push (bareSet w)).objs.size := by rw [z1]; exact fun e => Nat.ne_of_lt (Nat.lt_succ_of_lt hlt) e
    exact set_road_l hl (fin (IT := "list_iterator") ((Walks.list hh3 _ l ne its.toArray).toS) hlt val ⟨⟨_, Heap.get?_push_size _ rfl, rfl, rfl⟩, (hl.push _).push _⟩)
  · obtain ⟨o, ho, -⟩ := id hl
    have hlt : @LT.lt Nat _ l s.heap.objs.size := Heap.lt_size ho
    have ne : l ≠ (s.heap.push (bareSet w)).objs.size := by rw [z1]; exact fun e => Nat.ne_of_lt (Nat.lt_succ_of_lt hlt) e
    exact set_road_t hl (fin (IT := "tuple_iterator") ((Walks.tuple hh3 _ l ne its.toArray).toS) hlt val ⟨⟨_, Heap.get?_push_size _ rfl, rfl, rfl⟩, (hl.push _).push _⟩)
theorem sorted_tx {a : Addr} {D : SD} {u ss : List Str} {Q : Value → Shared → Prop} (hh : A.handled = none) (ho : s.heap.get? a = some (sObj "set" D)) (F : TxR P w D u) (pm : u.Perm (uq ss)) (hL : ss.length + 1 < scanBound)
    (hQ : ∀ (s' : Shared) (p : Addr) (out : Array Value) (c : Nat), (∀ b o, s.heap.get? b = some o → s'.heap.get? b = some o) → s'.gens = s.gens → s'.os = s.os → s.heap.objs.size ≤ p → s'.heap.get? p = some (seqObj "list" out c) → StrsAre out.toList (srtS (uq ss)) → Q (.ref p) s') :
    wpAny (model P w) A (call (.builtin "sorted") [.ref a]) Q E s := by
  have few : (uq ss).length ≤ ss.length := uq_le _ _ rfl
  have c9 : scanBound = 4096 := rfl
  have ln := pm.length_eq
  have sz := F.ok.sz
  refine sorted_by (by rw [sizeLine_eq]; omega) (fun R go => ?_) hQ
  refine collect_set (A := A.in1) (a := a) (es := D.1) (ep := D.2.1) (t := D.2.2) (by simp [hh]) ⟨_, ho, rfl, rfl⟩ F.ok.fit (by omega) F.ris F.led fun s' out keep big g o pv => ?_
  obtain ⟨ss', h1, h2⟩ := tx_strs F pv
  exact go s' out ss' keep g o big h1 (h2.trans pm)
end
end GG
end

section
set_option linter.all false
set_option maxRecDepth 100000
namespace GG
open PySem PySem.Spec PyProof.Rows L2

/-! ### sorted(d), sorted(set(xs)) of texts -/
section
variable {X : Cx}
theorem vals_strs {vs : List Value} {ss : List Str} (h : StrsAre vs ss) : Vals (ss.map V.str) vs := by
  induction h with
  | nil => exact .nil
  | cons x t _ ih => exact .cons ⟨t, rfl⟩ ih
/-- the list that sorted gives, laid -/
theorem srt_laid {pins : List (Addr × Obj)} {σ : L2.St} {H1 : Hp} {s2 s' : Shared} {p : Addr} {out : Array Value} {c : Nat} {ss : List Str} {Q : VK} (I2 : Inv X pins σ H1 s2) (hz : ss.length ≤ sizeLine) (k : ∀ b o, s2.heap.get? b = some o → s'.heap.get? b = some o) (g : s'.gens = s2.gens) (o : s'.os = s2.os) (hp : s2.heap.objs.size ≤ p)
    (hg : s'.heap.get? p = some (seqObj "list" out c)) (hi : StrsAre out.toList ss) (q1 : ∀ p, H1 p = none → Q (.ref p) (upd H1 p (.lst (ss.map V.str)))) : EP X pins σ Q (.ref p) s' := by
  have small : (ss.map V.str).length ≤ sizeLine := by rw [List.length_map]; exact hz
  have fresh : H1 p = none := I2.hok.fresh hp
  have J : Inv X pins σ (upd H1 p (.lst (ss.map V.str))) { s2 with heap := s'.heap, gens := s'.gens, drawn := s'.drawn, toks := s'.toks } :=
    I2.call (ch := []) (Un.laid k hp fresh) (I2.hok.laid k hp ⟨small, out.toList, c, vals_strs hi, hg⟩) (by rw [g]; exact I2.bare) (fun _ z => nomatch z)
  have e : s' = { s2 with heap := s'.heap, gens := s'.gens, drawn := s'.drawn, toks := s'.toks } := by
    cases s'
    cases s2
    cases o
    rfl
  rw [e]
  exact ⟨.ref p, _, J, rfl, q1 p fresh⟩
def tSrt (ta : TE) : TE := fun σ H Q => ta σ H fun x H1 => ∃ d, ∃ kvs : List (L2.Key × V), ∃ ss : List Str, x = .ref d ∧ (Rd H1 d (.dK kvs) ∨ (Rd H1 d (.dT []) ∧ kvs = [])) ∧ kvs.map (·.1) = ss.map Sum.inr ∧ ∀ p, H1 p = none → Q (.ref p) (upd H1 p (.lst ((srtS ss).map V.str)))
theorem kv_keys {kvs : List (L2.Key × V)} {vs : List (L2.Key × Value)} (h : KV kvs vs) : vs.map (·.1) = kvs.map (·.1) := by
  induction h with
  | nil => rfl
  | cons h _ ih => rw [List.map_cons, List.map_cons, ih, h.1]
theorem pe_srt {a : Expr} {ta : TE} {p pos : Pos} (hc : X.calm = true) (hg : Gl X "sorted") (hm : X.mg "sorted" = none) (ha : PE X a ta) (na : starEach [a] X.env = [(false, eval a X.env)]) : PE X (.Call (.Name "sorted" p) [a] [] pos) (tSrt ta) := by
  refine ⟨fun pins s σ H Q I h => Call_ (ld_blt I hg hm boot_srt (PyProof.Rows.callWith_builtin1 (PyProof.Rows.args_cons (thn (ha.run pins s σ H _ I h) fun v s1 ⟨x, H1, I1, r1, q1⟩ => PyProof.Rows.args_nil ?_) na) na rfl))⟩
  obtain ⟨d, kvs, ss, rfl, hd, hk, q1⟩ := q1
  cases r1
  have ln : kvs.length = ss.length := by
    have := congrArg List.length hk
    simpa using this
  rcases hd with hd | ⟨hd, rfl⟩
  · obtain ⟨sz, lo, vs, kv, dd⟩ := dk_rd I1.hok hd
    exact sorted_dict (ss := ss) (I1.ok.hd hc) lo dd (by rw [kv_keys kv, hk]) (by omega) fun s' p out c k g o hp hg hi => srt_laid I1 (by rw [(srtS_perm ss).length_eq]; omega) k g o hp hg hi q1
  · obtain ⟨lo, dd⟩ := dtK I1.hok hd
    have e0 : ss = [] := List.length_eq_zero_iff.mp (by simpa using ln.symm)
    subst e0
    exact sorted_dict (ss := []) (I1.ok.hd hc) lo dd rfl (Nat.zero_le _) fun s' p out c k g o hp hg hi => srt_laid I1 (Nat.zero_le _) k g o hp hg hi q1
def tSTx (K : PySem.W.Frag) (ta : TE) : TE := fun σ H Q => ta σ H fun x H1 => ∃ l, ∃ ss : List Str, x = .ref l ∧ (SqL K H1 l (ss.map V.str) ∨ SqT K H1 l (ss.map V.str)) ∧ ss.length + 1 < scanBound ∧
  ∀ p, H1 p = none → Q (.ref p) (upd H1 p (.lst ((srtS (uq ss)).map V.str)))
theorem pe_stx {a : Expr} {ta : TE} {p p2 q pos : Pos} (hc : X.calm = true) (hg : Gl X "sorted") (hm : X.mg "sorted" = none) (hg2 : Gl X "set") (hm2 : X.mg "set" = none) (ha : PE X a ta)
    (na : starEach [a] X.env = [(false, eval a X.env)]) : PE X (.Call (.Name "sorted" p) [.Call (.Name "set" p2) [a] [] q] [] pos) (tSTx X.K ta) := by
  refine ⟨fun pins s σ H Q I h => Call_ (ld_blt I hg hm boot_srt (PyProof.Rows.callWith_builtin1 (PyProof.Rows.args_cons ?_ rfl) rfl rfl))⟩
  refine Call_ (ld_blt I hg2 hm2 boot_set (PyProof.Rows.callWith_type1 (PyProof.Rows.args_cons (thn (ha.run pins s σ H _ I h) fun v s1 ⟨x, H1, I1, r1, q1⟩ => PyProof.Rows.args_nil ?_) na) na rfl))
  obtain ⟨l, ss, rfl, hq, hb, q1⟩ := q1
  cases r1
  obtain ⟨its, r, hl⟩ : ∃ its : List Value, Vals (ss.map V.str) its ∧ (s1.heap.IsList l its.toArray ∨ s1.heap.IsTuple l its.toArray) := by
    rcases hq with hq | hq
    · obtain ⟨its, r, pl, -⟩ := I1.list hq
      exact ⟨its, r, .inl pl.isList⟩
    · obtain ⟨its, r, pl, -⟩ := I1.tuple hq
      exact ⟨its, r, .inr pl⟩
  refine set_strs (I1.ok.hd hc) hl r hb fun h' tk D u hD F pm hk => PyProof.Rows.args_nil ?_
  have I2 : Inv X pins σ H1 { s1 with heap := h', toks := tk } := I1.kept fun b o e => hk b o e
  have few : (uq ss).length ≤ ss.length := uq_le _ _ rfl
  have c9 : scanBound = 4096 := rfl
  exact sorted_tx (I2.ok.hd hc) hD F pm hb fun s' p out c k g o hp hg hi => srt_laid I2 (by rw [(srtS_perm _).length_eq, sizeLine_eq]; omega) k g o hp hg hi q1
end
def keysS : List KK → Option (List Str)
  | [] => some []
  | .k (.inr x) :: ks => (keysS ks).map (x :: ·)
  | _ => none
theorem keysS_eq : ∀ {ks : List KK} {ss : List Str}, keysS ks = some ss → ks = ss.map fun x => KK.k (.inr x)
  | [], _, e => by cases e; rfl
  | .k (.inr x) :: ks, _, e => by
    simp only [keysS, Option.map_eq_some_iff] at e
    obtain ⟨r, e, rfl⟩ := e
    rw [keysS_eq e]; rfl
  | .k (.inl _) :: _, _, e => by cases e
  | .t _ :: _, _, e => by cases e
theorem repL_strs {w : Wd} {g : Gh} : ∀ {ns : List Str}, RepL w g (ns.map D.str) (ns.map V.str)
  | [] => .nil
  | n :: ns => .cons (rep_str.mpr rfl) repL_strs
theorem mapK_inj : ∀ {a b : List L2.Key}, a.map KK.k = b.map KK.k → a = b
  | [], [], _ => rfl
  | [], _ :: _, h => by simp at h
  | _ :: _, [], h => by simp at h
  | x :: a, y :: b, h => by
    simp only [List.map_cons, List.cons.injEq, KK.k.injEq] at h
    rw [h.1, mapK_inj h.2]
/-- the texts that are the keys of a dict, ascending -/
def srtD : D → Option (List Str)
  | .dic ks _ => (keysS ks).map srtS
  | _ => none
def mSrt (h : HX) : MX := fun ρ S => (h ρ S).bind fun p => (Out.opt ((deref ρ p.2 p.1).bind srtD)).bind fun xs => .ok (.lst (xs.map D.str), p.2)
def srtTxD (d : D) : Option (List Str) := (seqD d).bind fun xs => (strsD xs).bind fun ks => if ks.length + 1 < scanBound then some (srtS (uq ks)) else none
def mSrtTx (h : HX) : MX := fun ρ S => (h ρ S).bind fun p => (Out.opt ((deref ρ p.2 p.1).bind srtTxD)).bind fun xs => .ok (.lst (xs.map D.str), p.2)
section
variable {cl : Wp} {X : Cx} {a : Expr} {ha : HX} {pos p p2 q : Pos}
theorem gm_srtTx (hc : X.calm = true) (hg : Gl X "sorted") (hm : X.mg "sorted" = none) (hg2 : Gl X "set") (hm2 : X.mg "set" = none) (h : GHd cl X a ha) (hs : starEach [a] X.env = [(false, eval a X.env)]) :
    GM cl X (.Call (.Name "sorted" p) [.Call (.Name "set" p2) [a] [] q] [] pos) (mSrtTx ha) := fun W tk =>
  PE.weak (pe_stx hc hg hm hg2 hm2 (h W tk) hs) fun σ H Q ⟨ρ, S, g, sim, c⟩ => Con.fst (R := RH (wd X cl) σ) sim c fun v H1 hd S1 g1 s1 f1 r1 c1 => by
    obtain ⟨xs, e, c2⟩ := c1.opt
    rw [Option.bind_eq_some_iff] at e
    obtain ⟨d, e1, e2⟩ := e
    unfold srtTxD at e2
    rw [Option.bind_eq_some_iff] at e2
    obtain ⟨ys, e5, e6⟩ := e2
    rw [Option.bind_eq_some_iff] at e6
    obtain ⟨ks, e7, e8⟩ := e6
    obtain ⟨l, vs, rfl, hq, hl⟩ := shown_seq s1.st (shown_of s1 r1 e1) e5
    have e9 := strsD_rep e7 hl
    subst e9
    split at e8
    · rename_i hb
      cases e8
      refine ⟨l, ks, rfl, hq, hb, fun p hp => ?_⟩
      obtain ⟨t, f, r⟩ := new_RN (mo := .lst ((srtS (uq ks)).map D.str)) (u := .lst ((srtS (uq ks)).map V.str)) s1.st f1 hp ⟨_, upd_same, repL_strs⟩
      exact c2 _ _ _ t f r
    · cases e8
theorem gm_srt (hc : X.calm = true) (hg : Gl X "sorted") (hm : X.mg "sorted" = none) (h : GHd cl X a ha) (hs : starEach [a] X.env = [(false, eval a X.env)]) :
    GM cl X (.Call (.Name "sorted" p) [a] [] pos) (mSrt ha) := fun W tk =>
  PE.weak (pe_srt hc hg hm (h W tk) hs) fun σ H Q ⟨ρ, S, g, sim, c⟩ => Con.fst (R := RH (wd X cl) σ) sim c fun v H1 hd S1 g1 s1 f1 r1 c1 => by
    obtain ⟨xs, e, c2⟩ := c1.opt
    rw [Option.bind_eq_some_iff] at e
    obtain ⟨d, e1, e2⟩ := e
    have sh := shown_of s1 r1 e1
    cases d <;> first | (cases e2; done) | skip
    rename_i ks ds
    simp only [srtD, Option.map_eq_some_iff] at e2
    obtain ⟨ss, e3, rfl⟩ := e2
    have e4 := keysS_eq e3
    obtain ⟨a, vs, u, rfl, hu, ⟨ln, dc⟩, rl⟩ := sh
    have key : ∃ kvs : List (L2.Key × V), (Rd H1 a (.dK kvs) ∨ (Rd H1 a (.dT []) ∧ kvs = [])) ∧ kvs.map (·.1) = ss.map Sum.inr := by
      rcases dc with ⟨l, h1, rfl⟩ | ⟨l, ln2, h1, rfl⟩
      · refine ⟨l.zip vs, .inl hu, ?_⟩
        have l1 : l.length = vs.length := by rw [← ln, h1, List.length_map]
        rw [List.map_fst_zip (by omega)]
        rw [e4] at h1
        have h2 : (ss.map Sum.inr).map KK.k = l.map KK.k := by rw [List.map_map]; exact h1
        exact (mapK_inj h2).symm
      · rw [e4] at h1
        cases ss with
        | nil =>
          have : l = [] := by simpa using h1.symm
          subst this
          exact ⟨[], .inr ⟨hu, rfl⟩, rfl⟩
        | cons x r =>
          cases l with
          | nil => simp at h1
          | cons y r => simp at h1
    obtain ⟨kvs, k1, k2⟩ := key
    refine ⟨a, kvs, ss, rfl, k1, k2, fun p hp => ?_⟩
    obtain ⟨t, f, r⟩ := new_RN (mo := .lst ((srtS ss).map D.str)) (u := .lst ((srtS ss).map V.str)) s1.st f1 hp ⟨_, upd_same, repL_strs⟩
    exact c2 _ _ _ t f r
end
end GG
end

section
set_option linter.all false
set_option maxRecDepth 100000
namespace GG
open PySem L2
open PyProof.Rows hiding St

/-! ### try .. except X, without a name -/
def fin0 : SOut → SOut
  | .ex _ _ _ _ => .stuck
  | o => o
def catch0 (tab : ETab) (cH : Str) (su : SX) : SOut → SOut
  | .ex c fs ρ S => match tab.lookup c with
    | some l => if l.contains cH then fin0 (su ρ S) else .ex c fs ρ S
    | none => .stuck
  | o => o
def sTry0 (tab : ETab) (cH : Str) (body su : SX) : SX := fun ρ S => catch0 tab cH su (body ρ S)
theorem fin0_ok {w : Wd} {W : WX} {B : Bs} {D : Ends} {o : SOut} (c : ConS w W B D (fin0 o)) : ConS w (fun _ _ _ _ => False) B D o := by
  cases o with
  | ex y fs ρ S => exact c.elim
  | _ => exact c
section
variable {cl : Wp} {X : Cx} {tab : ETab} {pos : Pos}
theorem gs_try0 {cH : Str} {body suite : List Stmt} {b₀ : Stmt} {np pos' : Pos} {db su : SX} {CH : Addr} {lH : List Str} (T : ETabOk X.K X.mg tab) (hs : X.stack = X.env :: X.outer) (hf : X.env.frame = some X.env.locals)
    (hm : X.mg cH = some (.ref CH)) (hlH : tab.lookup cH = some lH) (hc : Names X cH (.ref CH))
    (hb : ∀ (pn : List (Addr × Obj)) (xe : Value → Shared → Prop), GSs cl (X.tr pn xe) body db)
    (hsu : ∀ (a : Addr) (oe : Obj) (pn : List (Addr × Obj)), GSs cl (X.suite a ((a, oe) :: pn)) (b₀ :: suite) su) :
    GS cl X (.Try body [.ExceptHandler (some (.Name cH np)) none (b₀ :: suite) pos'] [] [] pos) (sTry0 tab cH db su) := fun W tk hp => by
  let ts : Addr → Value → Option Addr → TS := fun a cls d D σ H => tS (wd X cl) (fun _ _ _ _ => False) su D σ H
  refine PS.weak (ps_try_only (tb := fun W => tS (wd X cl) W db) (ts := ts) hs hf hc tk (fun W pn xe tk hp => hb pn xe W tk hp) (fun a oe cls d pn hz hv => ⟨fun pins s σ H D I h5 => ?_⟩)) fun D σ H ⟨ρ, S, g, B, sim, o, c⟩ => ⟨ρ, S, g, B, sim, o, ?_⟩
  · exact (hsu a oe pn _ takes_none PassesOwn.never).run pins s σ H D I h5
  · unfold sTry0 at c
    cases e : db ρ S with
    | ex x fs ρ' S' =>
      rw [e] at c
      intro C d σ' g' H' s' o' hmx hx
      have hmx : X.mg x = some (.ref C) := hmx
      cases hl : tab.lookup x with
      | none => simp only [catch0, hl] at c; exact c.elim
      | some l =>
        simp only [catch0, hl] at c
        refine ⟨l.contains cH, (T.two x cH l lH C CH hl hlH hmx hm).2, fun hb a na => ?_, fun hb => ?_⟩
        · rw [hb, if_pos rfl] at c
          exact ⟨ρ', S', g', B, s', o', fin0_ok c⟩
        · rw [hb] at c
          exact c C d σ' g' H' s' o' hmx hx
    | nx ρ' S' => rw [e] at c; exact c
    | rt d S' => rw [e] at c; exact c
    | bk ρ' S' => rw [e] at c; exact c
    | ct ρ' S' => rw [e] at c; exact c
    | stuck => rw [e] at c; exact c
end
end GG
end

section
set_option linter.all false
set_option maxRecDepth 100000
namespace GG
open PySem PySem.Spec PyProof.Rows L2

/-! ### == and != by an own __eq__ -/
/-- what the text must say of a class with an own == -/
structure EqCls (K : PySem.W.Frag) (C f : Addr) : Prop where
  eq : PySem.W.findIn K (.ref C) "__eq__" = some (some (.ref f))
  fn : PySem.W.isFn K (.ref f) = true
  ne : PySem.W.findIn K (.ref C) "__ne__" = some (some (.builtin "object.__ne__"))
  obj : PySem.W.mroIn K C (.type "object") = some true
section
variable {prog : Program} {w : World} {A : Around} {E : Value → Shared → Prop} {s : Shared} {K : PySem.W.Frag} {x C f : Addr} {ox : Obj} {od : Option Obj} {b tb : Value}
theorem ne_entry (X : K.In s.heap) (I : PySem.W.InstAt s.heap x ox C od) (c : EqCls K C f) (hu : A.units < cLine) {Q : Fin → Shared → Prop}
    (h : wpAny (model prog w) A (call (.ref f) [.ref x, b]) (fun v s' => ∃ k, v = .bool k ∧ Q (.done (.ret (.bool (!k)))) s') E s) : wpAny (model prog w) A (Builtin.«object.__ne__» ⟨[.ref x, b], []⟩) Q E s := by
  unfold Builtin.«object.__ne__»
  repeat (first
    | with_reducible refine wpAny_cRoomFor hu ?_
    | (refine wpAny_bind (m := callSpecialIfBound? (.ref x) (Str.ofString "__eq__") [b]) (PySem.W.ifBound_K X I c.eq c.fn (wpAny_mono h (fun r s' hr => by
          obtain ⟨k, rfl, hq⟩ := hr
          repeat (first | exact hq | exact wpAny_pure hq | exact wpAny_truthy_bool hq | (refine wpAny_bind (m := truthy (.bool _)) (wpAny_truthy_bool ?_)) | wp_step)) fun _ _ e => e)))
    | wp_step)
theorem check_slot {id owner n : String} {rest : List Value} {Q : Unit → Shared → Prop} (X : K.In s.heap) (I : PySem.W.InstAt s.heap x ox C od) (hk : builtinKind id = some .slot) (hs : splitId id = some (owner, n))
    (ha : argsOk id ⟨.ref x :: rest, []⟩) (hm : PySem.W.mroIn K C (.type owner) = some true) (hq : Q () s) : wpAny (model prog w) A (checkBuiltinCall id ⟨.ref x :: rest, []⟩) Q E s := by
  simp only [checkBuiltinCall, hk, hs]
  refine wpAny_bind ?_
  unfold isInstance
  refine wpAny_bind (I.type.here ((PySem.W.looks_mroIn X hm).here ?_))
  simp only [Bool.not_true, Bool.false_eq_true, if_false]
  cases hsig : Manifest.signature? id with
  | none => exact wpAny_pure hq
  | some sig =>
    simp only [argsOk, hsig] at ha
    have h2 : Bind.checkArgs id sig ⟨.ref x :: rest, []⟩ = pure () := ha
    show wpAny _ A (Bind.checkArgs id sig ⟨.ref x :: rest, []⟩) Q E _
    rw [h2]
    exact wpAny_pure hq
theorem ne_bound (X : K.In s.heap) (I : PySem.W.InstAt s.heap x ox C od) (c : EqCls K C f) (hu : A.units + 1 < cLine) {Q : Option Value → Shared → Prop}
    (h : wpAny (model prog w) A.in1 (call (.ref f) [.ref x, b]) (fun v s' => ∃ k, v = .bool k ∧ Q (some (.bool (!k))) s') E s) : wpAny (model prog w) A (callSpecialIfBound? (.ref x) "__ne__" [b]) Q E s := by
  have go : wpAny (model prog w) A (call (.builtin "object.__ne__") [.ref x, b]) (fun v => Q (some v)) E s := by
    refine wpAny_call (codeAny_call_builtin F.cmp_object.ne.plain F.cmpEntry_ne (check_slot X I F.cmpKind_ne F.cmpSplit_ne (F.cmpArgs_ne _ _) c.obj (ne_entry (A := A.in1) X I c hu (wpAny_mono h (fun v s' hv => ?_) fun _ _ e => e))))
    obtain ⟨k, rfl, hq⟩ := hv
    first | exact ⟨k, rfl, wpAny_pure hq⟩ | exact ⟨k, rfl, wpAny_pure (wpAny_pure hq)⟩ | exact ⟨k, rfl, hq⟩
  simp only [callSpecialIfBound?, bindSpecialIfBound?]
  refine wpAny_holding (wpAny_bind (wpAny_bind (wpAny_bind (I.type.here ((PySem.W.looks_findIn X c.ne).here ?_)))))
  simp only [F.cmp_object.ne.bind]
  refine wpAny_bind (wpAny_askSetting (wpAny_ite ?_))
  have fin : wpAny (model prog w) A (call (.builtin "object.__ne__") ([.ref x] ++ [b]) >>= fun v => pure (some v)) Q E s := wpAny_bind (wpAny_mono go (fun v s' h' => wpAny_pure h') fun _ _ h' => h')
  split
  · exact wpAny_bind (wpAny_pure (wpAny_pure fin))
  · exact wpAny_tryCatch (wpAny_bind (wpAny_pure (wpAny_pure fin)))
theorem rich_own {neg : Bool} {L : Addr} {h₀ : Heap} {m : Str → Option Value} {Q : Value → Shared → Prop} (hu : A.units + 1 < cLine) (Fr : PyProof.Rows.Fr h₀ L s.heap m) (X₀ : K.In h₀) (I : PySem.W.InstAt s.heap x ox C od) (c : EqCls K C f) (hb : PySem.W.Looks (model prog w) s.heap (typeOf b) tb) (hn : PySem.W.notFirst K C tb = true)
    (h : wpAny (model prog w) (if neg then A.in1 else A) (call (.ref f) [.ref x, b]) (fun v s' => ∃ k, v = .bool k ∧ Q (.bool (if neg then !k else k)) s') E s) : wpAny (model prog w) A (richCompare (if neg then .NotEq else .Eq) (.ref x) b) Q E s := by
  cases neg with
  | false =>
    refine PySem.W.cmp_K (op := .Eq) (by omega) Fr X₀ I hb hn c.eq c.fn (wpAny_mono h (fun v s' hv => ?_) fun _ _ e => e)
    obtain ⟨k, rfl, hq⟩ := hv
    exact hq
  | true =>
    have X := X₀.keeps Fr.keep
    have one : wpAny (model prog w) A (tryCompare (.ref x) "__ne__" b) (fun r s' => ∃ v, r = some v ∧ Q v s') E s := by
      unfold tryCompare
      refine wpAny_bind (ne_bound X I c hu (wpAny_mono h (fun v s' hv => ?_) fun _ _ e => e))
      obtain ⟨k, rfl, hq⟩ := hv
      exact ⟨k, rfl, wpAny_pure ⟨_, rfl, hq⟩⟩
    unfold richCompare
    simp only [PySem.oneThing_ref, if_true]
    refine wpAny_holding (wpAny_bind (wpAny_cRoomFor (by omega) ?_))
    rw [cmpInfo_NotEq]
    dsimp only
    refine wpAny_bind (I.type.here (wpAny_bind (hb.here ?_)))
    split
    · rename_i q
      have e : PySem.W.subIn K tb (.ref C) = some false := by
        rcases Bool.or_eq_true_iff.mp hn with e | e
        · rw [beq_iff_eq.mp e] at q; simp at q
        · exact beq_iff_eq.mp e
      refine wpAny_bind ((PySem.W.looks_subIn X e).here ?_)
      simp only [Bool.false_eq_true, if_false]
      refine wpAny_bind (wpAny_mono one (fun r s' z => ?_) fun _ _ e => e)
      obtain ⟨v, rfl, hq⟩ := z
      exact wpAny_pure hq
    · refine wpAny_bind (wpAny_pure ?_)
      simp only [Bool.false_eq_true, if_false]
      refine wpAny_bind (wpAny_mono one (fun r s' z => ?_) fun _ _ e => e)
      obtain ⟨v, rfl, hq⟩ := z
      exact wpAny_pure hq
end
section
variable {cl : Wp} {X : Cx} {W : WX} {k n : Nat} {f : Addr} {den : Den}
/-- the callee runs, from within a comparison -/
theorem run_at {A : Around} {pins : List (Addr × Obj)} {σ : L2.St} {H : Hp} {s : Shared} {Q : VK} {us : List Value} {vs : List V} {ds : List D} {S : Store} {g : Gh} (F : FX X cl k n f den) (hr : Room k A) (fr : A.frames = X.A.frames) (I : Inv X pins σ H s) (r : Vals vs us)
    (sm : SimS (wd X cl) g H S) (rp : RepL (wd X cl) g ds vs) (c : GG.Con (wd X cl) (fun _ _ _ _ => False) σ (RE (wd X cl)) g H Q (den ds S)) : wpAny (model X.prog X.w) A (call (.ref f) us) (EP X pins σ Q) X.xe s := by
  obtain ⟨fd, ps, F1, h1, h2⟩ := F.ex
  have hsp : spD (wd X cl) n den vs H Q (WE (fun _ _ _ _ => False) σ) := ⟨by rw [← rp.length]; exact F.ar _ _ (con_ns c), ds, S, g, sm, rp, conD_of c⟩
  have e0 : Env0 X.prog X.w X.K X.mg X.base A X.stack s H := by
    have e := I.env0
    exact ⟨by rw [fr]; exact e.frames, e.mod, e.bs, e.bsz, e.funs, e.frf, e.hok, e.bare⟩
  have hl := F1.len _ _ _ _ hsp
  refine wpAny_call (codeAny_mono (F1.run A X.stack s H ⟨us, []⟩ us vs Q (WE (fun _ _ _ _ => False) σ) hr e0 (by
    have := h2 s us I.kIn (by rw [List.append_nil, ← r.length]; exact hl)
    simpa using this) r hsp) fun q s' hq => ?_)
  cases q with
  | error e => exact (passAt takes_none σ) pins H s e s' I hq
  | ok fl =>
    cases fl with
    | ret w => exact I.after hq
    | next => exact False.elim hq
    | brk => exact False.elim hq
    | cont => exact False.elim hq
/-- the classes with an own ==, and what may stand on the right of them -/
structure EqTabOk (P : Program) (w : World) (K : PySem.W.Frag) (mg : Str → Option Value) (base : Heap) (cl : Wp) (k : Nat) (tab : GTab) (nf : List (Str × Str)) : Prop where
  ok : ∀ c den, tab.lookup c = some den → ∃ n f C, mg c = some (.ref C) ∧ EqCls K C f ∧ FnD P w K mg base cl k n f den
  nf : ∀ c d C D, (c, d) ∈ nf → mg c = some (.ref C) → mg d = some (.ref D) → PySem.W.notFirst K C (.ref D) = true
  ns : ∀ c C den, tab.lookup c = some den → mg c = some (.ref C) → PySem.W.notFirst K C (.type "str") = true
def rightOk (nf : List (Str × Str)) (c : Str) : D → Bool
  | .obj d _ _ => nf.contains (c, d)
  | .str _ => true
  | _ => false
def eqOD (tab : GTab) (nf : List (Str × Str)) (neg : Bool) (d1 d2 : D) (S : Store) : Out (D × Store) := match d1 with
  | .obj c fs vs => match tab.lookup c with
    | some den => if rightOk nf c d2 then (den [.obj c fs vs, d2] S).calm.bind fun p => (Out.opt (bD p.1)).bind fun k => .ok (.bl (if neg then !k else k), p.2) else .stuck
    | none => .stuck
  | d => (Out.opt (if neg then neD d d2 else eqD d d2)).bind fun k => .ok (.bl k, S)
def eEqO (tab : GTab) (nf : List (Str × Str)) (neg : Bool) (a b : EX) : EX := fun ρ S => (a ρ S).bind fun p => (b ρ p.2).bind fun q => eqOD tab nf neg p.1 q.1 q.2
def eqOp (neg : Bool) : CmpOp := if neg then .NotEq else .Eq
def rEqO (w : Wd) (tab : GTab) (nf : List (Str × Str)) (neg : Bool) : R2 := fun x y H Q => ∃ d1 d2 g S, SimS w g H S ∧ Rep w g d1 x ∧ Rep w g d2 y ∧ ∀ σ, GG.Con w (fun _ _ _ _ => False) σ (RE w) g H Q (eqOD tab nf neg d1 d2 S)
theorem ok_eqO {tab : GTab} {nf : List (Str × Str)} {neg : Bool} (hu : X.A.units + 64 < cLine) (M : EqTabOk X.prog X.w X.K X.mg X.base cl k tab nf) (hr : Room (k + 1) X.A) : OpR X (compareOp (eqOp neg)) (rEqO (wd X cl) tab nf neg) := by
  intro pins s σ H x y v u Q I rx ry ⟨d1, d2, g, S, sim, r1, r2, c⟩
  have c := c σ
  by_cases ho : ∃ cn fs vs, d1 = .obj cn fs vs
  · obtain ⟨cn, fs, vs, rfl⟩ := ho
    simp only [eqOD] at c
    split at c
    · rename_i den hl
      split at c
      · rename_i hok
        obtain ⟨n, f, C, hm, ec, hF⟩ := M.ok cn den hl
        have hobj := r1
        rw [rep_obj'] at hobj
        obtain ⟨_, a, C', dx, us, rfl, h1, h2, _⟩ := hobj
        have h1 : X.mg cn = some (.ref C') := h1
        rw [hm] at h1
        cases h1
        obtain rfl : v = Value.ref a := rx
        obtain ⟨mA, J, _⟩ := ins_get I.hok (sub_lst sim.sub (fun z => z) h2)
        obtain ⟨od, J, _⟩ := J.look
        obtain ⟨m, hF'⟩ := I.fr
        have hb : ∃ tb, PySem.W.Looks (model X.prog X.w) s.heap (typeOf u) tb ∧ PySem.W.notFirst X.K C tb = true := by
          cases d2 with
          | str z =>
            rw [rep_str] at r2
            subst r2
            obtain ⟨t, rfl⟩ := ry
            exact ⟨_, PySem.W.Looks.of_pure rfl, M.ns cn C den hl hm⟩
          | obj dn fs' vs' =>
            rw [rep_obj'] at r2
            obtain ⟨_, b, D', dy, us', rfl, h3, h4, _⟩ := r2
            obtain rfl : u = Value.ref b := ry
            obtain ⟨mB, J', _⟩ := ins_get I.hok (sub_lst sim.sub (fun z => z) h4)
            obtain ⟨od', J', _⟩ := J'.look
            have hmem : (cn, dn) ∈ nf := by simpa [rightOk] using hok
            exact ⟨_, J'.type, M.nf cn dn C D' hmem hm h3⟩
          | _ => cases hok
        obtain ⟨tb, hb, hn⟩ := hb
        have hA : (if neg then X.A.in1 else X.A).frames = X.A.frames := by cases neg <;> rfl
        have hRm : Room k (if neg then X.A.in1 else X.A) := by
          cases neg with
          | false => exact hr.mono (Nat.le_succ k)
          | true => exact hr.in1
        have c2 : GG.Con (wd X cl) (fun _ _ _ _ => False) σ (RE (wd X cl)) g H (fun v H' => ∃ k, v = .bl k ∧ Q (.bl (if neg then !k else k)) H') (den [.obj cn fs vs, d2] S) := by
          cases ed : den [.obj cn fs vs, d2] S with
          | ok p =>
            rw [ed] at c
            simp only [Out.calm_ok, Out.bind_ok] at c
            obtain ⟨dv, Sv⟩ := p
            intro v g' H' s' fr' rv
            cases dv with
            | bl k => exact ⟨k, rep_bl.mp rv, c _ g' H' s' fr' (rep_bl.mpr rfl)⟩
            | _ => exact c.elim
          | exc _ _ _ => rw [ed] at c; exact c.elim
          | stuck => rw [ed] at c; exact c.elim
        have run := run_at (A := if neg then X.A.in1 else X.A) (us := [.ref a, u]) (vs := [.ref a, y]) hF hRm hA I (.cons rfl (.cons ry .nil)) sim (.cons r1 (.cons r2 .nil)) c2
        have ecmp : compareOp (eqOp neg) (.ref a) u = richCompare (if neg then .NotEq else .Eq) (.ref a) u := by cases neg <;> rfl
        rw [ecmp]
        refine rich_own (L := _) (h₀ := _) (m := m) (by omega) hF' I.ok.mod.kin J ec hb hn (wpAny_mono run (fun v s' hq => ?_) fun _ _ e => e)
        obtain ⟨z, H', I', rz, k', rfl, q⟩ := hq
        cases rz
        exact ⟨k', rfl, .bl (if neg then !k' else k'), H', I', rfl, q⟩
      · exact c.elim
    · exact c.elim
  · have e0 : eqOD tab nf neg d1 d2 S = (Out.opt (if neg then neD d1 d2 else eqD d1 d2)).bind fun k => .ok (.bl k, S) := by
      cases d1 <;> first | rfl | exact absurd ⟨_, _, _, rfl⟩ ho
    rw [e0] at c
    cases neg with
    | false =>
      obtain ⟨b, e, c⟩ := c.opt
      exact ok_eq (cl := cl) hu pins s σ H x y v u Q I rx ry ⟨d1, d2, b, g, S, sim, r1, r2, e, c _ g H sim .refl (rep_bl.mpr rfl)⟩
    | true =>
      obtain ⟨b, e, c⟩ := c.opt
      exact ok_ne (cl := cl) hu pins s σ H x y v u Q I rx ry ⟨d1, d2, b, g, S, sim, r1, r2, e, c _ g H sim .refl (rep_bl.mpr rfl)⟩
variable {a b : Expr} {da db : EX} {pos : Pos}
theorem rd_eqO {tab : GTab} {nf : List (Str × Str)} {neg : Bool} {W : WX} {σ : L2.St} {H : Hp} {Q : VK} (h : tX (wd X cl) W (RE (wd X cl)) (eEqO tab nf neg da db) σ H Q) :
    tOp (rEqO (wd X cl) tab nf neg) (tX (wd X cl) W (RE (wd X cl)) da) (tX (wd X cl) W (RE (wd X cl)) db) σ H Q := by
  obtain ⟨ρ, S, g, sim, c⟩ := h
  exact Con.go sim c fun v H1 d1 S1 g1 e1 s1 f1 r1 c1 => Con.go s1 c1 fun u H2 d2 S2 g2 e2 s2 f2 r2 c2 => ⟨d1, d2, g2, S2, s2.st, Rep.mono f2.le r1, r2, fun σ' => by
    have calm : ∀ c fs S', eqOD tab nf neg d1 d2 S2 ≠ .exc c fs S' := fun c fs S' e => by
      unfold eqOD at e
      split at e
      · split at e
        · split at e
          · rename_i den _ _
            revert e
            generalize den _ S2 = o
            intro e
            cases o with
            | ok p =>
              simp only [Out.calm_ok, Out.bind_ok] at e
              cases hb : bD p.1 with
              | none => rw [hb] at e; cases e
              | some k => rw [hb] at e; cases e
            | exc _ _ _ => cases e
            | stuck => cases e
          · cases e
        · cases e
      · split at e
        · cases hb : neD _ d2 with
          | none => rw [hb] at e; cases e
          | some k => rw [hb] at e; cases e
        · cases hb : eqD _ d2 with
          | none => rw [hb] at e; cases e
          | some k => rw [hb] at e; cases e
    have c2 : GG.Con (wd X cl) W σ (RE (wd X cl)) g2 H2 Q (eqOD tab nf neg d1 d2 S2) := c2
    cases e : eqOD tab nf neg d1 d2 S2 with
    | ok p => rw [e] at c2; exact c2
    | exc c fs S' => exact absurd e (calm c fs S')
    | stuck => rw [e] at c2; exact c2.elim⟩
theorem ge_eqO {tab : GTab} {nf : List (Str × Str)} {neg : Bool} (hu : X.A.units + 64 < cLine) (M : EqTabOk X.prog X.w X.K X.mg X.base cl k tab nf) (hr : Room (k + 1) X.A) (ha : GE cl X a da) (hb : GE cl X b db) (hm : behindInMarks (eqOp neg) b = false) : GE cl X (.Compare a [eqOp neg] [b] pos) (eEqO tab nf neg da db) := fun W tk =>
  PE.weak (pe_cmpR (ok_eqO (cl := cl) hu M hr) (ha W tk) (hb W tk) hm) fun σ H Q h => rd_eqO h
theorem gt_eqO {tab : GTab} {nf : List (Str × Str)} {neg : Bool} (hu : X.A.units + 64 < cLine) (M : EqTabOk X.prog X.w X.K X.mg X.base cl k tab nf) (hr : Room (k + 1) X.A) (ha : GE cl X a da) (hb : GE cl X b db) (hm : behindInMarks (eqOp neg) b = false) : GT cl X (.Compare a [eqOp neg] [b] pos) (bV (eEqO tab nf neg da db)) := fun W tk =>
  PT.weak (pt_cmpR (ok_eqO (cl := cl) hu M hr) (ha W tk) (hb W tk) hm) fun σ H Q h => rd_eqO (rd_bV h)
end
theorem nf_at {K : PySem.W.Frag} {mg : Str → Option Value} {c d : Str} {C0 D0 C D : Addr} (g1 : mg c = some (.ref C0)) (g2 : mg d = some (.ref D0)) (h : PySem.W.notFirst K C0 (.ref D0) = true) (h1 : mg c = some (.ref C)) (h2 : mg d = some (.ref D)) : PySem.W.notFirst K C (.ref D) = true := by
  rw [g1] at h1
  rw [g2] at h2
  cases h1
  cases h2
  exact h
theorem ns_at {K : PySem.W.Frag} {mg : Str → Option Value} {c : Str} {C0 C : Addr} {v : Value} (g1 : mg c = some (.ref C0)) (h : PySem.W.notFirst K C0 v = true) (h1 : mg c = some (.ref C)) : PySem.W.notFirst K C v = true := by
  rw [g1] at h1
  cases h1
  exact h
end GG
end

section
set_option linter.all false
set_option maxRecDepth 100000
namespace GG
open PySem PySem.Spec PyProof.Rows L2

/-! ### name = {k: v for ..} on one line -/
section
variable {X : Cx}
theorem ps_setDc {i : Nat} {y : Str} {py : Pos} {kx vx tg iter : Expr} {ifs : List Expr} {scope : Scope} {own : List (Str × Nat)} {pos spos : Pos} {wi : TI} {g : TG} {tt : TT} {tk tv : TE} (hc : X.calm = true) (hN : X.N.Nodup) (hy : X.N[i]? = some y) (hyl : X.env.scope.names.lookup y = some .local)
    (hsw : swapsWith (.DictComp kx vx [⟨tg, iter, ifs, 0⟩] scope pos) (some (.Name y py)) spos.line X.env = pure true) (hi : PI X tg iter wi) (ok : BlkOk X.N X.env.scope scope own)
    (hg : ∀ (s : Shared) (H : Hp) (C : Addr) (cl : List (Str × Addr)) (fp : List Addr), PG (X.blk s H scope (compEnvC scope cl C X.env) fp) tg g) (ht : ∀ (s : Shared) (H : Hp) (C : Addr) (cl : List (Str × Addr)) (fp : List Addr), PTs (X.blk s H scope (compEnvC scope cl C X.env) fp) ifs tt)
    (hk : ∀ (s : Shared) (H : Hp) (C : Addr) (cl : List (Str × Addr)) (fp : List Addr), PE (X.blk s H scope (compEnvC scope cl C X.env) fp) kx tk)
    (he : ∀ (s : Shared) (H : Hp) (C : Addr) (cl : List (Str × Addr)) (fp : List Addr), PE (X.blk s H scope (compEnvC scope cl C X.env) fp) vx tv) (hs : ∀ x, foldedSetIterable iter X.env x = pure x) :
    PS X (.Assign [.Name y py] (.DictComp kx vx [⟨tg, iter, ifs, 0⟩] scope pos) spos) (tAsg (tDc wi g tt tk tv (own.map (·.2))) (gName i)) := by
  refine ⟨fun pins s σ H D I h => ?_⟩
  rw [exec_Assign_Name_used _ _ _ _ hsw]
  refine wpAny_bind (wpAny_standAt (wpAny_bind ?_))
  show wpAny _ X.A (do let _ ← comprehension (.DictComp kx vx [⟨tg, iter, ifs, 0⟩] scope pos) scope X.env (firstIterPos [⟨tg, iter, ifs, 0⟩] pos) newDict false (eval iter X.env) (some (assign (.Name y py) X.env))) _ _ s
  have h : tDc wi g tt tk tv (own.map (·.2)) σ H (fun x H1 => gName i x σ H1 D.nx) := h
  refine wpAny_bind (thn (dc_core (Qf := fun _ s' => SP X pins D .next s') hc hN I hi ok hg ht hk he hs h fun L C s' m H' I' q hn f => ?_) fun _ s' hq => wpAny_pure (wpAny_pure hq))
  show wpAny _ _ (assign (.Name y py) X.env (.ref L)) _ _ _
  refine wpAny_assign_Name (store_ok2 (v := V.ref L) I' hN hy (.inl hyl) rfl (fun s2 I2 ⟨a, sb, ha⟩ => ?_) (.inr hyl))
  obtain ⟨f0, f1, f2, f3, f4, f5⟩ := f
  have haC : C ≠ a := by
    rcases ha with z | z
    · rw [z]; exact f1
    · exact fun e => f4 y a z e.symm
  refine ⟨m, hn.sameBut sb haC, fun h3 sb3 => ?_⟩
  exact ⟨_, H', I2.turned (t' := s2.toks) (fun b o hb e => (sb3.2 b hb).trans e) f0 f1 f3 f4 f5, q⟩
theorem sw_trueD {kx vx : Expr} {gs : List Comprehension} {scope : Scope} {pos py : Pos} {y : Str} {l : Nat} {env : Env} (hk : env.scope.kind = .function) (hy : env.scope.names.lookup y = some .local) (hl : (py.line == pos.line) = true)
    (ha : (scope.names.any fun (n, k) => n == y && (k == .local || k == .cell)) = false) : swapsWith (.DictComp kx vx gs scope pos) (some (.Name y py)) l env = pure true := by
  have ky : env.kindOf y = some .local := hy
  have hb : env.blockKind = .function := by unfold Env.blockKind; rw [hk]; rfl
  unfold swapsWith
  simp only [hb, ky, ha, Expr.pos, hl]
  rfl
end
section
variable {cl : Wp} {X : Cx} {tg it kx vx : Expr} {ifs : List Expr} {scope : Scope} {own : List (Str × Nat)} {di : IX} {n : NX} {tt : BX} {dk de : EX} {us : List Nat} {pos : Pos}
theorem gms_dc {i : Nat} {y : Str} {py spos : Pos} (hc : X.calm = true) (hN : X.N.Nodup) (hy : X.N[i]? = some y) (hyl : X.env.scope.names.lookup y = some .local) (hsw : swapsWith (.DictComp kx vx [⟨tg, it, ifs, 0⟩] scope pos) (some (.Name y py)) spos.line X.env = pure true)
    (hi : GI cl X tg it di) (ok : BlkOk X.N X.env.scope scope own) (hv : ∀ i ∈ us, i ∈ own.map (·.2)) (hg : BX' X scope fun Y => GN cl Y us tg n) (ht : BX' X scope fun Y => GTs cl Y ifs tt) (hk : BX' X scope fun Y => GE cl Y kx dk) (he : BX' X scope fun Y => GE cl Y vx de)
    (hs : ∀ x, foldedSetIterable it X.env x = pure x) : GMs cl X (.Assign [.Name y py] (.DictComp kx vx [⟨tg, it, ifs, 0⟩] scope pos) spos) i (mDc di n tt dk de (own.map (·.2))) := fun W tk =>
  PS.weak (ps_setDc (g := rN (wd X cl) us n) (tt := tX (wd X cl) (fun _ _ _ _ => False) RB tt) (tk := tX (wd X cl) (fun _ _ _ _ => False) (RE (wd X cl)) dk) (tv := tX (wd X cl) (fun _ _ _ _ => False) (RE (wd X cl)) de) hc hN hy hyl hsw (hi W tk) ok (fun s H C c' fp => hg s H C c' fp) (fun s H C c' fp => ht s H C c' fp _ takes_none) (fun s H C c' fp => hk s H C c' fp _ takes_none) (fun s H C c' fp => he s H C c' fp _ takes_none) hs)
    fun D σ H h => rd_dc hv (fun _ z => z) (fun _ _ _ _ z => z) (fun _ _ _ z => z) (fun _ _ _ z => z) (fun _ _ _ z => z) h
end
end GG
end

section
set_option linter.all false
set_option maxRecDepth 100000
namespace GG
open PySem PySem.Spec PyProof.Rows L2

/-! ### d[k] = v, keys ints or texts -/
def keysK : List KK → Option (List L2.Key)
  | [] => some []
  | .k x :: r => (keysK r).map (x :: ·)
  | .t _ :: _ => none
theorem keysK_eq : ∀ {ks : List KK} {l : List L2.Key}, keysK ks = some l → ks = l.map KK.k
  | [], _, e => by cases e; rfl
  | .k x :: r, _, e => by
    simp only [keysK, Option.map_eq_some_iff] at e
    obtain ⟨l, e1, rfl⟩ := e
    rw [keysK_eq e1]; rfl
  | .t _ :: _, _, e => by cases e
def setIK (k d : D) : MO → Option MO
  | .dic ks vs => (keyK k).bind fun q => (keysK ks).bind fun l => if l.length < sizeLine then some (dicP (putP (l.zip vs) q d)) else none
  | _ => none
def tIK (h : HX) (ie : EX) : TX := fun d ρ S => (okO (h ρ S)).bind fun p => (okO (ie ρ p.2)).bind fun q => ((curH ρ q.2 p.1).bind (setIK q.1 d)).bind fun mo => putO ρ q.2 mo p.1
theorem repP_zip {w : Wd} {g : Gh} : ∀ {l : List L2.Key} {ds : List D} {vs : List V}, RepL w g ds vs → l.length = vs.length → RepP w g (l.zip ds) (l.zip vs)
  | [], _, _, _, _ => .nil
  | x :: l, [], _, r, h => by rw [r.cases0] at h; simp at h
  | x :: l, d :: ds, _, r, h => by
    obtain ⟨v, vr, rfl, q1, q2⟩ := r.cases
    exact .cons q1 (repP_zip q2 (by simpa using h))
section
variable {cl : Wp} {X : Cx} {o e : Expr} {ho : HX} {da : EX} {pos : Pos}
theorem gtg_ik (hu : X.A.units + 1 < cLine) (h1 : GHd cl X o ho) (h2 : GE cl X e da) (ha : ∀ v, assign (.Subscript o e pos) X.env v = (do
      let ov ← holding [v] (eval o X.env)
      let iv ← holding [v, ov] (eval e X.env)
      standAt pos
      holding [v, ov, iv] (setItem ov iv v)
      release [v, ov, iv] [])) : GTg cl X (.Subscript o e pos) (tIK ho da) := fun W tk =>
  PG.weak (pg_sub (h1 W tk) (h2 W tk) (set_dict hu) ha) fun v σ H Q ⟨d, ρ, S, g, B, ρ', S', sim, ou, r, e, k⟩ => by
    unfold tIK at e
    rw [Option.bind_eq_some_iff] at e
    obtain ⟨p, e1, e⟩ := e
    rw [Option.bind_eq_some_iff] at e
    obtain ⟨q, e2, e⟩ := e
    rw [Option.bind_eq_some_iff] at e
    obtain ⟨mo', e3, e4⟩ := e
    rw [Option.bind_eq_some_iff] at e3
    obtain ⟨mo, e5, e6⟩ := e3
    refine okO_go (R := RH (wd X cl) σ) sim ou e1 fun x H1 g1 s1 o1 f1 r1 => okO_go s1 o1 e2 fun y H2 g2 s2 o2 f2 r2 => ?_
    have r1' : RH (wd X cl) σ g2 H2 p.1 x := by
      cases hp : p.1 with
      | d z => rw [hp] at r1; exact Rep.mono f2.le r1
      | own i => rw [hp] at r1; exact r1
    obtain ⟨a, rfl, m, _, kk⟩ := s2.upd o2 r1' e5
    cases mo with
    | dic ks xs =>
      unfold setIK at e6
      dsimp only at e6
      rw [Option.bind_eq_some_iff] at e6
      obtain ⟨key, e7, e6⟩ := e6
      rw [Option.bind_eq_some_iff] at e6
      obtain ⟨l, e8, e6⟩ := e6
      split at e6
      · rename_i hz
        cases e6
        obtain ⟨us, u, hH, ⟨kl, hd⟩, rl⟩ := m
        rcases hd with ⟨l', e9, rfl⟩ | ⟨l', ln, e9, rfl⟩
        · have el : l' = l := by
            have := keysK_eq e8
            rw [e9] at this
            have inj : ∀ {a b : List L2.Key}, a.map KK.k = b.map KK.k → a = b := by
              intro a
              induction a with
              | nil => intro b h; cases b with
                | nil => rfl
                | cons x b => simp at h
              | cons x a ih => intro b h; cases b with
                | nil => simp at h
                | cons y b => simp only [List.map_cons, List.cons.injEq, KK.k.injEq] at h; rw [h.1, ih h.2]
            exact inj this
          subst el
          have r2 : Rep (wd X cl) g2 q.1 y := r2
          have ll : l'.length = us.length := by rw [← kl, e9, List.length_map]
          have rp := repP_zip rl ll
          have rp2 := RepP.put (k := key) (r.mono (f1.le.trans f2.le)) rp
          obtain ⟨ρ1, S1, e10, s8, o8⟩ := kk (.dK (putK (l'.zip us) key v)) (dicP (putP (l'.zip xs) key d)) (RepP.mok rp2 upd_same)
          rw [e4] at e10; cases e10
          exact ⟨a, _, rfl, .inl ⟨_, key, hH, keyK_rep e7 r2, by rw [List.length_zip]; omega, rfl⟩, k σ g2 _ s8 o8 (f1.le.trans f2.le)⟩
        · have := keysK_eq e8
          rw [e9] at this
          cases l' with
          | nil => exact absurd rfl ln
          | cons x l' => cases l with
            | nil => simp at this
            | cons y l => simp at this
      · cases e6
    | _ => cases e6
end

/-! ### tuple(d) -/
section
variable {prog : Program} {w : World} {A : Around} {E : Value → Shared → Prop} {s : Shared} {r d : Addr} {n : Nat} {P : Nat → Value → Prop} {OK : Heap → Prop}
theorem code_tuple_new_dict {Q₁ : Value → Shared → Prop} (K : PySem.W.KdlSrc prog w "dict" r d n P OK) (hh : A.handled = none) (hok : OK s.heap) (hlen : n ≤ sizeLine)
    (h : ∀ (h' : Heap) (tk : Nat) (acc : Array Value), (∀ b o, s.heap.get? b = some o → h'.get? b = some o) → ItemsOf P acc n →
      Q₁ (.ref h'.objs.size) { s with heap := h'.push { cls := .type "tuple", data := .seq acc }, toks := tk }) :
    codeAny (model prog w) A (.call (.builtin "tuple.__new__") ⟨[.type "tuple", .ref r], []⟩) (wants Q₁ E) s := by
  refine codeAny_of_tree ?_
  show wpAny _ A.in1 (do checkBuiltinCall "tuple.__new__" ⟨[.type "tuple", .ref r], []⟩; again (.builtin "tuple.__new__" ⟨[.type "tuple", .ref r], []⟩)) _ _ s
  refine wpAny_bind (wpAny_of_eq (PySem.F.newCall_tuple_1 _) (wpAny_pure ⟨plainId_quiet PySem.F.plain_tuple_new _, codeAny_builtin PySem.F.entry_tuple_new ?_⟩))
  rw [Around.under_plainId PySem.F.plain_tuple_new _]
  have hsub := sub_tuple_self
  have hinit := init_tuple_lookup
  have hmh := madeHere_tuple
  have hTI : s.TypeIs (.ref r) "dict" := K.type s hok
  have hh1 : A.in1.handled = none := hh
  wp_walk using wpAny_typeOf hTI, PySem.W.kdu_collect (A := A.in1) K hh1 hok hlen
  intro h' tk acc hk hacc
  show wpAny _ _ (Builtin.Tuple.tupleExact acc.toList.toArray >>= fun v => ret v) _ _ _
  unfold Builtin.Tuple.tupleExact
  refine wpAny_bind (wpAny_newObj_type ?_ (by show acc.toList.toArray.size ≤ sizeLine; simp only [Array.toArray_toList]; rw [hacc.1]; exact hlen))
  refine wpAny_pure ?_
  have e : acc.toList.toArray = acc := by simp
  rw [e]
  exact h h' tk acc hk hacc
theorem call_tuple_dict {Q : Value → Shared → Prop} (K : PySem.W.KdlSrc prog w "dict" r d n P OK) (hh : A.handled = none) (hok : OK s.heap) (hlen : n ≤ sizeLine)
    (hQ : ∀ (h' : Heap) (tk : Nat) (acc : Array Value), (∀ b o, s.heap.get? b = some o → h'.get? b = some o) → ItemsOf P acc n →
      Q (.ref h'.objs.size) { s with heap := h'.push { cls := .type "tuple", data := .seq acc }, toks := tk }) :
    wpAny (model prog w) A (call (.type "tuple") [.ref r]) Q E s := by
  refine callType_codes (Q₁ := fun obj s₁ => s₁.TypeIs obj "tuple" ∧ Q obj s₁) PySem.F.called_tuple (PySem.F.typeCall_tuple_1 _) PySem.F.entry_object_init
    (code_tuple_new_dict (A := A.in1) K hh hok hlen fun h' tk acc hk hacc => ⟨⟨_, Heap.get?_push_size _ rfl, rfl⟩, hQ h' tk acc hk hacc⟩) fun obj s₁ h₁ => ?_
  exact ⟨h₁.1, PySem.F.args_object_init_2 obj _, object_init_meets PySem.F.called_tuple.init.lookup PySem.F.called_tuple.made (by decide) prog w A.in1 _ s₁ ⟨h₁.1, rfl, h₁.2⟩⟩
end
def tupleK : D → Option D
  | .dic ks _ => if ks.length ≤ sizeLine then (keysD ks).map .tup else none
  | _ => none
section
variable {cl : Wp} {X : Cx}
theorem call_tuple_dK (hc : X.calm = true) : CallR X (.type "tuple") (fun xs H Q => ∃ p kvs, xs = [.ref p] ∧ Rd H p (.dK kvs) ∧ ∀ q, H q = none → Q (.ref q) (upd H q (.tup (kvs.map fun kv => kV kv.1)))) := by
  intro pins s σ H xs us Q I r h
  obtain ⟨p, kvs, rfl, hk, q⟩ := h
  obtain ⟨u, rfl, rx⟩ := r.one
  cases rx
  obtain ⟨z, lo, vs, rk, hd⟩ := dk_rd I.hok hk
  obtain ⟨ep, hat⟩ := hd.dictAt
  have hl : kvs.length = vs.length := Paired.length rk
  refine call_tuple_dict (PySem.W.kdl_dict (knd := mixKind X.prog X.w) (kvs := vs) (ep := ep) lo) (I.ok.hd hc) hat (by rw [← hl]; exact z) fun h' tk acc hkeep hacc => ?_
  have I1 : Inv X pins σ H { s with heap := h', toks := tk } := I.kept (t' := tk) fun b o e => hkeep b o e
  refine ⟨.ref h'.objs.size, upd H h'.objs.size (.tup (kvs.map fun kv => kV kv.1)), I1.laid (t' := tk) (h' := h'.push { cls := .type "tuple", data := .seq acc }) (fun b o e => Heap.get?_push_of_some _ e) (Nat.le_refl _) (show ObjOk X.prog X.w _ _ _ (.tup (kvs.map fun kv => kV kv.1)) from ⟨?_, acc.toList, ?_, ?_⟩), rfl, q _ (I1.hok.fresh (Nat.le_refl _))⟩
  · rw [List.length_map]; exact z
  · have el : acc.toList.length = acc.size := by simp
    refine vals_of_at (by rw [List.length_map, el, hacc.1, hl]) fun j x w h1 h2 => ?_
    obtain ⟨k, y, hky, hi⟩ := hacc.2 j w (by rw [← Array.getElem?_toList]; exact h2)
    have e1 : (kvs.map (·.1))[j]? = some k := by
      rw [KV.keys rk, List.getElem?_map, hky] <;> rfl
    have e2 : (kvs.map fun kv => kV kv.1)[j]? = some (kV k) := by
      have e3 : (kvs.map fun kv => kV kv.1) = (kvs.map (·.1)).map kV := by rw [List.map_map] <;> rfl
      rw [e3, List.getElem?_map, e1] <;> rfl
    rw [e2] at h1
    cases h1
    exact keyIs_rel hi
  · rw [Array.toArray_toList]; exact IsTup.new _ _
theorem repL_keys {w : Wd} {g : Gh} : ∀ {l : List L2.Key} {xs : List D}, keysD (l.map KK.k) = some xs → RepL w g xs (l.map kV)
  | [], _, e => by cases e; exact .nil
  | .inl j :: l, xs, e => by
    simp only [List.map_cons, keysD, Option.map_eq_some_iff] at e
    obtain ⟨r, e1, rfl⟩ := e
    exact .cons (rep_int.mpr rfl) (repL_keys e1)
  | .inr j :: l, xs, e => by
    simp only [List.map_cons, keysD, Option.map_eq_some_iff] at e
    obtain ⟨r, e1, rfl⟩ := e
    exact .cons (rep_str.mpr rfl) (repL_keys e1)
theorem ok_tupleK (hc : X.calm = true) : CallR X (.type "tuple") (rS1 (wd X cl) tupleK) := by
  intro pins s σ H xs us Q I r h
  obtain ⟨x, dc, d, g, S, rfl, sim, sh, e, q⟩ := h
  cases dc <;> first | (cases e; done) | skip
  rename_i ks ds
  simp only [tupleK] at e
  split at e
  · rw [Option.map_eq_some_iff] at e
    obtain ⟨ys, e1, rfl⟩ := e
    obtain ⟨a, vs, u, rfl, h1, ⟨hl, hd⟩, l⟩ := sh
    rcases hd with ⟨l', rfl, rfl⟩ | ⟨l', ln, rfl, rfl⟩
    · refine call_tuple_dK hc pins s σ H _ us Q I r ⟨a, _, rfl, h1, fun p hp => ?_⟩
      obtain ⟨t, f⟩ := sim.put (u := .tup ((l'.zip vs).map fun kv => kV kv.1)) hp
      refine q _ _ _ t f (rep_tup f.le ?_)
      have e2 : ((l'.zip vs).map fun kv => kV kv.1) = l'.map kV := by
        have e3 : ((l'.zip vs).map fun kv => kV kv.1) = ((l'.zip vs).map (·.1)).map kV := by rw [List.map_map]; rfl
        rw [e3, List.map_fst_zip (by rw [List.length_map] at hl; omega)]
      rw [e2]
      exact repL_keys e1
    · cases l' with
      | nil => exact absurd rfl ln
      | cons x l' => cases e1
  · cases e
end
end GG
end

section
set_option linter.all false
set_option maxRecDepth 100000
namespace GG
open PySem PySem.Spec PyProof.Rows L2

/-! ### l.extend(t), t a tuple or a list -/
theorem ext_tup (l : Addr) (items : Array Value) (n : Nat) (b : Addr) (items2 : Array Value) (n2 : Nat) (dd : Option Addr) (sl : Array (Option Value)) (hs0 : ¬(!items.isEmpty && Builtin.List.listTooLong (items.size + items2.size)) = true) (hs1 : items.size ≤ sizeLine) (hs2 : items.size + items2.size ≤ sizeLine + 1) :
    Meets (Builtin.«list.extend» ⟨[.ref l, .ref b], []⟩) (fun _ R s => s.heap.get? l = some { cls := .type "list", dict := none, data := .seq items n, slots := #[] } ∧ s.heap.get? b = some { cls := .type "tuple", dict := dd, data := .seq items2 n2, slots := sl } ∧ R (.ok (.ret Value.none)) { s with heap := s.heap.update l (Obj.mapSeq fun x => x ++ items2), toks := s.toks }) :=
  .of_wp fun prog w A R s h => by
    obtain ⟨hp, g, d, tk, os⟩ := s; obtain ⟨hl, hb, h⟩ := h; have f1 := AutoSeq1.idx_int; have f2 := AutoSeq1.sub_tuple_tuple; have f3 := AutoSeq1.sub_list_list; have f4 := AutoSeq1.sub_tuple_list; have f5 := AutoSeq1.sub_list_tuple;
    have hz' : (items ++ items2).size ≤ sizeLine + 1 := by rw [Array.size_append]; exact hs2
    wp_walk using (wpAny_updateSeq hl rfl (hz := hs1) (_hz' := hz')), wpAny_loadPart' hl, wpAny_loadPart' hb; exact ⟨_, rfl, h⟩
def rExtendT (K : PySem.W.Frag) : V → List V → Hp → VK → Prop := fun x vs H Q => ∃ l b xs zs, x = .ref l ∧ vs = [.ref b] ∧ H l = some (.lst xs) ∧ SqT K H b zs ∧ xs.length + zs.length ≤ sizeLine ∧ Q .non (upd H l (.lst (xs ++ zs)))
section
variable {X : Cx} {cl : Wp}
theorem mt_extendT : MtR X "list.extend" (rExtendT X.K) := by
  intro pins s σ H x vs v us Q I rx rv h
  obtain ⟨l, b, xs, zs, rfl, rfl, hH, hB, hz, q⟩ := h
  cases rx
  obtain ⟨u, rfl, ru⟩ := rv.one
  cases ru
  obtain ⟨z, its, n, r, hl, e⟩ := I.lstM hH
  obtain ⟨its2, r2, ⟨ob, e2, hc, n2, hd⟩, hl2⟩ := I.tuple hB
  have hl0 := r.length
  have hl1 := r2.length
  have hsz : its.toArray.size + its2.toArray.size ≤ sizeLine := by rw [List.size_toArray, List.size_toArray]; omega
  have hlong : ¬ (!its.toArray.isEmpty && Builtin.List.listTooLong (its.toArray.size + its2.toArray.size)) = true := by
    rw [notLongL hsz, Bool.and_false]
    exact Bool.false_ne_true
  obtain ⟨c, dd, dt, sl⟩ := ob
  dsimp only at hc hd
  subst hc hd
  refine call_meets PySem.F.slot_list_extend ⟨_, e, rfl⟩ PySem.F.entry_list_extend (PySem.F.args_list_extend_2 _ _)
    (ext_tup l its.toArray n b its2.toArray n2 dd sl hlong (by rw [List.size_toArray]; omega) (by omega)) ⟨e, e2, ?_⟩
  refine ⟨.non, _, I.lset (its' := its ++ its2) hH e (by simp) (r.append r2) ?_, rfl, q⟩
  rw [List.length_append]
  omega
def extTD (ds : List D) : MO → Option MO
  | .lst xs => match ds with
    | [.tup ys] => if xs.length + ys.length ≤ sizeLine then some (.lst (xs ++ ys)) else none
    | _ => none
  | _ => none
theorem mt_extT : MtOk X cl (rExtendT X.K) extTD := fun g H S a us ds mo mo' Q s rp m e q => by
  unfold extTD at e
  split at e
  · split at e
    · split at e
      · rename_i hz
        cases e
        obtain ⟨vs, hH, l⟩ := m
        obtain ⟨v, r, rfl, q1, q2⟩ := rp.cases
        rw [q2.cases0]
        obtain ⟨b, zs, rfl, hb, lb⟩ := rep_tup'.mp q1
        exact ⟨a, b, vs, zs, rfl, rfl, hH, SqT.of (sub_lst s.sub (fun z => z) hb), by rw [← l.length, ← lb.length]; exact hz, q _ _ ⟨_, upd_same, l.append lb⟩⟩
      · cases e
    · cases e
  · cases e
end
theorem extT_l {xs ys : List D} (h : xs.length + ys.length ≤ 16777216) : extTD [.tup ys] (.lst xs) = some (.lst (xs ++ ys)) := if_pos h
end GG
end

section
/-! G.Q2: dicts with text keys as data. Plain Lean. -/
set_option linter.all false
set_option maxRecDepth 100000
namespace GG
open PySem L2
section
variable {ρ : LEnv} {S : Store}
theorem sTry0_a {tab : ETab} {cH : Str} {body su : SX} : sTry0 tab cH body su ρ S = catch0 tab cH su (body ρ S) := nd rfl
theorem mSrt_a {h : HX} : mSrt h ρ S = (h ρ S).bind fun p => (Out.opt ((deref ρ p.2 p.1).bind srtD)).bind fun xs => .ok (.lst (xs.map D.str), p.2) := nd rfl
theorem mSrtTx_a {h : HX} : mSrtTx h ρ S = (h ρ S).bind fun p => (Out.opt ((deref ρ p.2 p.1).bind srtTxD)).bind fun xs => .ok (.lst (xs.map D.str), p.2) := nd rfl
theorem eEqO_a {tab : GTab} {nf : List (Str × Str)} {neg : Bool} {a b : EX} : eEqO tab nf neg a b ρ S = (a ρ S).bind fun p => (b ρ p.2).bind fun q => eqOD tab nf neg p.1 q.1 q.2 := nd rfl
theorem tIK_a {h : HX} {ie : EX} {d : D} : tIK h ie d ρ S = (okO (h ρ S)).bind fun p => (okO (ie ρ p.2)).bind fun q => ((curH ρ q.2 p.1).bind (setIK q.1 d)).bind fun mo => putO ρ q.2 mo p.1 := nd rfl
end
/-- a dict of texts -/
abbrev TDc := List (Str × D)
def tdK (l : TDc) : List KK := l.map fun p => .k (.inr p.1)
def tdD (l : TDc) : D := .dic (tdK l) (l.map (·.2))
def tdM (l : TDc) : MO := .dic (tdK l) (l.map (·.2))
def tdP (l : TDc) : List (L2.Key × D) := l.map fun p => (.inr p.1, p.2)
def putS (l : TDc) (x : Str) (d : D) : TDc := if (l.any fun p => decide (p.1 = x)) = true then l.map (fun p => if p.1 = x then (p.1, d) else p) else l ++ [(x, d)]
def getS (l : TDc) (x : Str) : Option D := (l.find? fun p => decide (p.1 = x)).map (·.2)
theorem dicP_td (l : TDc) : dicP (tdP l) = tdM l := by
  unfold dicP tdP tdM tdK
  rw [List.map_map, List.map_map, List.map_map]
  rfl
theorem now_td (l : TDc) : (tdM l).now = tdD l := rfl
theorem frz_td (l : TDc) : (tdM l).frz = tdD l := rfl
theorem look_td (l : TDc) (x : Str) : lookD (tdK l) (l.map (·.2)) (.k (.inr x)) = getS l x := by
  unfold lookD getS tdK
  induction l with
  | nil => rfl
  | cons p l ih =>
    rw [List.map_cons, List.map_cons, List.zip_cons_cons, List.find?_cons, List.find?_cons]
    by_cases h : p.1 = x
    · rw [decide_eq_true h, decide_eq_true (by rw [h])]; rfl
    · rw [decide_eq_false h, decide_eq_false (fun e => h (by simpa using e))]
      exact ih
theorem kind_td (l : TDc) (x : Str) : (tdK l).all (sameKind (.k (.inr x))) = true := by
  unfold tdK
  rw [List.all_map, List.all_eq_true]
  intro p _
  rfl
theorem idx_td (l : TDc) (x : Str) : idxD (tdD l) (.str x) = getS l x := by
  show ((keyD (.str x)).bind fun k => if ((tdK l).all (sameKind k)) = true then lookD (tdK l) (l.map (·.2)) k else none) = _
  show (if ((tdK l).all (sameKind (.k (.inr x)))) = true then lookD (tdK l) (l.map (·.2)) (.k (.inr x)) else none) = _
  rw [if_pos (kind_td l x), look_td]
theorem in_td (l : TDc) (x : Str) : inD (.str x) (tdD l) = some (getS l x).isSome := by
  show (if ((tdK l).all (sameKind (.k (.inr x)))) = true then some (lookD (tdK l) (l.map (·.2)) (.k (.inr x))).isSome else none) = _
  rw [if_pos (kind_td l x), look_td]
theorem putP_td (l : TDc) (x : Str) (d : D) : putP (tdP l) (.inr x) d = tdP (putS l x d) := by
  have a : ((tdP l).any fun p => decide (p.1 = Sum.inr x)) = (l.any fun p => decide (p.1 = x)) := by
    unfold tdP
    rw [List.any_map]
    congr 1
    funext p
    simp
  unfold putP putS
  rw [a]
  split
  · unfold tdP
    rw [List.map_map, List.map_map]
    apply List.map_congr_left
    intro p _
    by_cases h : p.1 = x
    · simp [h]
    · simp [h]
  · unfold tdP
    rw [List.map_append]
    rfl
theorem keysK_td (l : TDc) : keysK (tdK l) = some (l.map fun p => .inr p.1) := by
  induction l with
  | nil => rfl
  | cons p l ih =>
    show (keysK (tdK l)).map _ = _
    rw [ih]
    rfl
theorem zip_td (l : TDc) : (l.map fun p => (Sum.inr p.1 : L2.Key)).zip (l.map (·.2)) = tdP l := by
  unfold tdP
  induction l with
  | nil => rfl
  | cons p l ih => rw [List.map_cons, List.map_cons, List.map_cons, List.zip_cons_cons, ih]
theorem set_td {l : TDc} (h : l.length < 16777216) (x : Str) (d : D) : setIK (.str x) d (tdM l) = some (tdM (putS l x d)) := by
  show ((keyK (.str x)).bind fun q => (keysK (tdK l)).bind fun l' => if l'.length < sizeLine then some (dicP (putP (l'.zip (l.map (·.2))) q d)) else none) = _
  rw [keysK_td]
  show (if (l.map fun p => (Sum.inr p.1 : L2.Key)).length < sizeLine then some (dicP (putP ((l.map fun p => (Sum.inr p.1 : L2.Key)).zip (l.map (·.2))) (.inr x) d)) else none) = _
  rw [if_pos (by rw [List.length_map]; exact h), zip_td, putP_td, dicP_td]
theorem keysD_td (l : TDc) : keysD (tdK l) = some (l.map fun p => .str p.1) := by
  induction l with
  | nil => rfl
  | cons p l ih =>
    show (keysD (tdK l)).map _ = _
    rw [ih]
    rfl
theorem walk_td {l : TDc} (h : l.length ≤ 16777216) : walkD (tdD l) = some (l.map fun p => .str p.1) := by
  show (if (tdK l).length ≤ sizeLine then keysD (tdK l) else none) = _
  rw [if_pos (by unfold tdK; rw [List.length_map]; exact h), keysD_td]
theorem tupK_td {l : TDc} (h : l.length ≤ 16777216) : tupleK (tdD l) = some (.tup (l.map fun p => .str p.1)) := by
  show (if (tdK l).length ≤ sizeLine then (keysD (tdK l)).map D.tup else none) = _
  rw [if_pos (by unfold tdK; rw [List.length_map]; exact h), keysD_td]
  rfl
theorem keysS_td (l : TDc) : keysS (tdK l) = some (l.map (·.1)) := by
  induction l with
  | nil => rfl
  | cons p l ih =>
    show (keysS (tdK l)).map _ = _
    rw [ih]
    rfl
theorem srt_td (l : TDc) : srtD (tdD l) = some (srtS (l.map (·.1))) := by
  show (keysS (tdK l)).map srtS = _
  rw [keysS_td]
  rfl
theorem dr_td {ρ : LEnv} {S : Store} (l : TDc) : deref ρ S (.d (tdD l)) = some (tdD l) := rfl
/-! ### one function, many names -/
def mkL {β : Type} (enc : β → D) (ns : List Str) (f : Str → β) : TDc := ns.map fun x => (x, enc (f x))
def ups {β : Type} (f : Str → β) (x : Str) (v : β) : Str → β := fun y => if y = x then v else f y
theorem ups_self {β : Type} (f : Str → β) (x : Str) (v : β) : ups f x v x = v := if_pos rfl
theorem ups_ne {β : Type} {f : Str → β} {x y : Str} {v : β} (h : y ≠ x) : ups f x v y = f y := if_neg h
theorem ups_id {β : Type} (f : Str → β) (x : Str) : ups f x (f x) = f := by
  funext y
  unfold ups
  split
  · rename_i h; rw [h]
  · rfl
section
variable {β : Type} {enc : β → D} {ns : List Str} {f : Str → β}
theorem mkL_keys : (mkL enc ns f).map (·.1) = ns := by
  unfold mkL
  rw [List.map_map]
  exact List.map_id' ns
theorem mkL_len : (mkL enc ns f).length = ns.length := List.length_map _
theorem mkL_names : ((mkL enc ns f).map fun p => D.str p.1) = ns.map D.str := by
  unfold mkL
  rw [List.map_map]
  rfl
theorem getS_mk {x : Str} (h : x ∈ ns) : getS (mkL enc ns f) x = some (enc (f x)) := by
  unfold getS mkL
  induction ns with
  | nil => cases h
  | cons y ns ih =>
    rw [List.map_cons, List.find?_cons]
    by_cases e : y = x
    · simp [e]
    · have e2 : decide ((y, enc (f y)).1 = x) = false := decide_eq_false e
      rw [e2]
      rcases List.mem_cons.mp h with h | h
      · exact absurd h.symm e
      · exact ih h
theorem getS_no {x : Str} (h : x ∉ ns) : getS (mkL enc ns f) x = none := by
  unfold getS mkL
  induction ns with
  | nil => rfl
  | cons y ns ih =>
    rw [List.mem_cons, not_or] at h
    rw [List.map_cons, List.find?_cons]
    have e2 : decide ((y, enc (f y)).1 = x) = false := decide_eq_false fun z => h.1 z.symm
    rw [e2]
    exact ih h.2
theorem any_mk {x : Str} : ((mkL enc ns f).any fun p => decide (p.1 = x)) = decide (x ∈ ns) := by
  unfold mkL
  rw [List.any_map]
  by_cases h : x ∈ ns
  · rw [decide_eq_true h, List.any_eq_true]
    exact ⟨x, h, by simp⟩
  · rw [decide_eq_false h, List.any_eq_false]
    intro y hy
    simp only [Function.comp, decide_eq_true_eq]
    exact fun e => h (e ▸ hy)
theorem putS_mk {x : Str} (h : x ∈ ns) (v : β) : putS (mkL enc ns f) x (enc v) = mkL enc ns (ups f x v) := by
  unfold putS
  rw [any_mk, decide_eq_true h, if_pos rfl]
  unfold mkL
  rw [List.map_map]
  apply List.map_congr_left
  intro y _
  by_cases e : y = x
  · simp [e, ups]
  · simp [e, ups]
theorem putS_new {x : Str} (h : x ∉ ns) (v : β) : putS (mkL enc ns f) x (enc v) = mkL enc (ns ++ [x]) (ups f x v) := by
  unfold putS
  rw [any_mk, decide_eq_false h, if_neg (by simp)]
  unfold mkL
  rw [List.map_append, List.map_singleton, ups_self]
  congr 1
  apply List.map_congr_left
  intro y hy
  have hne : y ≠ x := fun e => h (by rw [← e]; exact hy)
  rw [ups_ne hne]
def addS (a : List Str) (x : Str) : List Str := if x ∈ a then a else a ++ [x]
theorem putS_add (x : Str) : putS (mkL enc ns f) x (enc (f x)) = mkL enc (addS ns x) f := by
  unfold addS
  by_cases h : x ∈ ns
  · rw [if_pos h, putS_mk h, ups_id]
  · rw [if_neg h, putS_new h, ups_id]
theorem putS_fold {α : Type} (kf : α → Str) (vf : α → D) : ∀ (xs : List α) (ns : List Str), (∀ x ∈ xs, vf x = enc (f (kf x))) → xs.foldl (fun a x => putS a (kf x) (vf x)) (mkL enc ns f) = mkL enc ((xs.map kf).foldl addS ns) f
  | [], _, _ => rfl
  | x :: xs, ns, h => by
    rw [List.foldl_cons, List.map_cons, List.foldl_cons, h x List.mem_cons_self, putS_add]
    exact putS_fold kf vf xs _ fun y m => h y (.tail _ m)
theorem uq_fold (xs : List Str) : xs.foldl addS [] = uq xs := rfl
end
theorem addS_le (a : List Str) (x : Str) : (addS a x).length ≤ a.length + 1 := by
  unfold addS
  split
  · omega
  · rw [List.length_append, List.length_singleton]; omega
theorem putS_le (l : TDc) (x : Str) (d : D) : (putS l x d).length ≤ l.length + 1 := by
  unfold putS
  split
  · rw [List.length_map]; omega
  · rw [List.length_append, List.length_singleton]; omega
/-- a dict comprehension that leaves the store -/
theorem dcL_map {α : Type} {enc : α → D} {kf : α → Str} {vf : α → D} {n : NX} {k e : EX} {ρ : LEnv} {S : Store} : ∀ (xs : List α) (acc : TDc), acc.length + xs.length ≤ 16777216 → (∀ x ∈ xs, ∃ ρ', n (enc x) ρ = some ρ' ∧ k ρ' S = .ok (.str (kf x), S) ∧ e ρ' S = .ok (vf x, S)) →
    dcL n bTrue k e (xs.map enc) (tdP acc) ρ S = .ok (tdP (xs.foldl (fun a x => putS a (kf x) (vf x)) acc), S)
  | [], _, _, _ => rfl
  | x :: xs, acc, hl, h => by
    obtain ⟨ρ', h1, h2, h3⟩ := h x List.mem_cons_self
    rw [List.length_cons] at hl
    have ih := dcL_map xs (putS acc (kf x) (vf x)) (by have := putS_le acc (kf x) (vf x); omega) fun y m => h y (.tail _ m)
    rw [List.map_cons, List.foldl_cons, ← ih, ← putP_td]
    have hz : (tdP acc).length < sizeLine := by
      unfold tdP
      rw [List.length_map]
      show _ < 16777216
      omega
    conv => lhs; unfold dcL
    rw [h1]
    simp only [bTrue_a, Out.calm_ok, Out.bind_ok, if_true, h2, h3, keyK, hz]
/-- .. the store going along -/
theorem dcL_st {α σ : Type} {enc : α → D} {kf : α → Str} (R : σ → Store → Prop) (f : σ → α → D × σ) {n : NX} {k e : EX} {ρ : LEnv} : ∀ (xs : List α) (acc : TDc) (s : σ) (S : Store), acc.length + xs.length ≤ 16777216 → R s S →
    (∀ s x S, x ∈ xs → R s S → ∃ ρ' S2, n (enc x) ρ = some ρ' ∧ k ρ' S = .ok (.str (kf x), S) ∧ e ρ' S = .ok ((f s x).1, S2) ∧ R (f s x).2 S2) →
    ∃ S', dcL n bTrue k e (xs.map enc) (tdP acc) ρ S = .ok (tdP (xs.foldl (fun (p : TDc × σ) x => (putS p.1 (kf x) (f p.2 x).1, (f p.2 x).2)) (acc, s)).1, S') ∧ R (xs.foldl (fun (p : TDc × σ) x => (putS p.1 (kf x) (f p.2 x).1, (f p.2 x).2)) (acc, s)).2 S'
  | [], _, _, S, _, h, _ => ⟨S, rfl, h⟩
  | x :: xs, acc, s, S, hl, h, st => by
    obtain ⟨ρ', S2, h1, h2, h3, h4⟩ := st s x S List.mem_cons_self h
    rw [List.length_cons] at hl
    obtain ⟨S', e1, e2⟩ := dcL_st R f xs (putS acc (kf x) (f s x).1) (f s x).2 S2 (by have := putS_le acc (kf x) (f s x).1; omega) h4 fun s y S m p => st s y S (.tail _ m) p
    refine ⟨S', ?_, by rw [List.foldl_cons]; exact e2⟩
    rw [List.map_cons, List.foldl_cons, ← e1, ← putP_td]
    have hz : (tdP acc).length < sizeLine := by
      unfold tdP
      rw [List.length_map]
      show _ < 16777216
      omega
    conv => lhs; unfold dcL
    rw [h1]
    simp only [bTrue_a, Out.calm_ok, Out.bind_ok, if_true, h2, h3, keyK, hz]
theorem mDc_map {α : Type} {enc : α → D} {kf : α → Str} {vf : α → D} {i : IX} {n : NX} {k e : EX} {vs : List Nat} {ρ : LEnv} {S S1 : Store} {xs : List α} (hi : i ρ S = .ok (xs.map enc, S1)) (hl : xs.length ≤ 16777216) (h : ∀ x ∈ xs, ∃ ρ', n (enc x) (wipeD ρ vs) = some ρ' ∧ k ρ' S1 = .ok (.str (kf x), S1) ∧ e ρ' S1 = .ok (vf x, S1)) :
    mDc i n bTrue k e vs ρ S = .ok (tdM (xs.foldl (fun a x => putS a (kf x) (vf x)) []), S1) := by
  rw [mDc_a, hi]
  show (dcL n bTrue k e (xs.map enc) [] (wipeD ρ vs) S1).bind _ = _
  have := dcL_map (ρ := wipeD ρ vs) xs [] (by simpa using hl) h
  rw [show tdP [] = [] from rfl] at this
  rw [this]
  show Out.ok (dicP (tdP _), S1) = _
  rw [dicP_td]
/-- the usual form: the dict of a function on names -/
theorem mDc_mk {β : Type} {enc : β → D} {f : Str → β} {i : IX} {n : NX} {k e : EX} {vs : List Nat} {ρ : LEnv} {S S1 : Store} {xs : List Str} (hi : i ρ S = .ok (xs.map D.str, S1)) (hl : xs.length ≤ 16777216)
    (h : ∀ x ∈ xs, ∃ ρ', n (.str x) (wipeD ρ vs) = some ρ' ∧ k ρ' S1 = .ok (.str x, S1) ∧ e ρ' S1 = .ok (enc (f x), S1)) : mDc i n bTrue k e vs ρ S = .ok (tdM (mkL enc (uq xs) f), S1) := by
  rw [mDc_map (kf := fun x => x) (vf := fun x => enc (f x)) hi hl h]
  have := putS_fold (enc := enc) (f := f) (fun x : Str => x) (fun x => enc (f x)) xs [] fun _ _ => rfl
  rw [List.map_id'] at this
  exact congrArg (fun l => Out.ok (tdM l, S1)) this
theorem uq_of_nodup {xs : List Str} (h : xs.Nodup) : uq xs = xs := uq_nodup _ _ rfl h
end GG
end

section
/-! G.R1: programs of deeds and rounds: what they do, and pushes. Plain Lean. -/
set_option linter.all false
set_option maxRecDepth 100000
namespace GG
open PySem L2
inductive Dd where
  | zero (x : Str) | copy (x y : Str) | more (x : Str)
inductive Stm where
  | deed (d : Dd) | round (x : Str) (ds : List Dd)
def ddD : Dd → D
  | .zero x => .tup [.str "zero", .str x]
  | .copy x y => .tup [.str "copy", .str x, .str y]
  | .more x => .tup [.str "more", .str x]
def stD : Stm → D
  | .deed d => ddD d
  | .round x ds => .tup [.str "round", .str x, .tup (ds.map ddD)]
def Dd.names : Dd → List Str
  | .zero x => [x]
  | .copy x y => [x, y]
  | .more x => [x]
def Stm.names : Stm → List Str
  | .deed d => d.names
  | .round x ds => x :: ds.flatMap Dd.names
/-- the numbers under the names -/
abbrev Nums := Str → Nat
def doD (d : Dd) (f : Nums) : Nums := match d with
  | .zero x => ups f x 0
  | .copy x y => ups f x (f y)
  | .more x => ups f x (f x + 1)
def doDs (ds : List Dd) (f : Nums) : Nums := ds.foldl (fun f d => doD d f) f
def iter {α : Type} (g : α → α) : Nat → α → α
  | 0, a => a
  | n + 1, a => iter g n (g a)
theorem iter_add {α : Type} (g : α → α) : ∀ (m n : Nat) (a : α), iter g (m + n) a = iter g n (iter g m a)
  | 0, n, a => by rw [Nat.zero_add]; rfl
  | m + 1, n, a => by rw [show m + 1 + n = (m + n) + 1 from by omega]; exact iter_add g m n (g a)
theorem iter_comm {α : Type} (g : α → α) : ∀ (n : Nat) (a : α), iter g n (g a) = g (iter g n a)
  | 0, _ => rfl
  | n + 1, a => iter_comm g n (g a)
theorem iter_two {α : Type} (g : α → α) : ∀ (n : Nat) (a : α), iter (fun a => g (g a)) n a = iter g (2 * n) a
  | 0, _ => rfl
  | n + 1, a => iter_two g n (g (g a))
def doS (s : Stm) (f : Nums) : Nums := match s with
  | .deed d => doD d f
  | .round x ds => iter (doDs ds) (f x) f
def runB (b : List Stm) (f : Nums) : Nums := b.foldl (fun f s => doS s f) f
/-- how many deeds a statement is -/
def manyS (s : Stm) (f : Nums) : Nat := match s with
  | .deed _ => 1
  | .round x ds => 1 + f x * ds.length
/-! ### pushes -/
abbrev Push := Str → Option Str × Nat
def srcD : Option Str → D
  | none => .non
  | some x => .str x
def prs (p : Option Str × Nat) : D := .tup [srcD p.1, .int (p.2 : Nat)]
def ap (p : Push) (f : Nums) : Nums := fun y => match (p y).1 with
  | none => (p y).2
  | some s => f s + (p y).2
def p0 : Push := fun y => (some y, 0)
def pD (p : Push) (d : Dd) : Push := match d with
  | .zero x => ups p x (none, 0)
  | .copy x y => ups p x (p y)
  | .more x => ups p x ((p x).1, (p x).2 + 1)
def pDs (ds : List Dd) : Push := ds.foldl pD p0
def pAfter (p q : Push) : Push := fun y => match (q y).1 with
  | none => (none, (q y).2)
  | some s => ((p s).1, (p s).2 + (q y).2)
theorem ap_0 (f : Nums) : ap p0 f = f := rfl
theorem ap_D (p : Push) (d : Dd) (f : Nums) : ap (pD p d) f = doD d (ap p f) := by
  funext y
  cases d with
  | zero x =>
    by_cases h : y = x
    · subst h; simp [ap, pD, doD, ups]
    · simp [ap, pD, doD, ups, h]
  | copy x z =>
    by_cases h : y = x
    · subst h; simp [ap, pD, doD, ups]
    · simp [ap, pD, doD, ups, h]
  | more x =>
    by_cases h : y = x
    · subst h
      simp only [ap, pD, doD, ups_self]
      cases e : (p y).1 with
      | none => simp [e]
      | some s => simp [e]; omega
    · simp [ap, pD, doD, ups, h]
theorem ap_foldD (ds : List Dd) (f : Nums) : ∀ p : Push, ap (ds.foldl pD p) f = doDs ds (ap p f) := by
  induction ds with
  | nil => intro p; rfl
  | cons d ds ih =>
    intro p
    rw [List.foldl_cons, ih, ap_D]
    rfl
theorem ap_Ds (ds : List Dd) (f : Nums) : ap (pDs ds) f = doDs ds f := ap_foldD ds f p0
theorem ap_after (p q : Push) (f : Nums) : ap (pAfter p q) f = ap q (ap p f) := by
  funext y
  simp only [ap, pAfter]
  cases e : (q y).1 with
  | none => simp
  | some s =>
    dsimp only
    cases e2 : (p s).1 with
    | none => simp
    | some t => simp; omega
/-- a push within the names -/
def PIn (ns : List Str) (p : Push) : Prop := ∀ x ∈ ns, ∀ s, (p x).1 = some s → s ∈ ns
theorem pin_0 (ns : List Str) : PIn ns p0 := fun x hx s e => by cases e; exact hx
theorem pin_D {ns : List Str} {p : Push} {d : Dd} (h : PIn ns p) (hd : ∀ x ∈ d.names, x ∈ ns) : PIn ns (pD p d) := fun x hx s e => by
  cases d with
  | zero y =>
    by_cases z : x = y
    · subst z; simp [pD, ups] at e
    · exact h x hx s (by simpa [pD, ups, z] using e)
  | copy y u =>
    by_cases z : x = y
    · subst z; exact h u (hd u (by simp [Dd.names])) s (by simpa [pD, ups] using e)
    · exact h x hx s (by simpa [pD, ups, z] using e)
  | more y =>
    by_cases z : x = y
    · subst z; exact h x hx s (by simpa [pD, ups] using e)
    · exact h x hx s (by simpa [pD, ups, z] using e)
theorem pin_fold {ns : List Str} : ∀ {ds : List Dd} {p : Push}, PIn ns p → (∀ d ∈ ds, ∀ x ∈ d.names, x ∈ ns) → PIn ns (ds.foldl pD p)
  | [], _, h, _ => h
  | d :: ds, _, h, k => pin_fold (ds := ds) (pin_D h (k d List.mem_cons_self)) fun e m => k e (.tail _ m)
theorem pin_after {ns : List Str} {p q : Push} (hp : PIn ns p) (hq : PIn ns q) : PIn ns (pAfter p q) := fun x hx s e => by
  simp only [pAfter] at e
  cases e2 : (q x).1 with
  | none => rw [e2] at e; cases e
  | some t => rw [e2] at e; exact hp t (hq x hx t e2) s e
/-- by halves: found is what is done, power what a turn is, left how often -/
def pTimes : Nat → Nat → Push → Push → Push
  | 0, _, found, _ => found
  | k + 1, left, found, power => if left = 0 then found else pTimes k (left / 2) (if left % 2 = 1 then pAfter found power else found) (pAfter power power)
theorem ap_times : ∀ (k left : Nat) (found power : Push) (f : Nums), left < 2 ^ k → ap (pTimes k left found power) f = iter (ap power) left (ap found f)
  | 0, left, found, power, f, h => by
    have : left = 0 := by simpa using h
    subst this
    rfl
  | k + 1, left, found, power, f, h => by
    unfold pTimes
    by_cases hz : left = 0
    · rw [if_pos hz, hz]; rfl
    · rw [if_neg hz, ap_times k _ _ _ _ (by rw [Nat.pow_succ] at h; omega)]
      have e : ap (pAfter power power) = fun f => ap power (ap power f) := by funext f; exact ap_after _ _ _
      rw [e, iter_two]
      by_cases ho : left % 2 = 1
      · rw [if_pos ho, ap_after]
        have : left = 1 + 2 * (left / 2) := by omega
        conv => rhs; rw [this, iter_add]
        rfl
      · rw [if_neg ho]
        have : left = 2 * (left / 2) := by omega
        conv => rhs; rw [this]
/-! ### what stays within bounds -/
def Bd (f : Nums) (M : Nat) : Prop := ∀ x, f x ≤ M
theorem bd_up {f : Nums} {M v : Nat} {x : Str} (h : Bd f M) (hv : v ≤ M) : Bd (ups f x v) M := fun y => by
  unfold ups
  split
  · exact hv
  · exact h y
theorem bd_D {f : Nums} {M : Nat} (d : Dd) (h : Bd f M) : Bd (doD d f) (M + 1) := by
  have h1 : Bd f (M + 1) := fun y => Nat.le_succ_of_le (h y)
  cases d with
  | zero x => exact bd_up h1 (Nat.zero_le _)
  | copy x y => exact bd_up h1 (h1 y)
  | more x => exact bd_up h1 (Nat.succ_le_succ (h x))
theorem bd_Ds : ∀ (ds : List Dd) {f : Nums} {M : Nat}, Bd f M → Bd (doDs ds f) (M + ds.length)
  | [], _, _, h => h
  | d :: ds, f, M, h => by
    have := bd_Ds ds (bd_D d h)
    rw [List.length_cons, show M + (ds.length + 1) = M + 1 + ds.length from by omega]
    exact this
theorem bd_iter (ds : List Dd) : ∀ (n : Nat) {f : Nums} {M : Nat}, Bd f M → Bd (iter (doDs ds) n f) (M + n * ds.length)
  | 0, _, _, h => by rw [Nat.zero_mul]; exact h
  | n + 1, f, M, h => by
    have := bd_iter ds n (bd_Ds ds h)
    rw [show M + (n + 1) * ds.length = M + ds.length + n * ds.length from by rw [Nat.succ_mul]; omega]
    exact this
def Stm.len : Stm → Nat
  | .deed _ => 0
  | .round _ ds => ds.length
theorem bd_S (s : Stm) {f : Nums} {M L : Nat} (hs : s.len ≤ L) (h : Bd f M) : Bd (doS s f) ((M + 1) * (L + 1)) := by
  cases s with
  | deed d => exact fun y => Nat.le_trans (bd_D d h y) (Nat.le_mul_of_pos_right _ (Nat.succ_pos L))
  | round x ds =>
    intro y
    have h1 := bd_iter ds (f x) h y
    have h2 : f x * ds.length ≤ M * L := Nat.mul_le_mul (h x) hs
    have h3 : (M + 1) * (L + 1) = M * L + M + L + 1 := by rw [Nat.add_mul, Nat.mul_add, Nat.mul_one]; omega
    show iter (doDs ds) (f x) f y ≤ _
    omega
/-- what the names do not hold stays -/
theorem doD_out {d : Dd} {f : Nums} {x : Str} (h : x ∉ d.names) : doD d f x = f x := by
  cases d <;> (simp [Dd.names] at h; simp [doD, ups, h])
theorem doDs_out : ∀ {ds : List Dd} {f : Nums} {x : Str}, (∀ d ∈ ds, x ∉ d.names) → doDs ds f x = f x
  | [], _, _, _ => rfl
  | d :: ds, f, x, h => by
    show doDs ds (doD d f) x = _
    rw [doDs_out fun e m => h e (.tail _ m), doD_out (h d List.mem_cons_self)]
theorem iter_out {ds : List Dd} {x : Str} (h : ∀ d ∈ ds, x ∉ d.names) : ∀ (n : Nat) (f : Nums), iter (doDs ds) n f x = f x
  | 0, _ => rfl
  | n + 1, f => by
    show iter (doDs ds) n (doDs ds f) x = _
    rw [iter_out h n, doDs_out h]
theorem doS_out {s : Stm} {f : Nums} {x : Str} (h : x ∉ s.names) : doS s f x = f x := by
  cases s with
  | deed d => exact doD_out h
  | round y ds =>
    simp only [Stm.names, List.mem_cons, not_or, List.mem_flatMap, not_exists, not_and] at h
    exact iter_out (fun d m z => h.2 d m z) _ _
theorem runB_out : ∀ {b : List Stm} {f : Nums} {x : Str}, (∀ s ∈ b, x ∉ s.names) → runB b f x = f x
  | [], _, _, _ => rfl
  | s :: b, f, x, h => by
    show runB b (doS s f) x = _
    rw [runB_out fun e m => h e (.tail _ m), doS_out (h s List.mem_cons_self)]
/-- two that agree on the names agree behind them -/
def Agr (ns : List Str) (f g : Nums) : Prop := ∀ x ∈ ns, f x = g x
theorem agr_D {ns : List Str} {d : Dd} {f g : Nums} (h : Agr ns f g) (hd : ∀ x ∈ d.names, x ∈ ns) : Agr ns (doD d f) (doD d g) := fun x hx => by
  cases d with
  | zero y =>
    show (if x = y then _ else _) = (if x = y then _ else _)
    split
    · rfl
    · exact h x hx
  | copy y z =>
    show (if x = y then _ else _) = (if x = y then _ else _)
    split
    · exact h z (hd z (by simp [Dd.names]))
    · exact h x hx
  | more y =>
    show (if x = y then _ else _) = (if x = y then _ else _)
    split
    · rw [h y (hd y (by simp [Dd.names]))]
    · exact h x hx
theorem agr_Ds {ns : List Str} : ∀ {ds : List Dd} {f g : Nums}, Agr ns f g → (∀ d ∈ ds, ∀ x ∈ d.names, x ∈ ns) → Agr ns (doDs ds f) (doDs ds g)
  | [], _, _, h, _ => h
  | d :: ds, _, _, h, k => agr_Ds (ds := ds) (agr_D h (k d List.mem_cons_self)) fun e m => k e (.tail _ m)
theorem agr_iter {ns : List Str} {ds : List Dd} (k : ∀ d ∈ ds, ∀ x ∈ d.names, x ∈ ns) : ∀ (n : Nat) {f g : Nums}, Agr ns f g → Agr ns (iter (doDs ds) n f) (iter (doDs ds) n g)
  | 0, _, _, h => h
  | n + 1, _, _, h => agr_iter k n (agr_Ds h k)
theorem agr_S {ns : List Str} {s : Stm} {f g : Nums} (h : Agr ns f g) (hs : ∀ x ∈ s.names, x ∈ ns) : Agr ns (doS s f) (doS s g) := by
  cases s with
  | deed d => exact agr_D h hs
  | round y ds =>
    have e : f y = g y := h y (hs y (by simp [Stm.names]))
    unfold doS
    dsimp only
    rw [e]
    exact agr_iter (fun d m x hx => hs x (by simp only [Stm.names, List.mem_cons, List.mem_flatMap]; exact .inr ⟨d, m, hx⟩)) _ h
theorem agr_B {ns : List Str} : ∀ {b : List Stm} {f g : Nums}, Agr ns f g → (∀ s ∈ b, ∀ x ∈ s.names, x ∈ ns) → Agr ns (runB b f) (runB b g)
  | [], _, _, h, _ => h
  | s :: b, _, _, h, k => agr_B (b := b) (agr_S h (k s List.mem_cons_self)) fun e m => k e (.tail _ m)
theorem runB_app (a b : List Stm) (f : Nums) : runB (a ++ b) f = runB b (runB a f) := List.foldl_append
theorem runB_cons (s : Stm) (b : List Stm) (f : Nums) : runB (s :: b) f = runB b (doS s f) := rfl
end GG
end

section
set_option linter.all false
set_option maxRecDepth 100000
namespace LW
open PySem L2 GG
open PyProof.Rows hiding St

def top (i : Nat) : Stmt := PySem.Challenge.pw_flatrounds_k85_whole_clocks.main.body.getD i (.Pass ⟨0, 0, 0, 0⟩)
def clW : Wp := ⟨fun _ _ _ => False, fun c => c ∈ (["Program", "RawProgram"] : List Str), none⟩
structure Ad where
  f_is_integer : Addr
  f_is_number : Addr
  f_is_name : Addr
  f_are_names : Addr
  f_are_numbers : Addr
  f_check_input : Addr
  f_is_deed : Addr
  f_is_round : Addr
  f_wrong_place : Addr
  f_size_of : Addr
  f_Program___init__ : Addr
  f_Program___eq__ : Addr
  f_RawProgram___init__ : Addr
  f_deeds_in : Addr
  f_names_of : Addr
  f_names : Addr
  f_clocked : Addr
  f_with_clock : Addr
  f_raw_push : Addr
  f_source_number : Addr
  f_raw_pushed : Addr
  f_raw_after : Addr
  f_raw_times : Addr
  f_first_numbers : Addr
  f_statement_done : Addr
  f_parts : Addr
  f_raw_last : Addr
  f_raw_results : Addr
  f_results : Addr
  f_deeds : Addr
  f__law_pot : Addr
  f__law_draw : Addr
  f__law_any : Addr
  f__law_mixed : Addr
  f__law_deed : Addr
  f__law_wheel : Addr
  f__law_spec : Addr
  f__law_names : Addr
  f__law_do : Addr
  f__law_first : Addr
  f__law_end : Addr
  f__law_told : Addr
  f__law_input : Addr
  f__law_deep : Addr
  f__law_clocked : Addr
  f__law_many : Addr
  f__law_word : Addr
  f_law : Addr
  c_BadProgram : Addr
  c_NoInput : Addr
  c_NoName : Addr
  c_Program : Addr
  c_RawProgram : Addr
  c_RoundError : Addr
def ctab : CTab := [("Program", ["Program"]), ("RawProgram", ["RawProgram", "Program"])]
def etab : ETab := [("RoundError", ["RoundError", "ValueError"]), ("BadProgram", ["BadProgram", "RoundError", "ValueError"]), ("NoInput", ["NoInput", "RoundError", "ValueError"]), ("NoName", ["NoName", "RoundError", "ValueError"])]
structure Tx (K : PySem.W.Frag) (mg : Str → Option Value) (A : Ad) : Prop where
  g_BadProgram : mg "BadProgram" = some (.ref A.c_BadProgram)
  g_NoInput : mg "NoInput" = some (.ref A.c_NoInput)
  g_NoName : mg "NoName" = some (.ref A.c_NoName)
  g_Program : mg "Program" = some (.ref A.c_Program)
  g_RawProgram : mg "RawProgram" = some (.ref A.c_RawProgram)
  g_RoundError : mg "RoundError" = some (.ref A.c_RoundError)
  g__law_any : mg "_law_any" = some (.ref A.f__law_any)
  g__law_clocked : mg "_law_clocked" = some (.ref A.f__law_clocked)
  g__law_deed : mg "_law_deed" = some (.ref A.f__law_deed)
  g__law_deep : mg "_law_deep" = some (.ref A.f__law_deep)
  g__law_do : mg "_law_do" = some (.ref A.f__law_do)
  g__law_draw : mg "_law_draw" = some (.ref A.f__law_draw)
  g__law_end : mg "_law_end" = some (.ref A.f__law_end)
  g__law_first : mg "_law_first" = some (.ref A.f__law_first)
  g__law_input : mg "_law_input" = some (.ref A.f__law_input)
  g__law_many : mg "_law_many" = some (.ref A.f__law_many)
  g__law_mixed : mg "_law_mixed" = some (.ref A.f__law_mixed)
  g__law_names : mg "_law_names" = some (.ref A.f__law_names)
  g__law_pot : mg "_law_pot" = some (.ref A.f__law_pot)
  g__law_spec : mg "_law_spec" = some (.ref A.f__law_spec)
  g__law_told : mg "_law_told" = some (.ref A.f__law_told)
  g__law_wheel : mg "_law_wheel" = some (.ref A.f__law_wheel)
  g__law_word : mg "_law_word" = some (.ref A.f__law_word)
  g_are_names : mg "are_names" = some (.ref A.f_are_names)
  g_are_numbers : mg "are_numbers" = some (.ref A.f_are_numbers)
  g_check_input : mg "check_input" = some (.ref A.f_check_input)
  g_clocked : mg "clocked" = some (.ref A.f_clocked)
  g_deeds : mg "deeds" = some (.ref A.f_deeds)
  g_deeds_in : mg "deeds_in" = some (.ref A.f_deeds_in)
  g_first_numbers : mg "first_numbers" = some (.ref A.f_first_numbers)
  g_is_deed : mg "is_deed" = some (.ref A.f_is_deed)
  g_is_integer : mg "is_integer" = some (.ref A.f_is_integer)
  g_is_name : mg "is_name" = some (.ref A.f_is_name)
  g_is_number : mg "is_number" = some (.ref A.f_is_number)
  g_is_round : mg "is_round" = some (.ref A.f_is_round)
  g_names : mg "names" = some (.ref A.f_names)
  g_names_of : mg "names_of" = some (.ref A.f_names_of)
  g_parts : mg "parts" = some (.ref A.f_parts)
  g_raw_after : mg "raw_after" = some (.ref A.f_raw_after)
  g_raw_last : mg "raw_last" = some (.ref A.f_raw_last)
  g_raw_push : mg "raw_push" = some (.ref A.f_raw_push)
  g_raw_pushed : mg "raw_pushed" = some (.ref A.f_raw_pushed)
  g_raw_results : mg "raw_results" = some (.ref A.f_raw_results)
  g_raw_times : mg "raw_times" = some (.ref A.f_raw_times)
  g_results : mg "results" = some (.ref A.f_results)
  g_size_of : mg "size_of" = some (.ref A.f_size_of)
  g_source_number : mg "source_number" = some (.ref A.f_source_number)
  g_statement_done : mg "statement_done" = some (.ref A.f_statement_done)
  g_with_clock : mg "with_clock" = some (.ref A.f_with_clock)
  g_wrong_place : mg "wrong_place" = some (.ref A.f_wrong_place)
  g_MOST_STATEMENTS : ∃ u, mg "MOST_STATEMENTS" = some u ∧ RelV (.int 5000) u
  g_MOST_TOLD : ∃ u, mg "MOST_TOLD" = some u ∧ RelV (.int 4) u
  n_ValueError : mg "ValueError" = none
  n_abs : mg "abs" = none
  n_all : mg "all" = none
  n_bool : mg "bool" = none
  n_enumerate : mg "enumerate" = none
  n_int : mg "int" = none
  n_isinstance : mg "isinstance" = none
  n_len : mg "len" = none
  n_list : mg "list" = none
  n_range : mg "range" = none
  n_set : mg "set" = none
  n_sorted : mg "sorted" = none
  n_str : mg "str" = none
  n_sum : mg "sum" = none
  n_tuple : mg "tuple" = none
  n_zip : mg "zip" = none
  f_block : FldOk K mg clW "block"
  f_given : FldOk K mg clW "given"
  f_told : FldOk K mg clW "told"
  tc : CTabOk K mg ctab
  te : ETabOk K mg etab
  mk_Program : Mk K A.c_Program A.f_Program___init__
  mk_RawProgram : Mk K A.c_RawProgram A.f_RawProgram___init__
  xi_NoInput : PySem.W.excIn K A.c_NoInput [.type "ValueError", .type "Exception", .type "BaseException", .type "object"] "ValueError.__new__" = true
  xk_NoInput : PySem.W.keepIn K (.ref A.c_NoInput) = true
  xs_NoInput : PySem.W.subIn K (.ref A.c_NoInput) (.type "BaseException") = some true
  xt_NoInput : PySem.W.typeIn K (.ref A.c_NoInput) = some (.type "type")
  xi_NoName : PySem.W.excIn K A.c_NoName [.type "ValueError", .type "Exception", .type "BaseException", .type "object"] "ValueError.__new__" = true
  xk_NoName : PySem.W.keepIn K (.ref A.c_NoName) = true
  xs_NoName : PySem.W.subIn K (.ref A.c_NoName) (.type "BaseException") = some true
  xt_NoName : PySem.W.typeIn K (.ref A.c_NoName) = some (.type "type")
  xi_RoundError : PySem.W.excIn K A.c_RoundError [.type "ValueError", .type "Exception", .type "BaseException", .type "object"] "ValueError.__new__" = true
  xk_RoundError : PySem.W.keepIn K (.ref A.c_RoundError) = true
  xs_RoundError : PySem.W.subIn K (.ref A.c_RoundError) (.type "BaseException") = some true
  xt_RoundError : PySem.W.typeIn K (.ref A.c_RoundError) = some (.type "type")
  eq_Program : EqCls K A.c_Program A.f_Program___eq__
  eq_RawProgram : EqCls K A.c_RawProgram A.f_Program___eq__
  es_Program : PySem.W.notFirst K A.c_Program (.type "str") = true
  es_RawProgram : PySem.W.notFirst K A.c_RawProgram (.type "str") = true
  nf_Program_Program : PySem.W.notFirst K A.c_Program (.ref A.c_Program) = true
  nf_RawProgram_Program : PySem.W.notFirst K A.c_RawProgram (.ref A.c_Program) = true
  nf_RawProgram_RawProgram : PySem.W.notFirst K A.c_RawProgram (.ref A.c_RawProgram) = true
theorem kc_Program : clW.kc "Program" := by simp [clW]
theorem kc_RawProgram : clW.kc "RawProgram" := by simp [clW]
variable {P : Program} {w : World} {K : PySem.W.Frag} {mg : Str → Option Value} {base : Heap} {A : Ad}
/-! ### is_integer -/
theorem sc_is_integer : FnScope ["thing"] ["thing"] (defScope (top 6)) := ⟨rfl, rfl, rfl, by decide +kernel, rfl, by decide +kernel, by decide +kernel⟩
noncomputable def b_is_integer : SX := (sRet (eAnd (eIsi1 ctab (.ty "int") (eV 0)) (eNot (eIsi1 ctab (.ty "bool") (eV 0)))))
noncomputable def d_is_integer : Den := runD 1 0 b_is_integer
theorem p_is_integer (T : Tx K mg A)  {f : Addr} : ∀ (cdv : Value) (A : Around) (outer : List Env) (s : Shared) (H : Hp) (E : XK), Room 0 (A.deeper (envOfC "is_integer" (defScope (top 6)) s.heap.objs.size f cdv)) →
    GSs clW (cxOf (L2.CX P w) P w K mg base ["thing"] "is_integer" (defScope (top 6)) f cdv A outer s H E) (defBody (top 6)) b_is_integer := fun cdv A outer s H E hr => by
  have sc := sc_is_integer
  have hu := hr.units
  have hu1 := hu_of hr
  have TC := T.tc
  have TE := T.te
  exact (gss_one (gs_ret (ge_and (ge_isi1 (k := (.ty "int")) TC rfl T.n_isinstance (ge_var rfl (.inl rfl) rfl rfl) (pe_bltn (v := .ty "int") (u := .type "int") rfl T.n_int (by decide +kernel) rfl (by decide) (by decide)) rfl rfl) (ge_one (ge_not (ge_isi1 (k := (.ty "bool")) TC rfl T.n_isinstance (ge_var rfl (.inl rfl) rfl rfl) (pe_bltn (v := .ty "bool") (u := .type "bool") rfl T.n_bool (by decide +kernel) rfl (by decide) (by decide)) rfl rfl))))))

/-! ### is_number -/
theorem sc_is_number : FnScope ["thing"] ["thing"] (defScope (top 7)) := ⟨rfl, rfl, rfl, by decide +kernel, rfl, by decide +kernel, by decide +kernel⟩
noncomputable def b_is_number : SX := (sRet (eAnd (eCall d_is_integer (aC (eV 0) aN)) (eCmp geD (eV 0) (eC (.int 0)))))
noncomputable def d_is_number : Den := runD 1 0 b_is_number
theorem p_is_number (T : Tx K mg A) (F_is_integer : FnD P w K mg base clW 1 1 A.f_is_integer d_is_integer) {f : Addr} : ∀ (cdv : Value) (A : Around) (outer : List Env) (s : Shared) (H : Hp) (E : XK), Room 1 (A.deeper (envOfC "is_number" (defScope (top 7)) s.heap.objs.size f cdv)) →
    GSs clW (cxOf (L2.CX P w) P w K mg base ["thing"] "is_number" (defScope (top 7)) f cdv A outer s H E) (defBody (top 7)) b_is_number := fun cdv A outer s H E hr => by
  have sc := sc_is_number
  have hu := hr.units
  have hu1 := hu_of hr
  have TC := T.tc
  have TE := T.te
  exact (gss_one (gs_ret (ge_and (ge_call F_is_integer (hr.mono (by decide)) rfl T.g_is_integer (ga_cons (ge_var rfl (.inl rfl) rfl rfl) ga_nil rfl) rfl rfl rfl) (ge_one (ge_cmp ok_ge (ge_var rfl (.inl rfl) rfl rfl) ge_int rfl)))))

/-! ### is_name -/
theorem sc_is_name : FnScope ["thing", "sign"] ["thing"] (defScope (top 8)) := ⟨rfl, rfl, rfl, by decide +kernel, rfl, by decide +kernel, by decide +kernel⟩
noncomputable def b_is_name : SX := (sRet (eAnd (eIsi1 ctab (.ty "str") (eV 0)) (eAnd (eChain leD leD (eC (.int 1)) (eH (hV 0) lenD) (eC (.int 8))) (eH (hE (eFz (mLc (iS (eV 0)) (gN 1) bTrue (eChain leD leD (eC (.str "a")) (eV 1) (eC (.str "z"))) [1]))) allD))))
noncomputable def d_is_name : Den := runD 1 1 b_is_name
theorem p_is_name (T : Tx K mg A)  {f : Addr} : ∀ (cdv : Value) (A : Around) (outer : List Env) (s : Shared) (H : Hp) (E : XK), Room 0 (A.deeper (envOfC "is_name" (defScope (top 8)) s.heap.objs.size f cdv)) →
    GSs clW (cxOf (L2.CX P w) P w K mg base ["thing", "sign"] "is_name" (defScope (top 8)) f cdv A outer s H E) (defBody (top 8)) b_is_name := fun cdv A outer s H E hr => by
  have sc := sc_is_name
  have hu := hr.units
  have hu1 := hu_of hr
  have TC := T.tc
  have TE := T.te
  exact (gss_one (gs_ret (ge_and (ge_isi1 (k := (.ty "str")) TC rfl T.n_isinstance (ge_var rfl (.inl rfl) rfl rfl) (pe_bltn (v := .ty "str") (u := .type "str") rfl T.n_str (by decide +kernel) rfl (by decide) (by decide)) rfl rfl) (ge_and (ge_chain ok_le ok_le ge_int (ge_b1 ok_len rfl T.n_len (by decide +kernel) (gh_var rfl (.inl rfl) rfl rfl) (by decide) rfl rfl) ge_int rfl) (ge_one (ge_b1 (ok_all rfl) rfl T.n_all (by decide +kernel) (gh_of (ge_fz (gm_lc (own := [("sign", 1)]) rfl sc.nd (gi_any (ge_var rfl (.inl rfl) rfl rfl)) (blkOk_by (by kernel_rfl)) (by decide) (fun _ _ _ _ _ => (gn_name sc.nd rfl (.inl rfl) (.inr rfl))) (fun _ _ _ _ _ => gts_nil) (fun _ _ _ _ _ => (ge_chain ok_le ok_le ge_str (ge_var rfl (.inl rfl) rfl rfl) ge_str rfl)) (fun _ => rfl)))) (by decide) rfl rfl))))))

/-! ### are_names -/
theorem sc_are_names : FnScope ["thing", "least", "most", "item"] ["thing", "least", "most"] (defScope (top 9)) := ⟨rfl, rfl, rfl, by decide +kernel, rfl, by decide +kernel, by decide +kernel⟩
noncomputable def b_are_names : SX := (sSeq (sIf (bOr (bNot (bT (eIsi1 ctab (.ty "tuple") (eV 0)))) (bNot (bV (eChain leD leD (eV 1) (eH (hV 0) lenD) (eV 2))))) ((sRet (eC (.bl false)))) (sNil))
    (sRet (eAnd (eH (hE (eFz (mLc (iS (eV 0)) (gN 3) bTrue (eCall d_is_name (aC (eV 3) aN)) [3]))) allD) (eCmp eqD (eH (hV 0) lensetD) (eH (hV 0) lenD)))))
noncomputable def d_are_names : Den := runD 3 1 b_are_names
theorem p_are_names (T : Tx K mg A) (F_is_name : FnD P w K mg base clW 1 1 A.f_is_name d_is_name) {f : Addr} : ∀ (cdv : Value) (A : Around) (outer : List Env) (s : Shared) (H : Hp) (E : XK), Room 1 (A.deeper (envOfC "are_names" (defScope (top 9)) s.heap.objs.size f cdv)) →
    GSs clW (cxOf (L2.CX P w) P w K mg base ["thing", "least", "most", "item"] "are_names" (defScope (top 9)) f cdv A outer s H E) (defBody (top 9)) b_are_names := fun cdv A outer s H E hr => by
  have sc := sc_are_names
  have hu := hr.units
  have hu1 := hu_of hr
  have TC := T.tc
  have TE := T.te
  exact (gss_cons (gs_if (gw_pt (gw_or (gt_not (gt_val (ge_isi1 (k := (.ty "tuple")) TC rfl T.n_isinstance (ge_var rfl (.inl rfl) rfl rfl) (pe_bltn (v := .ty "tuple") (u := .type "tuple") rfl T.n_tuple (by decide +kernel) rfl (by decide) (by decide)) rfl rfl) (fun _ => rfl))) (gw_or1 (gt_not (gt_chain ok_le ok_le (ge_var rfl (.inl rfl) rfl rfl) (ge_b1 ok_len rfl T.n_len (by decide +kernel) (gh_var rfl (.inl rfl) rfl rfl) (by decide) rfl rfl) (ge_var rfl (.inl rfl) rfl rfl) rfl))))) (gss_one (gs_ret ge_bl)) gss_nil) (gss_one (gs_ret (ge_and (ge_b1 (ok_all rfl) rfl T.n_all (by decide +kernel) (gh_of (ge_fz (gm_lc (own := [("item", 3)]) rfl sc.nd (gi_any (ge_var rfl (.inl rfl) rfl rfl)) (blkOk_by (by kernel_rfl)) (by decide) (fun _ _ _ _ _ => (gn_name sc.nd rfl (.inl rfl) (.inr rfl))) (fun _ _ _ _ _ => gts_nil) (fun _ _ _ _ _ => (ge_call F_is_name (hr.mono (by decide)) rfl T.g_is_name (ga_cons (ge_var rfl (.inl rfl) rfl rfl) ga_nil rfl) rfl rfl rfl)) (fun _ => rfl)))) (by decide) rfl rfl) (ge_one (ge_cmp (ok_eq hu) (ge_lenset rfl rfl T.n_len rfl T.n_set (gh_var rfl (.inl rfl) rfl rfl) rfl) (ge_b1 ok_len rfl T.n_len (by decide +kernel) (gh_var rfl (.inl rfl) rfl rfl) (by decide) rfl rfl) rfl))))))

/-! ### are_numbers -/
theorem sc_are_numbers : FnScope ["thing", "many", "item"] ["thing", "many"] (defScope (top 10)) := ⟨rfl, rfl, rfl, by decide +kernel, rfl, by decide +kernel, by decide +kernel⟩
noncomputable def b_are_numbers : SX := (sRet (eAnd (eIsi1 ctab (.ty "tuple") (eV 0)) (eAnd (eCmp eqD (eH (hV 0) lenD) (eV 1)) (eH (hE (eFz (mLc (iS (eV 0)) (gN 2) bTrue (eCall d_is_number (aC (eV 2) aN)) [2]))) allD))))
noncomputable def d_are_numbers : Den := runD 2 1 b_are_numbers
theorem p_are_numbers (T : Tx K mg A) (F_is_number : FnD P w K mg base clW 2 1 A.f_is_number d_is_number) {f : Addr} : ∀ (cdv : Value) (A : Around) (outer : List Env) (s : Shared) (H : Hp) (E : XK), Room 2 (A.deeper (envOfC "are_numbers" (defScope (top 10)) s.heap.objs.size f cdv)) →
    GSs clW (cxOf (L2.CX P w) P w K mg base ["thing", "many", "item"] "are_numbers" (defScope (top 10)) f cdv A outer s H E) (defBody (top 10)) b_are_numbers := fun cdv A outer s H E hr => by
  have sc := sc_are_numbers
  have hu := hr.units
  have hu1 := hu_of hr
  have TC := T.tc
  have TE := T.te
  exact (gss_one (gs_ret (ge_and (ge_isi1 (k := (.ty "tuple")) TC rfl T.n_isinstance (ge_var rfl (.inl rfl) rfl rfl) (pe_bltn (v := .ty "tuple") (u := .type "tuple") rfl T.n_tuple (by decide +kernel) rfl (by decide) (by decide)) rfl rfl) (ge_and (ge_cmp (ok_eq hu) (ge_b1 ok_len rfl T.n_len (by decide +kernel) (gh_var rfl (.inl rfl) rfl rfl) (by decide) rfl rfl) (ge_var rfl (.inl rfl) rfl rfl) rfl) (ge_one (ge_b1 (ok_all rfl) rfl T.n_all (by decide +kernel) (gh_of (ge_fz (gm_lc (own := [("item", 2)]) rfl sc.nd (gi_any (ge_var rfl (.inl rfl) rfl rfl)) (blkOk_by (by kernel_rfl)) (by decide) (fun _ _ _ _ _ => (gn_name sc.nd rfl (.inl rfl) (.inr rfl))) (fun _ _ _ _ _ => gts_nil) (fun _ _ _ _ _ => (ge_call F_is_number (hr.mono (by decide)) rfl T.g_is_number (ga_cons (ge_var rfl (.inl rfl) rfl rfl) ga_nil rfl) rfl rfl rfl)) (fun _ => rfl)))) (by decide) rfl rfl))))))

/-! ### check_input -/
theorem sc_check_input : FnScope ["thing", "many"] ["thing", "many"] (defScope (top 11)) := ⟨rfl, rfl, rfl, by decide +kernel, rfl, by decide +kernel, by decide +kernel⟩
noncomputable def b_check_input : SX := (sIf (bNot (bT (eCall d_are_numbers (aC (eV 0) (aC (eV 1) aN))))) ((sRaise "NoInput")) (sNil))
noncomputable def d_check_input : Den := runD 2 0 b_check_input
theorem p_check_input (T : Tx K mg A) (F_are_numbers : FnD P w K mg base clW 3 2 A.f_are_numbers d_are_numbers) {f : Addr} : ∀ (cdv : Value) (A : Around) (outer : List Env) (s : Shared) (H : Hp) (E : XK), Room 3 (A.deeper (envOfC "check_input" (defScope (top 11)) s.heap.objs.size f cdv)) →
    GSs clW (cxOf (L2.CX P w) P w K mg base ["thing", "many"] "check_input" (defScope (top 11)) f cdv A outer s H E) (defBody (top 11)) b_check_input := fun cdv A outer s H E hr => by
  have sc := sc_check_input
  have hu := hr.units
  have hu1 := hu_of hr
  have TC := T.tc
  have TE := T.te
  exact (gss_one (gs_if (gt_not (gt_val (ge_call F_are_numbers (hr.mono (by decide)) rfl T.g_are_numbers (ga_cons (ge_var rfl (.inl rfl) rfl rfl) (ga_cons (ge_var rfl (.inl rfl) rfl rfl) ga_nil rfl) rfl) rfl rfl rfl) (fun _ => rfl))) (gss_one (gs_raise T.g_NoInput T.xi_NoInput T.xk_NoInput (raises_own T.xs_NoInput T.xt_NoInput) rfl rfl rfl)) gss_nil))

/-! ### is_deed -/
theorem sc_is_deed : FnScope ["thing", "item"] ["thing"] (defScope (top 14)) := ⟨rfl, rfl, rfl, by decide +kernel, rfl, by decide +kernel, by decide +kernel⟩
noncomputable def b_is_deed : SX := (sSeq (sIf (bOr (bNot (bT (eIsi1 ctab (.ty "tuple") (eV 0)))) (bOr (bV (eCmp ltD (eH (hV 0) lenD) (eC (.int 2)))) (bNot (bT (eIsi1 ctab (.ty "str") (eHB (hV 0) (eC (.int 0)) idxD)))))) ((sRet (eC (.bl false)))) (sNil))
    (sSeq (sIf (bNot (bT (eH (hE (eFz (mLc (iS (eSl (hV 0) (some (eC (.int 1))) none)) (gN 1) bTrue (eCall d_is_name (aC (eV 1) aN)) [1]))) allD))) ((sRet (eC (.bl false)))) (sNil))
    (sSeq (sIf (bV (eCmp eqD (eHB (hV 0) (eC (.int 0)) idxD) (eC (.str "copy")))) ((sRet (eCmp eqD (eH (hV 0) lenD) (eC (.int 3))))) (sNil))
    (sRet (eAnd (eInH false (eHB (hV 0) (eC (.int 0)) idxD) (hE (eTup (aC (eC (.str "zero")) (aC (eC (.str "more")) aN))))) (eCmp eqD (eH (hV 0) lenD) (eC (.int 2))))))))
noncomputable def d_is_deed : Den := runD 1 1 b_is_deed
theorem p_is_deed (T : Tx K mg A) (F_is_name : FnD P w K mg base clW 1 1 A.f_is_name d_is_name) {f : Addr} : ∀ (cdv : Value) (A : Around) (outer : List Env) (s : Shared) (H : Hp) (E : XK), Room 1 (A.deeper (envOfC "is_deed" (defScope (top 14)) s.heap.objs.size f cdv)) →
    GSs clW (cxOf (L2.CX P w) P w K mg base ["thing", "item"] "is_deed" (defScope (top 14)) f cdv A outer s H E) (defBody (top 14)) b_is_deed := fun cdv A outer s H E hr => by
  have sc := sc_is_deed
  have hu := hr.units
  have hu1 := hu_of hr
  have TC := T.tc
  have TE := T.te
  exact (gss_cons (gs_if (gw_pt (gw_or (gt_not (gt_val (ge_isi1 (k := (.ty "tuple")) TC rfl T.n_isinstance (ge_var rfl (.inl rfl) rfl rfl) (pe_bltn (v := .ty "tuple") (u := .type "tuple") rfl T.n_tuple (by decide +kernel) rfl (by decide) (by decide)) rfl rfl) (fun _ => rfl))) (gw_or (gt_cmp ok_lt (ge_b1 ok_len rfl T.n_len (by decide +kernel) (gh_var rfl (.inl rfl) rfl rfl) (by decide) rfl rfl) ge_int rfl) (gw_or1 (gt_not (gt_val (ge_isi1 (k := (.ty "str")) TC rfl T.n_isinstance (ge_sub hu1 (gh_var rfl (.inl rfl) rfl rfl) ge_int (fun _ _ => rfl)) (pe_bltn (v := .ty "str") (u := .type "str") rfl T.n_str (by decide +kernel) rfl (by decide) (by decide)) rfl rfl) (fun _ => rfl))))))) (gss_one (gs_ret ge_bl)) gss_nil) (gss_cons (gs_if (gt_not (gt_val (ge_b1 (ok_all rfl) rfl T.n_all (by decide +kernel) (gh_of (ge_fz (gm_lc (own := [("item", 1)]) rfl sc.nd (gi_any (ge_slice (gh_var rfl (.inl rfl) rfl rfl) (go_some ge_int) go_none)) (blkOk_by (by kernel_rfl)) (by decide) (fun _ _ _ _ _ => (gn_name sc.nd rfl (.inl rfl) (.inr rfl))) (fun _ _ _ _ _ => gts_nil) (fun _ _ _ _ _ => (ge_call F_is_name (hr.mono (by decide)) rfl T.g_is_name (ga_cons (ge_var rfl (.inl rfl) rfl rfl) ga_nil rfl) rfl rfl rfl)) (fun _ => rfl)))) (by decide) rfl rfl) (fun _ => rfl))) (gss_one (gs_ret ge_bl)) gss_nil) (gss_cons (gs_if (gt_cmp (ok_eq hu) (ge_sub hu1 (gh_var rfl (.inl rfl) rfl rfl) ge_int (fun _ _ => rfl)) ge_str rfl) (gss_one (gs_ret (ge_cmp (ok_eq hu) (ge_b1 ok_len rfl T.n_len (by decide +kernel) (gh_var rfl (.inl rfl) rfl rfl) (by decide) rfl rfl) ge_int rfl))) gss_nil) (gss_one (gs_ret (ge_and (ge_in hu1 false (ge_sub hu1 (gh_var rfl (.inl rfl) rfl rfl) ge_int (fun _ _ => rfl)) (gh_of (ge_tup (ga_cons ge_str (ga_cons ge_str ga_nil rfl) rfl))) rfl) (ge_one (ge_cmp (ok_eq hu) (ge_b1 ok_len rfl T.n_len (by decide +kernel) (gh_var rfl (.inl rfl) rfl rfl) (by decide) rfl rfl) ge_int rfl))))))))

/-! ### is_round -/
theorem sc_is_round : FnScope ["thing"] ["thing"] (defScope (top 15)) := ⟨rfl, rfl, rfl, by decide +kernel, rfl, by decide +kernel, by decide +kernel⟩
noncomputable def b_is_round : SX := (sSeq (sIf (bOr (bNot (bT (eIsi1 ctab (.ty "tuple") (eV 0)))) (bOr (bV (eCmp neD (eH (hV 0) lenD) (eC (.int 3)))) (bOr (bNot (bT (eIsi1 ctab (.ty "str") (eHB (hV 0) (eC (.int 0)) idxD)))) (bV (eCmp neD (eHB (hV 0) (eC (.int 0)) idxD) (eC (.str "round"))))))) ((sRet (eC (.bl false)))) (sNil))
    (sRet (eAnd (eCall d_is_name (aC (eHB (hV 0) (eC (.int 1)) idxD) aN)) (eIsi1 ctab (.ty "tuple") (eHB (hV 0) (eC (.int 2)) idxD)))))
noncomputable def d_is_round : Den := runD 1 0 b_is_round
theorem p_is_round (T : Tx K mg A) (F_is_name : FnD P w K mg base clW 1 1 A.f_is_name d_is_name) {f : Addr} : ∀ (cdv : Value) (A : Around) (outer : List Env) (s : Shared) (H : Hp) (E : XK), Room 1 (A.deeper (envOfC "is_round" (defScope (top 15)) s.heap.objs.size f cdv)) →
    GSs clW (cxOf (L2.CX P w) P w K mg base ["thing"] "is_round" (defScope (top 15)) f cdv A outer s H E) (defBody (top 15)) b_is_round := fun cdv A outer s H E hr => by
  have sc := sc_is_round
  have hu := hr.units
  have hu1 := hu_of hr
  have TC := T.tc
  have TE := T.te
  exact (gss_cons (gs_if (gw_pt (gw_or (gt_not (gt_val (ge_isi1 (k := (.ty "tuple")) TC rfl T.n_isinstance (ge_var rfl (.inl rfl) rfl rfl) (pe_bltn (v := .ty "tuple") (u := .type "tuple") rfl T.n_tuple (by decide +kernel) rfl (by decide) (by decide)) rfl rfl) (fun _ => rfl))) (gw_or (gt_cmp (ok_ne hu) (ge_b1 ok_len rfl T.n_len (by decide +kernel) (gh_var rfl (.inl rfl) rfl rfl) (by decide) rfl rfl) ge_int rfl) (gw_or (gt_not (gt_val (ge_isi1 (k := (.ty "str")) TC rfl T.n_isinstance (ge_sub hu1 (gh_var rfl (.inl rfl) rfl rfl) ge_int (fun _ _ => rfl)) (pe_bltn (v := .ty "str") (u := .type "str") rfl T.n_str (by decide +kernel) rfl (by decide) (by decide)) rfl rfl) (fun _ => rfl))) (gw_or1 (gt_cmp (ok_ne hu) (ge_sub hu1 (gh_var rfl (.inl rfl) rfl rfl) ge_int (fun _ _ => rfl)) ge_str rfl)))))) (gss_one (gs_ret ge_bl)) gss_nil) (gss_one (gs_ret (ge_and (ge_call F_is_name (hr.mono (by decide)) rfl T.g_is_name (ga_cons (ge_sub hu1 (gh_var rfl (.inl rfl) rfl rfl) ge_int (fun _ _ => rfl)) ga_nil rfl) rfl rfl rfl) (ge_one (ge_isi1 (k := (.ty "tuple")) TC rfl T.n_isinstance (ge_sub hu1 (gh_var rfl (.inl rfl) rfl rfl) ge_int (fun _ _ => rfl)) (pe_bltn (v := .ty "tuple") (u := .type "tuple") rfl T.n_tuple (by decide +kernel) rfl (by decide) (by decide)) rfl rfl))))))

/-! ### wrong_place -/
theorem sc_wrong_place : FnScope ["block", "k", "thing", "j", "deed"] ["block"] (defScope (top 16)) := ⟨rfl, rfl, rfl, by decide +kernel, rfl, by decide +kernel, by decide +kernel⟩
noncomputable def L0_wrong_place : SX := (sIf (bNot (bT (eCall d_is_deed (aC (eV 4) aN)))) ((sRet (eTup (aC (eV 1) (aC (eV 3) aN))))) (sNil))
noncomputable def L1_wrong_place : SX := (sIf (bT (eCall d_is_round (aC (eV 2) aN))) ((sFor (iEn (eHB (hV 2) (eC (.int 2)) idxD)) (gT [(gN 3), (gN 4)]) L0_wrong_place)) ((sIf (bNot (bT (eCall d_is_deed (aC (eV 2) aN)))) ((sRet (eTup (aC (eV 1) aN)))) (sNil))))
noncomputable def b_wrong_place : SX := (sSeq (sFor (iEn (eV 0)) (gT [(gN 1), (gN 2)]) L1_wrong_place)
    (sRet (eC .non)))
noncomputable def d_wrong_place : Den := runD 1 4 b_wrong_place
theorem p_wrong_place (T : Tx K mg A) (F_is_deed : FnD P w K mg base clW 2 1 A.f_is_deed d_is_deed) (F_is_round : FnD P w K mg base clW 2 1 A.f_is_round d_is_round) {f : Addr} : ∀ (cdv : Value) (A : Around) (outer : List Env) (s : Shared) (H : Hp) (E : XK), Room 2 (A.deeper (envOfC "wrong_place" (defScope (top 16)) s.heap.objs.size f cdv)) →
    GSs clW (cxOf (L2.CX P w) P w K mg base ["block", "k", "thing", "j", "deed"] "wrong_place" (defScope (top 16)) f cdv A outer s H E) (defBody (top 16)) b_wrong_place := fun cdv A outer s H E hr => by
  have sc := sc_wrong_place
  have hu := hr.units
  have hu1 := hu_of hr
  have TC := T.tc
  have TE := T.te
  exact (gss_cons (gs_for rfl (gi_en rfl T.n_enumerate (ge_var rfl (.inl rfl) rfl rfl) rfl) (gn_tup rfl (gns_cons (gn_name sc.nd rfl (.inl rfl) (.inr rfl)) (gns_cons (gn_name sc.nd rfl (.inl rfl) (.inr rfl)) gns_nil rfl) rfl) rfl rfl) (gss_one (gs_if (gt_val (ge_call F_is_round (hr.mono (by decide)) rfl T.g_is_round (ga_cons (ge_var rfl (.inl rfl) rfl rfl) ga_nil rfl) rfl rfl rfl) (fun _ => rfl)) (gss_one (gs_for rfl (gi_en rfl T.n_enumerate (ge_sub hu1 (gh_var rfl (.inl rfl) rfl rfl) ge_int (fun _ _ => rfl)) rfl) (gn_tup rfl (gns_cons (gn_name sc.nd rfl (.inl rfl) (.inr rfl)) (gns_cons (gn_name sc.nd rfl (.inl rfl) (.inr rfl)) gns_nil rfl) rfl) rfl rfl) (gss_one (gs_if (gt_not (gt_val (ge_call F_is_deed (hr.mono (by decide)) rfl T.g_is_deed (ga_cons (ge_var rfl (.inl rfl) rfl rfl) ga_nil rfl) rfl rfl rfl) (fun _ => rfl))) (gss_one (gs_ret (ge_tup (ga_cons (ge_var rfl (.inl rfl) rfl rfl) (ga_cons (ge_var rfl (.inl rfl) rfl rfl) ga_nil rfl) rfl)))) gss_nil)) (fun _ => rfl))) (gss_one (gs_if (gt_not (gt_val (ge_call F_is_deed (hr.mono (by decide)) rfl T.g_is_deed (ga_cons (ge_var rfl (.inl rfl) rfl rfl) ga_nil rfl) rfl rfl rfl) (fun _ => rfl))) (gss_one (gs_ret (ge_tup (ga_cons (ge_var rfl (.inl rfl) rfl rfl) ga_nil rfl)))) gss_nil)))) (fun _ => rfl)) (gss_one (gs_ret ge_non)))

/-! ### size_of -/
theorem sc_size_of : FnScope ["block", "thing"] ["block"] (defScope (top 17)) := ⟨rfl, rfl, rfl, by decide +kernel, rfl, by decide +kernel, by decide +kernel⟩
noncomputable def b_size_of : SX := (sRet (eH (hE (eFz (mLc (iS (eV 0)) (gN 1) bTrue (eBin addD (eC (.int 1)) (eIf (bV (eCmp eqD (eHB (hV 1) (eC (.int 0)) idxD) (eC (.str "round")))) (eH (hE (eHB (hV 1) (eC (.int 2)) idxD)) lenD) (eC (.int 0)))) [1]))) sumD))
noncomputable def d_size_of : Den := runD 1 1 b_size_of
theorem p_size_of (T : Tx K mg A)  {f : Addr} : ∀ (cdv : Value) (A : Around) (outer : List Env) (s : Shared) (H : Hp) (E : XK), Room 0 (A.deeper (envOfC "size_of" (defScope (top 17)) s.heap.objs.size f cdv)) →
    GSs clW (cxOf (L2.CX P w) P w K mg base ["block", "thing"] "size_of" (defScope (top 17)) f cdv A outer s H E) (defBody (top 17)) b_size_of := fun cdv A outer s H E hr => by
  have sc := sc_size_of
  have hu := hr.units
  have hu1 := hu_of hr
  have TC := T.tc
  have TE := T.te
  exact (gss_one (gs_ret (ge_b1 (ok_sum rfl) rfl T.n_sum (by decide +kernel) (gh_of (ge_fz (gm_lc (own := [("thing", 1)]) rfl sc.nd (gi_any (ge_var rfl (.inl rfl) rfl rfl)) (blkOk_by (by kernel_rfl)) (by decide) (fun _ _ _ _ _ => (gn_name sc.nd rfl (.inl rfl) (.inr rfl))) (fun _ _ _ _ _ => gts_nil) (fun _ _ _ _ _ => (ge_bin ok_add ge_int (ge_if (gt_cmp (ok_eq hu) (ge_sub hu1 (gh_var rfl (.inl rfl) rfl rfl) ge_int (fun _ _ => rfl)) ge_str rfl) (ge_b1 ok_len rfl T.n_len (by decide +kernel) (gh_of (ge_sub hu1 (gh_var rfl (.inl rfl) rfl rfl) ge_int (fun _ _ => rfl))) (by decide) rfl rfl) ge_int))) (fun _ => rfl)))) (by decide) rfl rfl)))

/-! ### Program.__init__ -/
theorem sc_Program___init__ : FnScope ["self", "given", "told", "block", "place"] ["self", "given", "told", "block"] (defScope (inClass (top 18) 0)) := ⟨rfl, rfl, rfl, by decide +kernel, rfl, by decide +kernel, by decide +kernel⟩
noncomputable def b_Program___init__ : SX := (sSeq (sIf (bNot (bT (eCall d_are_names (aC (eV 1) (aC (eC (.int 0)) (aC (eC (.int 2)) aN)))))) (sNo) (sNil))
    (sSeq (sIf (bNot (bT (eCall d_are_names (aC (eV 2) (aC (eC (.int 1)) (aC (eC (.int 4)) aN)))))) (sNo) (sNil))
    (sSeq (sIf (bNot (bT (eIsi1 ctab (.ty "tuple") (eV 3)))) (sNo) (sNil))
    (sSeq (sSet 4 (eCall d_wrong_place (aC (eV 3) aN)))
    (sSeq (sIf (bV (eCmp notD (eV 4) (eC .non))) (sNo) (sNil))
    (sSeq (sIf (bV (eCmp gtD (eCall d_size_of (aC (eV 3) aN)) (eC (.int 5000)))) (sNo) (sNil))
    (sSeq (sFld (hV 0) "given" (eV 1))
    (sSeq (sFld (hV 0) "told" (eV 2))
    (sFld (hV 0) "block" (eV 3))))))))))
noncomputable def d_Program___init__ : DenO := runO 3 1 b_Program___init__
theorem p_Program___init__ (T : Tx K mg A) (F_are_names : FnD P w K mg base clW 2 3 A.f_are_names d_are_names) (F_size_of : FnD P w K mg base clW 1 1 A.f_size_of d_size_of) (F_wrong_place : FnD P w K mg base clW 3 1 A.f_wrong_place d_wrong_place) {f : Addr} : ∀ (cdv : Value) (A : Around) (outer : List Env) (s : Shared) (H : Hp) (E : XK), Room 3 (A.deeper (envOfC "Program.__init__" (defScope (inClass (top 18) 0)) s.heap.objs.size f cdv)) →
    GSs clW (cxOf (L2.CX P w) P w K mg base ["self", "given", "told", "block", "place"] "Program.__init__" (defScope (inClass (top 18) 0)) f cdv A outer s H E) (defBody (inClass (top 18) 0)) b_Program___init__ := fun cdv A outer s H E hr => by
  have sc := sc_Program___init__
  have hu := hr.units
  have hu1 := hu_of hr
  have TC := T.tc
  have TE := T.te
  exact (gss_cons (gs_if (gt_not (gt_val (ge_call F_are_names (hr.mono (by decide)) rfl T.g_are_names (ga_cons (ge_var rfl (.inl rfl) rfl rfl) (ga_cons ge_int (ga_cons ge_int ga_nil rfl) rfl) rfl) rfl rfl rfl) (fun _ => rfl))) (gss_one gs_no) gss_nil) (gss_cons (gs_if (gt_not (gt_val (ge_call F_are_names (hr.mono (by decide)) rfl T.g_are_names (ga_cons (ge_var rfl (.inl rfl) rfl rfl) (ga_cons ge_int (ga_cons ge_int ga_nil rfl) rfl) rfl) rfl rfl rfl) (fun _ => rfl))) (gss_one gs_no) gss_nil) (gss_cons (gs_if (gt_not (gt_val (ge_isi1 (k := (.ty "tuple")) TC rfl T.n_isinstance (ge_var rfl (.inl rfl) rfl rfl) (pe_bltn (v := .ty "tuple") (u := .type "tuple") rfl T.n_tuple (by decide +kernel) rfl (by decide) (by decide)) rfl rfl) (fun _ => rfl))) (gss_one gs_no) gss_nil) (gss_cons (gs_set sc.nd rfl (.inl rfl) (ge_call F_wrong_place (hr.mono (by decide)) rfl T.g_wrong_place (ga_cons (ge_var rfl (.inl rfl) rfl rfl) ga_nil rfl) rfl rfl rfl) rfl (.inr rfl)) (gss_cons (gs_if (gt_cmp ok_isnot (ge_var rfl (.inl rfl) rfl rfl) ge_non rfl) (gss_one gs_no) gss_nil) (gss_cons (gs_if (gt_cmp ok_gt (ge_call F_size_of (hr.mono (by decide)) rfl T.g_size_of (ga_cons (ge_var rfl (.inl rfl) rfl rfl) ga_nil rfl) rfl rfl rfl) (ge_cst rfl T.g_MOST_STATEMENTS (fun _ => rep_int.mpr rfl) rfl) rfl) (gss_one gs_no) gss_nil) (gss_cons (gs_fld (T.f_given) (gh_var rfl (.inl rfl) rfl rfl) (ge_var rfl (.inl rfl) rfl rfl) rfl) (gss_cons (gs_fld (T.f_told) (gh_var rfl (.inl rfl) rfl rfl) (ge_var rfl (.inl rfl) rfl rfl) rfl) (gss_one (gs_fld (T.f_block) (gh_var rfl (.inl rfl) rfl rfl) (ge_var rfl (.inl rfl) rfl rfl) rfl))))))))))

/-! ### Program.__eq__ -/
theorem sc_Program___eq__ : FnScope ["self", "other"] ["self", "other"] (defScope (inClass (top 18) 1)) := ⟨rfl, rfl, rfl, by decide +kernel, rfl, by decide +kernel, by decide +kernel⟩
noncomputable def b_Program___eq__ : SX := (sSeq (sIf (bNot (bT (eIsi1 ctab (.cl "Program") (eV 1)))) ((sRet (eC (.bl false)))) (sNil))
    (sRet (eCmp eqD (eTup (aC (eH (hV 0) (fldD "given")) (aC (eH (hV 0) (fldD "told")) (aC (eH (hV 0) (fldD "block")) aN)))) (eTup (aC (eH (hV 1) (fldD "given")) (aC (eH (hV 1) (fldD "told")) (aC (eH (hV 1) (fldD "block")) aN)))))))
noncomputable def d_Program___eq__ : Den := runD 2 0 b_Program___eq__
theorem p_Program___eq__ (T : Tx K mg A)  {f : Addr} : ∀ (cdv : Value) (A : Around) (outer : List Env) (s : Shared) (H : Hp) (E : XK), Room 0 (A.deeper (envOfC "Program.__eq__" (defScope (inClass (top 18) 1)) s.heap.objs.size f cdv)) →
    GSs clW (cxOf (L2.CX P w) P w K mg base ["self", "other"] "Program.__eq__" (defScope (inClass (top 18) 1)) f cdv A outer s H E) (defBody (inClass (top 18) 1)) b_Program___eq__ := fun cdv A outer s H E hr => by
  have sc := sc_Program___eq__
  have hu := hr.units
  have hu1 := hu_of hr
  have TC := T.tc
  have TE := T.te
  exact (gss_cons (gs_if (gt_not (gt_val (ge_isi1 (k := (.cl "Program")) TC rfl T.n_isinstance (ge_var rfl (.inl rfl) rfl rfl) ⟨_, T.g_Program, pe_glob (v := .ref _) rfl T.g_Program rfl (by decide)⟩ rfl rfl) (fun _ => rfl))) (gss_one (gs_ret ge_bl)) gss_nil) (gss_one (gs_ret (ge_cmp (ok_eq hu) (ge_tup (ga_cons (ge_fld (T.f_given) (gh_var rfl (.inl rfl) rfl rfl) rfl) (ga_cons (ge_fld (T.f_told) (gh_var rfl (.inl rfl) rfl rfl) rfl) (ga_cons (ge_fld (T.f_block) (gh_var rfl (.inl rfl) rfl rfl) rfl) ga_nil rfl) rfl) rfl)) (ge_tup (ga_cons (ge_fld (T.f_given) (gh_var rfl (.inl rfl) rfl rfl) rfl) (ga_cons (ge_fld (T.f_told) (gh_var rfl (.inl rfl) rfl rfl) rfl) (ga_cons (ge_fld (T.f_block) (gh_var rfl (.inl rfl) rfl rfl) rfl) ga_nil rfl) rfl) rfl)) rfl))))

/-! ### RawProgram.__init__ -/
theorem sc_RawProgram___init__ : FnScope ["self", "given", "told", "block"] ["self", "given", "told", "block"] (defScope (inClass (top 19) 0)) := ⟨rfl, rfl, rfl, by decide +kernel, rfl, by decide +kernel, by decide +kernel⟩
noncomputable def b_RawProgram___init__ : SX := (sSeq (sFld (hV 0) "given" (eV 1))
    (sSeq (sFld (hV 0) "told" (eV 2))
    (sFld (hV 0) "block" (eV 3))))
noncomputable def d_RawProgram___init__ : DenO := runO 3 0 b_RawProgram___init__
theorem p_RawProgram___init__ (T : Tx K mg A)  {f : Addr} : ∀ (cdv : Value) (A : Around) (outer : List Env) (s : Shared) (H : Hp) (E : XK), Room 0 (A.deeper (envOfC "RawProgram.__init__" (defScope (inClass (top 19) 0)) s.heap.objs.size f cdv)) →
    GSs clW (cxOf (L2.CX P w) P w K mg base ["self", "given", "told", "block"] "RawProgram.__init__" (defScope (inClass (top 19) 0)) f cdv A outer s H E) (defBody (inClass (top 19) 0)) b_RawProgram___init__ := fun cdv A outer s H E hr => by
  have sc := sc_RawProgram___init__
  have hu := hr.units
  have hu1 := hu_of hr
  have TC := T.tc
  have TE := T.te
  exact (gss_cons (gs_fld (T.f_given) (gh_var rfl (.inl rfl) rfl rfl) (ge_var rfl (.inl rfl) rfl rfl) rfl) (gss_cons (gs_fld (T.f_told) (gh_var rfl (.inl rfl) rfl rfl) (ge_var rfl (.inl rfl) rfl rfl) rfl) (gss_one (gs_fld (T.f_block) (gh_var rfl (.inl rfl) rfl rfl) (ge_var rfl (.inl rfl) rfl rfl) rfl))))

/-! ### deeds_in -/
theorem sc_deeds_in : FnScope ["block", "found", "statement"] ["block"] (defScope (top 20)) := ⟨rfl, rfl, rfl, by decide +kernel, rfl, by decide +kernel, by decide +kernel⟩
noncomputable def L0_deeds_in : SX := (sSeq (sMt (hV 1) (aC (eV 2) aN) appD)
    (sIf (bV (eCmp eqD (eHB (hV 2) (eC (.int 0)) idxD) (eC (.str "round")))) ((sMt (hV 1) (aC (eHB (hV 2) (eC (.int 2)) idxD) aN) extTD)) (sNil)))
noncomputable def b_deeds_in : SX := (sSeq (sOwn 1 (mLst aN))
    (sSeq (sFor (iS (eV 0)) (gN 2) L0_deeds_in)
    (sFz 1 (sRet (eV 1)))))
noncomputable def d_deeds_in : Den := runD 1 2 b_deeds_in
theorem p_deeds_in (T : Tx K mg A)  {f : Addr} : ∀ (cdv : Value) (A : Around) (outer : List Env) (s : Shared) (H : Hp) (E : XK), Room 0 (A.deeper (envOfC "deeds_in" (defScope (top 20)) s.heap.objs.size f cdv)) →
    GSs clW (cxOf (L2.CX P w) P w K mg base ["block", "found", "statement"] "deeds_in" (defScope (top 20)) f cdv A outer s H E) (defBody (top 20)) b_deeds_in := fun cdv A outer s H E hr => by
  have sc := sc_deeds_in
  have hu := hr.units
  have hu1 := hu_of hr
  have TC := T.tc
  have TE := T.te
  exact (gss_cons (gs_own (by decide) (gms_of sc.nd rfl (.inl rfl) (gm_lst ga_nil) rfl (.inr rfl))) (gss_cons (gs_for rfl (gi_any (ge_var rfl (.inl rfl) rfl rfl)) (gn_name sc.nd rfl (.inl rfl) (.inr rfl)) (gss_cons (gs_mt PySem.F.slot_list_append PySem.F.type_list_append mt_append mt_app (gh_var rfl (.inl rfl) rfl rfl) (ga_cons (ge_var rfl (.inl rfl) rfl rfl) ga_nil rfl) rfl rfl rfl rfl rfl rfl) (gss_one (gs_if (gt_cmp (ok_eq hu) (ge_sub hu1 (gh_var rfl (.inl rfl) rfl rfl) ge_int (fun _ _ => rfl)) ge_str rfl) (gss_one (gs_mt PySem.F.slot_list_extend PySem.F.type_list_extend mt_extendT mt_extT (gh_var rfl (.inl rfl) rfl rfl) (ga_cons (ge_sub hu1 (gh_var rfl (.inl rfl) rfl rfl) ge_int (fun _ _ => rfl)) ga_nil rfl) rfl rfl rfl rfl rfl rfl)) gss_nil))) (fun _ => rfl)) (gss_one (gs_fz 1 (gs_ret (ge_var rfl (.inl rfl) rfl rfl))))))

/-! ### names_of -/
theorem sc_names_of : FnScope ["statement"] ["statement"] (defScope (top 21)) := ⟨rfl, rfl, rfl, by decide +kernel, rfl, by decide +kernel, by decide +kernel⟩
noncomputable def b_names_of : SX := (sRet (eIf (bV (eCmp eqD (eHB (hV 0) (eC (.int 0)) idxD) (eC (.str "round")))) (eSl (hV 0) (some (eC (.int 1))) (some (eC (.int 2)))) (eSl (hV 0) (some (eC (.int 1))) none)))
noncomputable def d_names_of : Den := runD 1 0 b_names_of
theorem p_names_of (T : Tx K mg A)  {f : Addr} : ∀ (cdv : Value) (A : Around) (outer : List Env) (s : Shared) (H : Hp) (E : XK), Room 0 (A.deeper (envOfC "names_of" (defScope (top 21)) s.heap.objs.size f cdv)) →
    GSs clW (cxOf (L2.CX P w) P w K mg base ["statement"] "names_of" (defScope (top 21)) f cdv A outer s H E) (defBody (top 21)) b_names_of := fun cdv A outer s H E hr => by
  have sc := sc_names_of
  have hu := hr.units
  have hu1 := hu_of hr
  have TC := T.tc
  have TE := T.te
  exact (gss_one (gs_ret (ge_if (gt_cmp (ok_eq hu) (ge_sub hu1 (gh_var rfl (.inl rfl) rfl rfl) ge_int (fun _ _ => rfl)) ge_str rfl) (ge_slice (gh_var rfl (.inl rfl) rfl rfl) (go_some ge_int) (go_some ge_int)) (ge_slice (gh_var rfl (.inl rfl) rfl rfl) (go_some ge_int) go_none))))

/-! ### names -/
theorem sc_names : FnScope ["program", "found", "statement", "name"] ["program"] (defScope (top 22)) := ⟨rfl, rfl, rfl, by decide +kernel, rfl, by decide +kernel, by decide +kernel⟩
noncomputable def L0_names : SX := (sAsg (eC (.bl true)) (tIK (hV 1) (eV 3)))
noncomputable def L1_names : SX := (sFor (iS (eCall d_names_of (aC (eV 2) aN))) (gN 3) L0_names)
noncomputable def b_names : SX := (sSeq (sOwn 1 (mDc (iS (eBin addD (eH (hV 0) (fldD "given")) (eH (hV 0) (fldD "told")))) (gN 3) bTrue (eV 3) (eC (.bl true)) [3]))
    (sSeq (sFor (iS (eCall d_deeds_in (aC (eH (hV 0) (fldD "block")) aN))) (gN 2) L1_names)
    (sFz 1 (sRet (eH (hE (eFz (mSrt (hV 1)))) tupleD)))))
noncomputable def d_names : Den := runD 1 3 b_names
theorem p_names (T : Tx K mg A) (F_deeds_in : FnD P w K mg base clW 1 1 A.f_deeds_in d_deeds_in) (F_names_of : FnD P w K mg base clW 1 1 A.f_names_of d_names_of) {f : Addr} : ∀ (cdv : Value) (A : Around) (outer : List Env) (s : Shared) (H : Hp) (E : XK), Room 1 (A.deeper (envOfC "names" (defScope (top 22)) s.heap.objs.size f cdv)) →
    GSs clW (cxOf (L2.CX P w) P w K mg base ["program", "found", "statement", "name"] "names" (defScope (top 22)) f cdv A outer s H E) (defBody (top 22)) b_names := fun cdv A outer s H E hr => by
  have sc := sc_names
  have hu := hr.units
  have hu1 := hu_of hr
  have TC := T.tc
  have TE := T.te
  exact (gss_cons (gs_own (by decide) (gms_dc (own := [("name", 3)]) rfl sc.nd rfl rfl (sw_trueD rfl rfl rfl rfl) (gi_any (ge_bin ok_add (ge_fld (T.f_given) (gh_var rfl (.inl rfl) rfl rfl) rfl) (ge_fld (T.f_told) (gh_var rfl (.inl rfl) rfl rfl) rfl))) (blkOk_by (by kernel_rfl)) (by decide) (fun _ _ _ _ _ => (gn_name sc.nd rfl (.inl rfl) (.inr rfl))) (fun _ _ _ _ _ => gts_nil) (fun _ _ _ _ _ => (ge_var rfl (.inl rfl) rfl rfl)) (fun _ _ _ _ _ => ge_bl) (fun _ => rfl))) (gss_cons (gs_for rfl (gi_any (ge_call F_deeds_in (hr.mono (by decide)) rfl T.g_deeds_in (ga_cons (ge_fld (T.f_block) (gh_var rfl (.inl rfl) rfl rfl) rfl) ga_nil rfl) rfl rfl rfl)) (gn_name sc.nd rfl (.inl rfl) (.inr rfl)) (gss_one (gs_for rfl (gi_any (ge_call F_names_of (hr.mono (by decide)) rfl T.g_names_of (ga_cons (ge_var rfl (.inl rfl) rfl rfl) ga_nil rfl) rfl rfl rfl)) (gn_name sc.nd rfl (.inl rfl) (.inr rfl)) (gss_one (gs_asg ge_bl (gtg_ik hu1 (gh_var rfl (.inl rfl) rfl rfl) (ge_var rfl (.inl rfl) rfl rfl) (fun _ => rfl)) rfl rfl rfl)) (fun _ => rfl))) (fun _ => rfl)) (gss_one (gs_fz 1 (gs_ret (ge_t1 ok_tuple rfl T.n_tuple (by decide +kernel) (gh_of (ge_fz (gm_srt rfl rfl T.n_sorted (gh_var rfl (.inl rfl) rfl rfl) rfl))) (by decide) rfl rfl))))))

/-! ### clocked -/
theorem sc_clocked : FnScope ["program", "clock", "tick", "found", "statement", "inside", "deed", "one"] ["program", "clock"] (defScope (top 23)) := ⟨rfl, rfl, rfl, by decide +kernel, rfl, by decide +kernel, by decide +kernel⟩
noncomputable def L0_clocked : SX := (sSeq (sMt (hV 3) (aC (eV 2) aN) appD)
    (sIf (bV (eCmp eqD (eHB (hV 4) (eC (.int 0)) idxD) (eC (.str "round")))) ((sSeq (sSet 5 (eH (hE (eFz (mLc2 (iS (eHB (hV 4) (eC (.int 2)) idxD)) (gN 6) bTrue (iS (eTup (aC (eV 2) (aC (eV 6) aN)))) (gN 7) bTrue (eV 7) [6, 7] [7]))) tupleD))
    (sMt (hV 3) (aC (eTup (aC (eC (.str "round")) (aC (eHB (hV 4) (eC (.int 1)) idxD) (aC (eV 5) aN)))) aN) appD))) ((sMt (hV 3) (aC (eV 4) aN) appD))))
noncomputable def b_clocked : SX := (sSeq (sSet 2 (eTup (aC (eC (.str "more")) (aC (eV 1) aN))))
    (sSeq (sOwn 3 (mLst aN))
    (sSeq (sFor (iS (eH (hV 0) (fldD "block"))) (gN 4) L0_clocked)
    (sRet (eFz (mMk "RawProgram" d_RawProgram___init__ (aC (eH (hV 0) (fldD "given")) (aC (eBin addD (eH (hV 0) (fldD "told")) (eTup (aC (eV 1) aN))) (aC (eH (hV 3) tupleD) aN)))))))))
noncomputable def d_clocked : Den := runD 2 6 b_clocked
theorem p_clocked (T : Tx K mg A) (F_RawProgram___init__ : FnO P w K mg base clW 1 3 A.f_RawProgram___init__ d_RawProgram___init__) {f : Addr} : ∀ (cdv : Value) (A : Around) (outer : List Env) (s : Shared) (H : Hp) (E : XK), Room 2 (A.deeper (envOfC "clocked" (defScope (top 23)) s.heap.objs.size f cdv)) →
    GSs clW (cxOf (L2.CX P w) P w K mg base ["program", "clock", "tick", "found", "statement", "inside", "deed", "one"] "clocked" (defScope (top 23)) f cdv A outer s H E) (defBody (top 23)) b_clocked := fun cdv A outer s H E hr => by
  have sc := sc_clocked
  have hu := hr.units
  have hu1 := hu_of hr
  have TC := T.tc
  have TE := T.te
  exact (gss_cons (gs_set sc.nd rfl (.inr rfl) (ge_tup (ga_cons ge_str (ga_cons (ge_var rfl (.inl rfl) rfl rfl) ga_nil rfl) rfl)) rfl (.inl rfl)) (gss_cons (gs_own (by decide) (gms_of sc.nd rfl (.inl rfl) (gm_lst ga_nil) rfl (.inr rfl))) (gss_cons (gs_for rfl (gi_any (ge_fld (T.f_block) (gh_var rfl (.inl rfl) rfl rfl) rfl)) (gn_name sc.nd rfl (.inl rfl) (.inr rfl)) (gss_cons (gs_mt PySem.F.slot_list_append PySem.F.type_list_append mt_append mt_app (gh_var rfl (.inl rfl) rfl rfl) (ga_cons (ge_var rfl (.inr (.inl rfl)) rfl rfl) ga_nil rfl) rfl rfl rfl rfl rfl rfl) (gss_one (gs_if (gt_cmp (ok_eq hu) (ge_sub hu1 (gh_var rfl (.inl rfl) rfl rfl) ge_int (fun _ _ => rfl)) ge_str rfl) (gss_cons (gs_set sc.nd rfl (.inl rfl) (ge_t1 ok_tuple rfl T.n_tuple (by decide +kernel) (gh_of (ge_fz (gm_lc2 (own := [("deed", 6), ("one", 7)]) (vs1 := [7]) rfl sc.nd (gi_any (ge_sub hu1 (gh_var rfl (.inl rfl) rfl rfl) ge_int (fun _ _ => rfl))) (blkOk_by (by kernel_rfl)) (by decide) (by decide) (by decide) (fun _ _ _ _ _ => (gn_name sc.nd rfl (.inl rfl) (.inr rfl))) (fun _ _ _ _ _ => gts_nil) (fun _ _ _ _ _ => (gi_any (ge_tup (ga_cons (ge_var rfl (.inr (.inl rfl)) rfl rfl) (ga_cons (ge_var rfl (.inl rfl) rfl rfl) ga_nil rfl) rfl)))) (fun _ _ _ _ _ => (gn_name sc.nd rfl (.inl rfl) (.inr rfl))) (fun _ _ _ _ _ => gts_nil) (fun _ _ _ _ _ => (ge_var rfl (.inl rfl) rfl rfl)) (fun _ => rfl) (fun _ _ => rfl)))) (by decide) rfl rfl) rfl (.inr rfl)) (gss_one (gs_mt PySem.F.slot_list_append PySem.F.type_list_append mt_append mt_app (gh_var rfl (.inl rfl) rfl rfl) (ga_cons (ge_tup (ga_cons ge_str (ga_cons (ge_sub hu1 (gh_var rfl (.inl rfl) rfl rfl) ge_int (fun _ _ => rfl)) (ga_cons (ge_var rfl (.inl rfl) rfl rfl) ga_nil rfl) rfl) rfl)) ga_nil rfl) rfl rfl rfl rfl rfl rfl))) (gss_one (gs_mt PySem.F.slot_list_append PySem.F.type_list_append mt_append mt_app (gh_var rfl (.inl rfl) rfl rfl) (ga_cons (ge_var rfl (.inl rfl) rfl rfl) ga_nil rfl) rfl rfl rfl rfl rfl rfl))))) (fun _ => rfl)) (gss_one (gs_ret (ge_fz (gm_mk T.mk_RawProgram T.g_RawProgram kc_RawProgram F_RawProgram___init__ (hr.mono (by decide)) rfl (ga_cons (ge_fld (T.f_given) (gh_var rfl (.inl rfl) rfl rfl) rfl) (ga_cons (ge_bin ok_add (ge_fld (T.f_told) (gh_var rfl (.inl rfl) rfl rfl) rfl) (ge_tup (ga_cons (ge_var rfl (.inl rfl) rfl rfl) ga_nil rfl))) (ga_cons (ge_t1 ok_tuple rfl T.n_tuple (by decide +kernel) (gh_var rfl (.inl rfl) rfl rfl) (by decide) rfl rfl) ga_nil rfl) rfl) rfl) rfl rfl rfl)))))))

/-! ### with_clock -/
theorem sc_with_clock : FnScope ["program", "name"] ["program", "name"] (defScope (top 26)) := ⟨rfl, rfl, rfl, by decide +kernel, rfl, by decide +kernel, by decide +kernel⟩
noncomputable def b_with_clock : SX := (sSeq (sIf (bOr (bNot (bT (eCall d_is_name (aC (eV 1) aN)))) (bOr (bV (eInH false (eV 1) (hE (eCall d_names (aC (eV 0) aN))))) (bV (eCmp eqD (eH (hE (eH (hV 0) (fldD "told"))) lenD) (eC (.int 4)))))) ((sRaise "NoName")) (sNil))
    (sRet (eCall d_clocked (aC (eV 0) (aC (eV 1) aN)))))
noncomputable def d_with_clock : Den := runD 2 0 b_with_clock
theorem p_with_clock (T : Tx K mg A) (F_clocked : FnD P w K mg base clW 3 2 A.f_clocked d_clocked) (F_is_name : FnD P w K mg base clW 1 1 A.f_is_name d_is_name) (F_names : FnD P w K mg base clW 2 1 A.f_names d_names) {f : Addr} : ∀ (cdv : Value) (A : Around) (outer : List Env) (s : Shared) (H : Hp) (E : XK), Room 3 (A.deeper (envOfC "with_clock" (defScope (top 26)) s.heap.objs.size f cdv)) →
    GSs clW (cxOf (L2.CX P w) P w K mg base ["program", "name"] "with_clock" (defScope (top 26)) f cdv A outer s H E) (defBody (top 26)) b_with_clock := fun cdv A outer s H E hr => by
  have sc := sc_with_clock
  have hu := hr.units
  have hu1 := hu_of hr
  have TC := T.tc
  have TE := T.te
  exact (gss_cons (gs_if (gw_pt (gw_or (gt_not (gt_val (ge_call F_is_name (hr.mono (by decide)) rfl T.g_is_name (ga_cons (ge_var rfl (.inl rfl) rfl rfl) ga_nil rfl) rfl rfl rfl) (fun _ => rfl))) (gw_or (gt_in hu1 false (ge_var rfl (.inl rfl) rfl rfl) (gh_of (ge_call F_names (hr.mono (by decide)) rfl T.g_names (ga_cons (ge_var rfl (.inl rfl) rfl rfl) ga_nil rfl) rfl rfl rfl)) rfl) (gw_or1 (gt_cmp (ok_eq hu) (ge_b1 ok_len rfl T.n_len (by decide +kernel) (gh_of (ge_fld (T.f_told) (gh_var rfl (.inl rfl) rfl rfl) rfl)) (by decide) rfl rfl) (ge_cst rfl T.g_MOST_TOLD (fun _ => rep_int.mpr rfl) rfl) rfl))))) (gss_one (gs_raise T.g_NoName T.xi_NoName T.xk_NoName (raises_own T.xs_NoName T.xt_NoName) rfl rfl rfl)) gss_nil) (gss_one (gs_ret (ge_call F_clocked (hr.mono (by decide)) rfl T.g_clocked (ga_cons (ge_var rfl (.inl rfl) rfl rfl) (ga_cons (ge_var rfl (.inl rfl) rfl rfl) ga_nil rfl) rfl) rfl rfl rfl))))

/-! ### raw_push -/
theorem sc_raw_push : FnScope ["own", "deeds", "found", "deed", "source", "more", "name"] ["own", "deeds"] (defScope (top 28)) := ⟨rfl, rfl, rfl, by decide +kernel, rfl, by decide +kernel, by decide +kernel⟩
noncomputable def L0_raw_push : SX := (sIf (bV (eCmp eqD (eHB (hV 3) (eC (.int 0)) idxD) (eC (.str "zero")))) ((sAsg (eTup (aC (eC .non) (aC (eC (.int 0)) aN))) (tIK (hV 2) (eHB (hV 3) (eC (.int 1)) idxD)))) ((sIf (bV (eCmp eqD (eHB (hV 3) (eC (.int 0)) idxD) (eC (.str "copy")))) ((sAsg (eHB (hV 2) (eHB (hV 3) (eC (.int 2)) idxD) idxD) (tIK (hV 2) (eHB (hV 3) (eC (.int 1)) idxD)))) ((sSeq (sAsg (eHB (hV 2) (eHB (hV 3) (eC (.int 1)) idxD) idxD) (fun d ρ S => ((gT [(gN 4), (gN 5)]) d ρ).map fun ρ' => (ρ', S)))
    (sAsg (eTup (aC (eV 4) (aC (eBin addD (eV 5) (eC (.int 1))) aN))) (tIK (hV 2) (eHB (hV 3) (eC (.int 1)) idxD))))))))
noncomputable def b_raw_push : SX := (sSeq (sOwn 2 (mDc (iS (eV 0)) (gN 6) bTrue (eV 6) (eTup (aC (eV 6) (aC (eC (.int 0)) aN))) [6]))
    (sSeq (sFor (iS (eV 1)) (gN 3) L0_raw_push)
    (sFz 2 (sRet (eV 2)))))
noncomputable def d_raw_push : Den := runD 2 5 b_raw_push
theorem p_raw_push (T : Tx K mg A)  {f : Addr} : ∀ (cdv : Value) (A : Around) (outer : List Env) (s : Shared) (H : Hp) (E : XK), Room 0 (A.deeper (envOfC "raw_push" (defScope (top 28)) s.heap.objs.size f cdv)) →
    GSs clW (cxOf (L2.CX P w) P w K mg base ["own", "deeds", "found", "deed", "source", "more", "name"] "raw_push" (defScope (top 28)) f cdv A outer s H E) (defBody (top 28)) b_raw_push := fun cdv A outer s H E hr => by
  have sc := sc_raw_push
  have hu := hr.units
  have hu1 := hu_of hr
  have TC := T.tc
  have TE := T.te
  exact (gss_cons (gs_own (by decide) (gms_dc (own := [("name", 6)]) rfl sc.nd rfl rfl (sw_trueD rfl rfl rfl rfl) (gi_any (ge_var rfl (.inl rfl) rfl rfl)) (blkOk_by (by kernel_rfl)) (by decide) (fun _ _ _ _ _ => (gn_name sc.nd rfl (.inl rfl) (.inr rfl))) (fun _ _ _ _ _ => gts_nil) (fun _ _ _ _ _ => (ge_var rfl (.inl rfl) rfl rfl)) (fun _ _ _ _ _ => (ge_tup (ga_cons (ge_var rfl (.inl rfl) rfl rfl) (ga_cons ge_int ga_nil rfl) rfl))) (fun _ => rfl))) (gss_cons (gs_for rfl (gi_any (ge_var rfl (.inl rfl) rfl rfl)) (gn_name sc.nd rfl (.inl rfl) (.inr rfl)) (gss_one (gs_if (gt_cmp (ok_eq hu) (ge_sub hu1 (gh_var rfl (.inl rfl) rfl rfl) ge_int (fun _ _ => rfl)) ge_str rfl) (gss_one (gs_asg (ge_tup (ga_cons ge_non (ga_cons ge_int ga_nil rfl) rfl)) (gtg_ik hu1 (gh_var rfl (.inl rfl) rfl rfl) (ge_sub hu1 (gh_var rfl (.inl rfl) rfl rfl) ge_int (fun _ _ => rfl)) (fun _ => rfl)) rfl rfl rfl)) (gss_one (gs_if (gt_cmp (ok_eq hu) (ge_sub hu1 (gh_var rfl (.inl rfl) rfl rfl) ge_int (fun _ _ => rfl)) ge_str rfl) (gss_one (gs_asg (ge_sub hu1 (gh_var rfl (.inl rfl) rfl rfl) (ge_sub hu1 (gh_var rfl (.inl rfl) rfl rfl) ge_int (fun _ _ => rfl)) (fun _ _ => rfl)) (gtg_ik hu1 (gh_var rfl (.inl rfl) rfl rfl) (ge_sub hu1 (gh_var rfl (.inl rfl) rfl rfl) ge_int (fun _ _ => rfl)) (fun _ => rfl)) rfl rfl rfl)) (gss_cons (gs_asg (ge_sub hu1 (gh_var rfl (.inl rfl) rfl rfl) (ge_sub hu1 (gh_var rfl (.inl rfl) rfl rfl) ge_int (fun _ _ => rfl)) (fun _ _ => rfl)) (gtg_n (gn_tup rfl (gns_cons (gn_name sc.nd rfl (.inl rfl) (.inr rfl)) (gns_cons (gn_name sc.nd rfl (.inl rfl) (.inr rfl)) gns_nil rfl) rfl) rfl rfl)) rfl rfl rfl) (gss_one (gs_asg (ge_tup (ga_cons (ge_var rfl (.inl rfl) rfl rfl) (ga_cons (ge_bin ok_add (ge_var rfl (.inl rfl) rfl rfl) ge_int) ga_nil rfl) rfl)) (gtg_ik hu1 (gh_var rfl (.inl rfl) rfl rfl) (ge_sub hu1 (gh_var rfl (.inl rfl) rfl rfl) ge_int (fun _ _ => rfl)) (fun _ => rfl)) rfl rfl rfl))))))) (fun _ => rfl)) (gss_one (gs_fz 2 (gs_ret (ge_var rfl (.inl rfl) rfl rfl))))))

/-! ### source_number -/
theorem sc_source_number : FnScope ["numbers", "pair"] ["numbers", "pair"] (defScope (top 29)) := ⟨rfl, rfl, rfl, by decide +kernel, rfl, by decide +kernel, by decide +kernel⟩
noncomputable def b_source_number : SX := (sRet (eIf (bV (eCmp isD (eHB (hV 1) (eC (.int 0)) idxD) (eC .non))) (eHB (hV 1) (eC (.int 1)) idxD) (eBin addD (eHB (hV 0) (eHB (hV 1) (eC (.int 0)) idxD) idxD) (eHB (hV 1) (eC (.int 1)) idxD))))
noncomputable def d_source_number : Den := runD 2 0 b_source_number
theorem p_source_number (T : Tx K mg A)  {f : Addr} : ∀ (cdv : Value) (A : Around) (outer : List Env) (s : Shared) (H : Hp) (E : XK), Room 0 (A.deeper (envOfC "source_number" (defScope (top 29)) s.heap.objs.size f cdv)) →
    GSs clW (cxOf (L2.CX P w) P w K mg base ["numbers", "pair"] "source_number" (defScope (top 29)) f cdv A outer s H E) (defBody (top 29)) b_source_number := fun cdv A outer s H E hr => by
  have sc := sc_source_number
  have hu := hr.units
  have hu1 := hu_of hr
  have TC := T.tc
  have TE := T.te
  exact (gss_one (gs_ret (ge_if (gt_cmp ok_is (ge_sub hu1 (gh_var rfl (.inl rfl) rfl rfl) ge_int (fun _ _ => rfl)) ge_non rfl) (ge_sub hu1 (gh_var rfl (.inl rfl) rfl rfl) ge_int (fun _ _ => rfl)) (ge_bin ok_add (ge_sub hu1 (gh_var rfl (.inl rfl) rfl rfl) (ge_sub hu1 (gh_var rfl (.inl rfl) rfl rfl) ge_int (fun _ _ => rfl)) (fun _ _ => rfl)) (ge_sub hu1 (gh_var rfl (.inl rfl) rfl rfl) ge_int (fun _ _ => rfl))))))

/-! ### raw_pushed -/
theorem sc_raw_pushed : FnScope ["push", "numbers", "name"] ["push", "numbers"] (defScope (top 30)) := ⟨rfl, rfl, rfl, by decide +kernel, rfl, by decide +kernel, by decide +kernel⟩
noncomputable def b_raw_pushed : SX := (sRet (eFz (mDc (iS (eV 0)) (gN 2) bTrue (eV 2) (eCall d_source_number (aC (eV 1) (aC (eHB (hV 0) (eV 2) idxD) aN))) [2])))
noncomputable def d_raw_pushed : Den := runD 2 1 b_raw_pushed
theorem p_raw_pushed (T : Tx K mg A) (F_source_number : FnD P w K mg base clW 1 2 A.f_source_number d_source_number) {f : Addr} : ∀ (cdv : Value) (A : Around) (outer : List Env) (s : Shared) (H : Hp) (E : XK), Room 1 (A.deeper (envOfC "raw_pushed" (defScope (top 30)) s.heap.objs.size f cdv)) →
    GSs clW (cxOf (L2.CX P w) P w K mg base ["push", "numbers", "name"] "raw_pushed" (defScope (top 30)) f cdv A outer s H E) (defBody (top 30)) b_raw_pushed := fun cdv A outer s H E hr => by
  have sc := sc_raw_pushed
  have hu := hr.units
  have hu1 := hu_of hr
  have TC := T.tc
  have TE := T.te
  exact (gss_one (gs_ret (ge_fz (gm_dc (own := [("name", 2)]) rfl sc.nd (gi_any (ge_var rfl (.inr (.inl rfl)) rfl rfl)) (blkOk_by (by kernel_rfl)) (by decide) (fun _ _ _ _ _ => (gn_name sc.nd rfl (.inl rfl) (.inr rfl))) (fun _ _ _ _ _ => gts_nil) (fun _ _ _ _ _ => (ge_var rfl (.inl rfl) rfl rfl)) (fun _ _ _ _ _ => (ge_call F_source_number (hr.mono (by decide)) rfl T.g_source_number (ga_cons (ge_var rfl (.inr (.inl rfl)) rfl rfl) (ga_cons (ge_sub hu1 (gh_var rfl (.inr (.inl rfl)) rfl rfl) (ge_var rfl (.inl rfl) rfl rfl) (fun _ _ => rfl)) ga_nil rfl) rfl) rfl rfl rfl)) (fun _ => rfl)))))

/-! ### raw_after -/
theorem sc_raw_after : FnScope ["push", "other", "found", "name", "source", "more"] ["push", "other"] (defScope (top 31)) := ⟨rfl, rfl, rfl, by decide +kernel, rfl, by decide +kernel, by decide +kernel⟩
noncomputable def L0_raw_after : SX := (sSeq (sAsg (eHB (hV 1) (eV 3) idxD) (fun d ρ S => ((gT [(gN 4), (gN 5)]) d ρ).map fun ρ' => (ρ', S)))
    (sIf (bV (eCmp isD (eV 4) (eC .non))) ((sAsg (eTup (aC (eC .non) (aC (eV 5) aN))) (tIK (hV 2) (eV 3)))) ((sAsg (eTup (aC (eHB (hE (eHB (hV 0) (eV 4) idxD)) (eC (.int 0)) idxD) (aC (eBin addD (eHB (hE (eHB (hV 0) (eV 4) idxD)) (eC (.int 1)) idxD) (eV 5)) aN))) (tIK (hV 2) (eV 3))))))
noncomputable def b_raw_after : SX := (sSeq (sOwn 2 mDic0)
    (sSeq (sFor (iS (eV 1)) (gN 3) L0_raw_after)
    (sFz 2 (sRet (eV 2)))))
noncomputable def d_raw_after : Den := runD 2 4 b_raw_after
theorem p_raw_after (T : Tx K mg A)  {f : Addr} : ∀ (cdv : Value) (A : Around) (outer : List Env) (s : Shared) (H : Hp) (E : XK), Room 0 (A.deeper (envOfC "raw_after" (defScope (top 31)) s.heap.objs.size f cdv)) →
    GSs clW (cxOf (L2.CX P w) P w K mg base ["push", "other", "found", "name", "source", "more"] "raw_after" (defScope (top 31)) f cdv A outer s H E) (defBody (top 31)) b_raw_after := fun cdv A outer s H E hr => by
  have sc := sc_raw_after
  have hu := hr.units
  have hu1 := hu_of hr
  have TC := T.tc
  have TE := T.te
  exact (gss_cons (gs_own (by decide) (gms_of sc.nd rfl (.inl rfl) gm_dic0 rfl (.inr rfl))) (gss_cons (gs_for rfl (gi_any (ge_var rfl (.inl rfl) rfl rfl)) (gn_name sc.nd rfl (.inl rfl) (.inr rfl)) (gss_cons (gs_asg (ge_sub hu1 (gh_var rfl (.inl rfl) rfl rfl) (ge_var rfl (.inl rfl) rfl rfl) (fun _ _ => rfl)) (gtg_n (gn_tup rfl (gns_cons (gn_name sc.nd rfl (.inl rfl) (.inr rfl)) (gns_cons (gn_name sc.nd rfl (.inl rfl) (.inr rfl)) gns_nil rfl) rfl) rfl rfl)) rfl rfl rfl) (gss_one (gs_if (gt_cmp ok_is (ge_var rfl (.inl rfl) rfl rfl) ge_non rfl) (gss_one (gs_asg (ge_tup (ga_cons ge_non (ga_cons (ge_var rfl (.inl rfl) rfl rfl) ga_nil rfl) rfl)) (gtg_ik hu1 (gh_var rfl (.inl rfl) rfl rfl) (ge_var rfl (.inl rfl) rfl rfl) (fun _ => rfl)) rfl rfl rfl)) (gss_one (gs_asg (ge_tup (ga_cons (ge_sub hu1 (gh_of (ge_sub hu1 (gh_var rfl (.inl rfl) rfl rfl) (ge_var rfl (.inl rfl) rfl rfl) (fun _ _ => rfl))) ge_int (fun _ _ => rfl)) (ga_cons (ge_bin ok_add (ge_sub hu1 (gh_of (ge_sub hu1 (gh_var rfl (.inl rfl) rfl rfl) (ge_var rfl (.inl rfl) rfl rfl) (fun _ _ => rfl))) ge_int (fun _ _ => rfl)) (ge_var rfl (.inl rfl) rfl rfl)) ga_nil rfl) rfl)) (gtg_ik hu1 (gh_var rfl (.inl rfl) rfl rfl) (ge_var rfl (.inl rfl) rfl rfl) (fun _ => rfl)) rfl rfl rfl))))) (fun _ => rfl)) (gss_one (gs_fz 2 (gs_ret (ge_var rfl (.inl rfl) rfl rfl))))))

/-! ### raw_times -/
theorem sc_raw_times : FnScope ["push", "many", "found", "power", "left", "name"] ["push", "many"] (defScope (top 32)) := ⟨rfl, rfl, rfl, by decide +kernel, rfl, by decide +kernel, by decide +kernel⟩
noncomputable def W0_raw_times : SX := (sSeq (sIf (bV (eCmp eqD (eBin modD (eV 4) (eC (.int 2))) (eC (.int 1)))) ((sSet 2 (eCall d_raw_after (aC (eV 2) (aC (eV 3) aN))))) (sNil))
    (sSeq (sSet 3 (eCall d_raw_after (aC (eV 3) (aC (eV 3) aN))))
    (sSet 4 (eBin fdivD (eV 4) (eC (.int 2))))))
noncomputable def b_raw_times : SX := (sSeq (sSet 2 (eFz (mDc (iS (eV 0)) (gN 5) bTrue (eV 5) (eTup (aC (eV 5) (aC (eC (.int 0)) aN))) [5])))
    (sSeq (sSet 3 (eV 0))
    (sSeq (sSet 4 (eV 1))
    (sSeq (sWhile (bV (eCmp gtD (eV 4) (eC (.int 0)))) W0_raw_times)
    (sRet (eV 2))))))
noncomputable def d_raw_times : Den := runD 2 4 b_raw_times
theorem p_raw_times (T : Tx K mg A) (F_raw_after : FnD P w K mg base clW 1 2 A.f_raw_after d_raw_after) {f : Addr} : ∀ (cdv : Value) (A : Around) (outer : List Env) (s : Shared) (H : Hp) (E : XK), Room 1 (A.deeper (envOfC "raw_times" (defScope (top 32)) s.heap.objs.size f cdv)) →
    GSs clW (cxOf (L2.CX P w) P w K mg base ["push", "many", "found", "power", "left", "name"] "raw_times" (defScope (top 32)) f cdv A outer s H E) (defBody (top 32)) b_raw_times := fun cdv A outer s H E hr => by
  have sc := sc_raw_times
  have hu := hr.units
  have hu1 := hu_of hr
  have TC := T.tc
  have TE := T.te
  exact (gss_cons (gs_setF (gms_dc (own := [("name", 5)]) rfl sc.nd rfl rfl (sw_trueD rfl rfl rfl rfl) (gi_any (ge_var rfl (.inl rfl) rfl rfl)) (blkOk_by (by kernel_rfl)) (by decide) (fun _ _ _ _ _ => (gn_name sc.nd rfl (.inl rfl) (.inr rfl))) (fun _ _ _ _ _ => gts_nil) (fun _ _ _ _ _ => (ge_var rfl (.inl rfl) rfl rfl)) (fun _ _ _ _ _ => (ge_tup (ga_cons (ge_var rfl (.inl rfl) rfl rfl) (ga_cons ge_int ga_nil rfl) rfl))) (fun _ => rfl))) (gss_cons (gs_set sc.nd rfl (.inl rfl) (ge_var rfl (.inl rfl) rfl rfl) rfl (.inr rfl)) (gss_cons (gs_set sc.nd rfl (.inl rfl) (ge_var rfl (.inl rfl) rfl rfl) rfl (.inr rfl)) (gss_cons (gs_while (gt_cmp ok_gt (ge_var rfl (.inl rfl) rfl rfl) ge_int rfl) (gss_cons (gs_if (gt_cmp (ok_eq hu) (ge_bin ok_mod (ge_var rfl (.inl rfl) rfl rfl) ge_int) ge_int rfl) (gss_one (gs_set sc.nd rfl (.inl rfl) (ge_call F_raw_after (hr.mono (by decide)) rfl T.g_raw_after (ga_cons (ge_var rfl (.inl rfl) rfl rfl) (ga_cons (ge_var rfl (.inl rfl) rfl rfl) ga_nil rfl) rfl) rfl rfl rfl) rfl (.inr rfl))) gss_nil) (gss_cons (gs_set sc.nd rfl (.inl rfl) (ge_call F_raw_after (hr.mono (by decide)) rfl T.g_raw_after (ga_cons (ge_var rfl (.inl rfl) rfl rfl) (ga_cons (ge_var rfl (.inl rfl) rfl rfl) ga_nil rfl) rfl) rfl rfl rfl) rfl (.inr rfl)) (gss_one (gs_set sc.nd rfl (.inl rfl) (ge_bin ok_fdiv (ge_var rfl (.inl rfl) rfl rfl) ge_int) rfl (.inr rfl)))))) (gss_one (gs_ret (ge_var rfl (.inl rfl) rfl rfl)))))))

/-! ### first_numbers -/
theorem sc_first_numbers : FnScope ["program", "given", "found", "at", "name"] ["program", "given"] (defScope (top 34)) := ⟨rfl, rfl, rfl, by decide +kernel, rfl, by decide +kernel, by decide +kernel⟩
noncomputable def L0_first_numbers : SX := (sAsg (eHB (hV 1) (eV 3) idxD) (tIK (hV 2) (eV 4)))
noncomputable def b_first_numbers : SX := (sSeq (sOwn 2 (mDc (iS (eCall d_names (aC (eV 0) aN))) (gN 4) bTrue (eV 4) (eC (.int 0)) [4]))
    (sSeq (sFor (iEn (eH (hV 0) (fldD "given"))) (gT [(gN 3), (gN 4)]) L0_first_numbers)
    (sFz 2 (sRet (eV 2)))))
noncomputable def d_first_numbers : Den := runD 2 3 b_first_numbers
theorem p_first_numbers (T : Tx K mg A) (F_names : FnD P w K mg base clW 2 1 A.f_names d_names) {f : Addr} : ∀ (cdv : Value) (A : Around) (outer : List Env) (s : Shared) (H : Hp) (E : XK), Room 2 (A.deeper (envOfC "first_numbers" (defScope (top 34)) s.heap.objs.size f cdv)) →
    GSs clW (cxOf (L2.CX P w) P w K mg base ["program", "given", "found", "at", "name"] "first_numbers" (defScope (top 34)) f cdv A outer s H E) (defBody (top 34)) b_first_numbers := fun cdv A outer s H E hr => by
  have sc := sc_first_numbers
  have hu := hr.units
  have hu1 := hu_of hr
  have TC := T.tc
  have TE := T.te
  exact (gss_cons (gs_own (by decide) (gms_dc (own := [("name", 4)]) rfl sc.nd rfl rfl (sw_trueD rfl rfl rfl rfl) (gi_any (ge_call F_names (hr.mono (by decide)) rfl T.g_names (ga_cons (ge_var rfl (.inl rfl) rfl rfl) ga_nil rfl) rfl rfl rfl)) (blkOk_by (by kernel_rfl)) (by decide) (fun _ _ _ _ _ => (gn_name sc.nd rfl (.inl rfl) (.inr rfl))) (fun _ _ _ _ _ => gts_nil) (fun _ _ _ _ _ => (ge_var rfl (.inl rfl) rfl rfl)) (fun _ _ _ _ _ => ge_int) (fun _ => rfl))) (gss_cons (gs_for rfl (gi_en rfl T.n_enumerate (ge_fld (T.f_given) (gh_var rfl (.inl rfl) rfl rfl) rfl) rfl) (gn_tup rfl (gns_cons (gn_name sc.nd rfl (.inl rfl) (.inr rfl)) (gns_cons (gn_name sc.nd rfl (.inl rfl) (.inr rfl)) gns_nil rfl) rfl) rfl rfl) (gss_one (gs_asg (ge_sub hu1 (gh_var rfl (.inl rfl) rfl rfl) (ge_var rfl (.inl rfl) rfl rfl) (fun _ _ => rfl)) (gtg_ik hu1 (gh_var rfl (.inl rfl) rfl rfl) (ge_var rfl (.inl rfl) rfl rfl) (fun _ => rfl)) rfl rfl rfl)) (fun _ => rfl)) (gss_one (gs_fz 2 (gs_ret (ge_var rfl (.inl rfl) rfl rfl))))))

/-! ### statement_done -/
theorem sc_statement_done : FnScope ["statement", "numbers", "own", "many", "push"] ["statement", "numbers"] (defScope (top 35)) := ⟨rfl, rfl, rfl, by decide +kernel, rfl, by decide +kernel, by decide +kernel⟩
noncomputable def b_statement_done : SX := (sSeq (sSet 2 (eH (hV 1) tupleK))
    (sSeq (sIf (bV (eCmp neD (eHB (hV 0) (eC (.int 0)) idxD) (eC (.str "round")))) ((sRet (eTup (aC (eC (.int 1)) (aC (eCall d_raw_pushed (aC (eCall d_raw_push (aC (eV 2) (aC (eTup (aC (eV 0) aN)) aN))) (aC (eV 1) aN))) aN))))) (sNil))
    (sSeq (sSet 3 (eHB (hV 1) (eHB (hV 0) (eC (.int 1)) idxD) idxD))
    (sSeq (sSet 4 (eCall d_raw_times (aC (eCall d_raw_push (aC (eV 2) (aC (eHB (hV 0) (eC (.int 2)) idxD) aN))) (aC (eV 3) aN))))
    (sRet (eTup (aC (eBin addD (eC (.int 1)) (eBin mulD (eV 3) (eH (hE (eHB (hV 0) (eC (.int 2)) idxD)) lenD))) (aC (eCall d_raw_pushed (aC (eV 4) (aC (eV 1) aN))) aN))))))))
noncomputable def d_statement_done : Den := runD 2 3 b_statement_done
theorem p_statement_done (T : Tx K mg A) (F_raw_push : FnD P w K mg base clW 1 2 A.f_raw_push d_raw_push) (F_raw_pushed : FnD P w K mg base clW 2 2 A.f_raw_pushed d_raw_pushed) (F_raw_times : FnD P w K mg base clW 2 2 A.f_raw_times d_raw_times) {f : Addr} : ∀ (cdv : Value) (A : Around) (outer : List Env) (s : Shared) (H : Hp) (E : XK), Room 2 (A.deeper (envOfC "statement_done" (defScope (top 35)) s.heap.objs.size f cdv)) →
    GSs clW (cxOf (L2.CX P w) P w K mg base ["statement", "numbers", "own", "many", "push"] "statement_done" (defScope (top 35)) f cdv A outer s H E) (defBody (top 35)) b_statement_done := fun cdv A outer s H E hr => by
  have sc := sc_statement_done
  have hu := hr.units
  have hu1 := hu_of hr
  have TC := T.tc
  have TE := T.te
  exact (gss_cons (gs_set sc.nd rfl (.inl rfl) (ge_t1 (ok_tupleK rfl) rfl T.n_tuple (by decide +kernel) (gh_var rfl (.inl rfl) rfl rfl) (by decide) rfl rfl) rfl (.inr rfl)) (gss_cons (gs_if (gt_cmp (ok_ne hu) (ge_sub hu1 (gh_var rfl (.inl rfl) rfl rfl) ge_int (fun _ _ => rfl)) ge_str rfl) (gss_one (gs_ret (ge_tup (ga_cons ge_int (ga_cons (ge_call F_raw_pushed (hr.mono (by decide)) rfl T.g_raw_pushed (ga_cons (ge_call F_raw_push (hr.mono (by decide)) rfl T.g_raw_push (ga_cons (ge_var rfl (.inl rfl) rfl rfl) (ga_cons (ge_tup (ga_cons (ge_var rfl (.inl rfl) rfl rfl) ga_nil rfl)) ga_nil rfl) rfl) rfl rfl rfl) (ga_cons (ge_var rfl (.inl rfl) rfl rfl) ga_nil rfl) rfl) rfl rfl rfl) ga_nil rfl) rfl)))) gss_nil) (gss_cons (gs_set sc.nd rfl (.inl rfl) (ge_sub hu1 (gh_var rfl (.inl rfl) rfl rfl) (ge_sub hu1 (gh_var rfl (.inl rfl) rfl rfl) ge_int (fun _ _ => rfl)) (fun _ _ => rfl)) rfl (.inr rfl)) (gss_cons (gs_set sc.nd rfl (.inl rfl) (ge_call F_raw_times (hr.mono (by decide)) rfl T.g_raw_times (ga_cons (ge_call F_raw_push (hr.mono (by decide)) rfl T.g_raw_push (ga_cons (ge_var rfl (.inl rfl) rfl rfl) (ga_cons (ge_sub hu1 (gh_var rfl (.inl rfl) rfl rfl) ge_int (fun _ _ => rfl)) ga_nil rfl) rfl) rfl rfl rfl) (ga_cons (ge_var rfl (.inl rfl) rfl rfl) ga_nil rfl) rfl) rfl rfl rfl) rfl (.inr rfl)) (gss_one (gs_ret (ge_tup (ga_cons (ge_bin ok_add ge_int (ge_bin ok_mul (ge_var rfl (.inl rfl) rfl rfl) (ge_b1 ok_len rfl T.n_len (by decide +kernel) (gh_of (ge_sub hu1 (gh_var rfl (.inl rfl) rfl rfl) ge_int (fun _ _ => rfl))) (by decide) rfl rfl))) (ga_cons (ge_call F_raw_pushed (hr.mono (by decide)) rfl T.g_raw_pushed (ga_cons (ge_var rfl (.inl rfl) rfl rfl) (ga_cons (ge_var rfl (.inl rfl) rfl rfl) ga_nil rfl) rfl) rfl rfl rfl) ga_nil rfl) rfl))))))))

/-! ### parts -/
theorem sc_parts : FnScope ["program", "given", "found", "statement", "begin", "numbers", "many", "later"] ["program", "given"] (defScope (top 36)) := ⟨rfl, rfl, rfl, by decide +kernel, rfl, by decide +kernel, by decide +kernel⟩
noncomputable def L0_parts : SX := (sSeq (sAsg (eHB (hV 2) (eUn negD (eC (.int 1))) idxD) (fun d ρ S => ((gT [(gN 4), (gN 5)]) d ρ).map fun ρ' => (ρ', S)))
    (sSeq (sAsg (eCall d_statement_done (aC (eV 3) (aC (eV 5) aN))) (fun d ρ S => ((gT [(gN 6), (gN 7)]) d ρ).map fun ρ' => (ρ', S)))
    (sMt (hV 2) (aC (eTup (aC (eBin addD (eV 4) (eV 6)) (aC (eV 7) aN))) aN) appD)))
noncomputable def b_parts : SX := (sSeq (sOwn 2 (mLst (aC (eTup (aC (eC (.int 0)) (aC (eCall d_first_numbers (aC (eV 0) (aC (eV 1) aN))) aN))) aN)))
    (sSeq (sFor (iS (eH (hV 0) (fldD "block"))) (gN 3) L0_parts)
    (sFz 2 (sRet (eV 2)))))
noncomputable def d_parts : Den := runD 2 6 b_parts
theorem p_parts (T : Tx K mg A) (F_first_numbers : FnD P w K mg base clW 3 2 A.f_first_numbers d_first_numbers) (F_statement_done : FnD P w K mg base clW 3 2 A.f_statement_done d_statement_done) {f : Addr} : ∀ (cdv : Value) (A : Around) (outer : List Env) (s : Shared) (H : Hp) (E : XK), Room 3 (A.deeper (envOfC "parts" (defScope (top 36)) s.heap.objs.size f cdv)) →
    GSs clW (cxOf (L2.CX P w) P w K mg base ["program", "given", "found", "statement", "begin", "numbers", "many", "later"] "parts" (defScope (top 36)) f cdv A outer s H E) (defBody (top 36)) b_parts := fun cdv A outer s H E hr => by
  have sc := sc_parts
  have hu := hr.units
  have hu1 := hu_of hr
  have TC := T.tc
  have TE := T.te
  exact (gss_cons (gs_own (by decide) (gms_of sc.nd rfl (.inl rfl) (gm_lst (ga_cons (ge_tup (ga_cons ge_int (ga_cons (ge_call F_first_numbers (hr.mono (by decide)) rfl T.g_first_numbers (ga_cons (ge_var rfl (.inl rfl) rfl rfl) (ga_cons (ge_var rfl (.inl rfl) rfl rfl) ga_nil rfl) rfl) rfl rfl rfl) ga_nil rfl) rfl)) ga_nil rfl)) rfl (.inr rfl))) (gss_cons (gs_for rfl (gi_any (ge_fld (T.f_block) (gh_var rfl (.inl rfl) rfl rfl) rfl)) (gn_name sc.nd rfl (.inl rfl) (.inr rfl)) (gss_cons (gs_asg (ge_sub hu1 (gh_var rfl (.inl rfl) rfl rfl) (ge_neg ge_int) (fun _ _ => rfl)) (gtg_n (gn_tup rfl (gns_cons (gn_name sc.nd rfl (.inl rfl) (.inr rfl)) (gns_cons (gn_name sc.nd rfl (.inl rfl) (.inr rfl)) gns_nil rfl) rfl) rfl rfl)) rfl rfl rfl) (gss_cons (gs_asg (ge_call F_statement_done (hr.mono (by decide)) rfl T.g_statement_done (ga_cons (ge_var rfl (.inl rfl) rfl rfl) (ga_cons (ge_var rfl (.inl rfl) rfl rfl) ga_nil rfl) rfl) rfl rfl rfl) (gtg_n (gn_tup rfl (gns_cons (gn_name sc.nd rfl (.inl rfl) (.inr rfl)) (gns_cons (gn_name sc.nd rfl (.inl rfl) (.inr rfl)) gns_nil rfl) rfl) rfl rfl)) rfl rfl rfl) (gss_one (gs_mt PySem.F.slot_list_append PySem.F.type_list_append mt_append mt_app (gh_var rfl (.inl rfl) rfl rfl) (ga_cons (ge_tup (ga_cons (ge_bin ok_add (ge_var rfl (.inl rfl) rfl rfl) (ge_var rfl (.inl rfl) rfl rfl)) (ga_cons (ge_var rfl (.inl rfl) rfl rfl) ga_nil rfl) rfl)) ga_nil rfl) rfl rfl rfl rfl rfl rfl)))) (fun _ => rfl)) (gss_one (gs_fz 2 (gs_ret (ge_var rfl (.inl rfl) rfl rfl))))))

/-! ### raw_last -/
theorem sc_raw_last : FnScope ["program", "given"] ["program", "given"] (defScope (top 37)) := ⟨rfl, rfl, rfl, by decide +kernel, rfl, by decide +kernel, by decide +kernel⟩
noncomputable def b_raw_last : SX := (sRet (eHB (hE (eHB (hE (eCall d_parts (aC (eV 0) (aC (eV 1) aN)))) (eUn negD (eC (.int 1))) idxD)) (eC (.int 1)) idxD))
noncomputable def d_raw_last : Den := runD 2 0 b_raw_last
theorem p_raw_last (T : Tx K mg A) (F_parts : FnD P w K mg base clW 4 2 A.f_parts d_parts) {f : Addr} : ∀ (cdv : Value) (A : Around) (outer : List Env) (s : Shared) (H : Hp) (E : XK), Room 4 (A.deeper (envOfC "raw_last" (defScope (top 37)) s.heap.objs.size f cdv)) →
    GSs clW (cxOf (L2.CX P w) P w K mg base ["program", "given"] "raw_last" (defScope (top 37)) f cdv A outer s H E) (defBody (top 37)) b_raw_last := fun cdv A outer s H E hr => by
  have sc := sc_raw_last
  have hu := hr.units
  have hu1 := hu_of hr
  have TC := T.tc
  have TE := T.te
  exact (gss_one (gs_ret (ge_sub hu1 (gh_of (ge_sub hu1 (gh_of (ge_call F_parts (hr.mono (by decide)) rfl T.g_parts (ga_cons (ge_var rfl (.inl rfl) rfl rfl) (ga_cons (ge_var rfl (.inl rfl) rfl rfl) ga_nil rfl) rfl) rfl rfl rfl)) (ge_neg ge_int) (fun _ _ => rfl))) ge_int (fun _ _ => rfl))))

/-! ### raw_results -/
theorem sc_raw_results : FnScope ["program", "given", "numbers", "name"] ["program", "given"] (defScope (top 38)) := ⟨rfl, rfl, rfl, by decide +kernel, rfl, by decide +kernel, by decide +kernel⟩
noncomputable def b_raw_results : SX := (sSeq (sSet 2 (eCall d_raw_last (aC (eV 0) (aC (eV 1) aN))))
    (sRet (eH (hE (eFz (mLc (iS (eH (hV 0) (fldD "told"))) (gN 3) bTrue (eHB (hV 2) (eV 3) idxD) [3]))) tupleD)))
noncomputable def d_raw_results : Den := runD 2 2 b_raw_results
theorem p_raw_results (T : Tx K mg A) (F_raw_last : FnD P w K mg base clW 5 2 A.f_raw_last d_raw_last) {f : Addr} : ∀ (cdv : Value) (A : Around) (outer : List Env) (s : Shared) (H : Hp) (E : XK), Room 5 (A.deeper (envOfC "raw_results" (defScope (top 38)) s.heap.objs.size f cdv)) →
    GSs clW (cxOf (L2.CX P w) P w K mg base ["program", "given", "numbers", "name"] "raw_results" (defScope (top 38)) f cdv A outer s H E) (defBody (top 38)) b_raw_results := fun cdv A outer s H E hr => by
  have sc := sc_raw_results
  have hu := hr.units
  have hu1 := hu_of hr
  have TC := T.tc
  have TE := T.te
  exact (gss_cons (gs_set sc.nd rfl (.inr rfl) (ge_call F_raw_last (hr.mono (by decide)) rfl T.g_raw_last (ga_cons (ge_var rfl (.inl rfl) rfl rfl) (ga_cons (ge_var rfl (.inl rfl) rfl rfl) ga_nil rfl) rfl) rfl rfl rfl) rfl (.inl rfl)) (gss_one (gs_ret (ge_t1 ok_tuple rfl T.n_tuple (by decide +kernel) (gh_of (ge_fz (gm_lc (own := [("name", 3)]) rfl sc.nd (gi_any (ge_fld (T.f_told) (gh_var rfl (.inl rfl) rfl rfl) rfl)) (blkOk_by (by kernel_rfl)) (by decide) (fun _ _ _ _ _ => (gn_name sc.nd rfl (.inl rfl) (.inr rfl))) (fun _ _ _ _ _ => gts_nil) (fun _ _ _ _ _ => (ge_sub hu1 (gh_var rfl (.inr (.inl rfl)) rfl rfl) (ge_var rfl (.inl rfl) rfl rfl) (fun _ _ => rfl))) (fun _ => rfl)))) (by decide) rfl rfl))))

/-! ### results -/
theorem sc_results : FnScope ["program", "given"] ["program", "given"] (defScope (top 39)) := ⟨rfl, rfl, rfl, by decide +kernel, rfl, by decide +kernel, by decide +kernel⟩
noncomputable def b_results : SX := (sSeq (sExpr (eCall d_check_input (aC (eV 1) (aC (eH (hE (eH (hV 0) (fldD "given"))) lenD) aN))))
    (sRet (eCall d_raw_results (aC (eV 0) (aC (eV 1) aN)))))
noncomputable def d_results : Den := runD 2 0 b_results
theorem p_results (T : Tx K mg A) (F_check_input : FnD P w K mg base clW 4 2 A.f_check_input d_check_input) (F_raw_results : FnD P w K mg base clW 6 2 A.f_raw_results d_raw_results) {f : Addr} : ∀ (cdv : Value) (A : Around) (outer : List Env) (s : Shared) (H : Hp) (E : XK), Room 6 (A.deeper (envOfC "results" (defScope (top 39)) s.heap.objs.size f cdv)) →
    GSs clW (cxOf (L2.CX P w) P w K mg base ["program", "given"] "results" (defScope (top 39)) f cdv A outer s H E) (defBody (top 39)) b_results := fun cdv A outer s H E hr => by
  have sc := sc_results
  have hu := hr.units
  have hu1 := hu_of hr
  have TC := T.tc
  have TE := T.te
  exact (gss_cons (gs_expr (ge_call F_check_input (hr.mono (by decide)) rfl T.g_check_input (ga_cons (ge_var rfl (.inl rfl) rfl rfl) (ga_cons (ge_b1 ok_len rfl T.n_len (by decide +kernel) (gh_of (ge_fld (T.f_given) (gh_var rfl (.inl rfl) rfl rfl) rfl)) (by decide) rfl rfl) ga_nil rfl) rfl) rfl rfl rfl) rfl) (gss_one (gs_ret (ge_call F_raw_results (hr.mono (by decide)) rfl T.g_raw_results (ga_cons (ge_var rfl (.inl rfl) rfl rfl) (ga_cons (ge_var rfl (.inl rfl) rfl rfl) ga_nil rfl) rfl) rfl rfl rfl))))

/-! ### deeds -/
theorem sc_deeds : FnScope ["program", "given"] ["program", "given"] (defScope (top 40)) := ⟨rfl, rfl, rfl, by decide +kernel, rfl, by decide +kernel, by decide +kernel⟩
noncomputable def b_deeds : SX := (sSeq (sExpr (eCall d_check_input (aC (eV 1) (aC (eH (hE (eH (hV 0) (fldD "given"))) lenD) aN))))
    (sRet (eHB (hE (eHB (hE (eCall d_parts (aC (eV 0) (aC (eV 1) aN)))) (eUn negD (eC (.int 1))) idxD)) (eC (.int 0)) idxD)))
noncomputable def d_deeds : Den := runD 2 0 b_deeds
theorem p_deeds (T : Tx K mg A) (F_check_input : FnD P w K mg base clW 4 2 A.f_check_input d_check_input) (F_parts : FnD P w K mg base clW 4 2 A.f_parts d_parts) {f : Addr} : ∀ (cdv : Value) (A : Around) (outer : List Env) (s : Shared) (H : Hp) (E : XK), Room 4 (A.deeper (envOfC "deeds" (defScope (top 40)) s.heap.objs.size f cdv)) →
    GSs clW (cxOf (L2.CX P w) P w K mg base ["program", "given"] "deeds" (defScope (top 40)) f cdv A outer s H E) (defBody (top 40)) b_deeds := fun cdv A outer s H E hr => by
  have sc := sc_deeds
  have hu := hr.units
  have hu1 := hu_of hr
  have TC := T.tc
  have TE := T.te
  exact (gss_cons (gs_expr (ge_call F_check_input (hr.mono (by decide)) rfl T.g_check_input (ga_cons (ge_var rfl (.inl rfl) rfl rfl) (ga_cons (ge_b1 ok_len rfl T.n_len (by decide +kernel) (gh_of (ge_fld (T.f_given) (gh_var rfl (.inl rfl) rfl rfl) rfl)) (by decide) rfl rfl) ga_nil rfl) rfl) rfl rfl rfl) rfl) (gss_one (gs_ret (ge_sub hu1 (gh_of (ge_sub hu1 (gh_of (ge_call F_parts (hr.mono (by decide)) rfl T.g_parts (ga_cons (ge_var rfl (.inl rfl) rfl rfl) (ga_cons (ge_var rfl (.inl rfl) rfl rfl) ga_nil rfl) rfl) rfl rfl rfl)) (ge_neg ge_int) (fun _ _ => rfl))) ge_int (fun _ _ => rfl)))))

/-! ### _law_pot -/
theorem sc__law_pot : FnScope ["_law_script", "_law_cells", "_law_greats", "_law_smalls", "_law_item"] ["_law_script"] (defScope (top 42)) := ⟨rfl, rfl, rfl, by decide +kernel, rfl, by decide +kernel, by decide +kernel⟩
noncomputable def b__law_pot : SX := (sSeq (sSet 1 (eFz (mLc (iS (eSl (hV 0) none (some (eC (.int 63))))) (gN 4) bTrue (eH (hV 4) intD) [4])))
    (sSeq (sSet 2 (eAl (mLc (iS (eV 1)) (gN 4) (bV (eCmp geD (eH (hV 4) absD) (eBin powD (eC (.int 10)) (eC (.int 18))))) (eH (hV 4) absD) [4])))
    (sSeq (sSet 3 (eBin addD (eFz (mLc (iS (eV 1)) (gN 4) (bV (eCmp ltD (eH (hV 4) absD) (eBin powD (eC (.int 10)) (eC (.int 18))))) (eBin modD (eH (hV 4) intD) (eC (.int 1000000007))) [4])) (eFz (mLst (aC (eBin addD (eH (hV 1) lenD) (eC (.int 1))) aN)))))
    (sRet (eAl (mLst (aC (eV 2) (aC (eV 3) (aC (eC (.int 0)) (aC (eBin modD (eH (hE (eH (hV 3) sumD)) intD) (eC (.int 999983))) aN))))))))))
noncomputable def d__law_pot : Den := runD 1 4 b__law_pot
theorem p__law_pot (T : Tx K mg A)  {f : Addr} : ∀ (cdv : Value) (A : Around) (outer : List Env) (s : Shared) (H : Hp) (E : XK), Room 0 (A.deeper (envOfC "_law_pot" (defScope (top 42)) s.heap.objs.size f cdv)) →
    GSs clW (cxOf (L2.CX P w) P w K mg base ["_law_script", "_law_cells", "_law_greats", "_law_smalls", "_law_item"] "_law_pot" (defScope (top 42)) f cdv A outer s H E) (defBody (top 42)) b__law_pot := fun cdv A outer s H E hr => by
  have sc := sc__law_pot
  have hu := hr.units
  have hu1 := hu_of hr
  have TC := T.tc
  have TE := T.te
  exact (gss_cons (gs_setF (gms_lc (own := [("_law_item", 4)]) rfl sc.nd rfl rfl (sw_true rfl rfl rfl rfl) (gi_any (ge_slice (gh_var rfl (.inl rfl) rfl rfl) go_none (go_some ge_int))) (blkOk_by (by kernel_rfl)) (by decide) (fun _ _ _ _ _ => (gn_name sc.nd rfl (.inl rfl) (.inr rfl))) (fun _ _ _ _ _ => gts_nil) (fun _ _ _ _ _ => (ge_t1 ok_int rfl T.n_int (by decide +kernel) (gh_var rfl (.inl rfl) rfl rfl) (by decide) rfl rfl)) (fun _ => rfl))) (gss_cons (gs_setP (gms_lc (own := [("_law_item", 4)]) rfl sc.nd rfl rfl (sw_true rfl rfl rfl rfl) (gi_any (ge_var rfl (.inl rfl) rfl rfl)) (blkOk_by (by kernel_rfl)) (by decide) (fun _ _ _ _ _ => (gn_name sc.nd rfl (.inl rfl) (.inr rfl))) (fun _ _ _ _ _ => (gts_one (gt_cmp ok_ge (ge_b1 ok_abs rfl T.n_abs (by decide +kernel) (gh_var rfl (.inl rfl) rfl rfl) (by decide) rfl rfl) (ge_bin ok_pow ge_int ge_int) rfl))) (fun _ _ _ _ _ => (ge_b1 ok_abs rfl T.n_abs (by decide +kernel) (gh_var rfl (.inl rfl) rfl rfl) (by decide) rfl rfl)) (fun _ => rfl))) (gss_cons (gs_set sc.nd rfl (.inl rfl) (ge_bin ok_add (ge_fz (gm_lc (own := [("_law_item", 4)]) rfl sc.nd (gi_any (ge_var rfl (.inl rfl) rfl rfl)) (blkOk_by (by kernel_rfl)) (by decide) (fun _ _ _ _ _ => (gn_name sc.nd rfl (.inl rfl) (.inr rfl))) (fun _ _ _ _ _ => (gts_one (gt_cmp ok_lt (ge_b1 ok_abs rfl T.n_abs (by decide +kernel) (gh_var rfl (.inl rfl) rfl rfl) (by decide) rfl rfl) (ge_bin ok_pow ge_int ge_int) rfl))) (fun _ _ _ _ _ => (ge_bin ok_mod (ge_t1 ok_int rfl T.n_int (by decide +kernel) (gh_var rfl (.inl rfl) rfl rfl) (by decide) rfl rfl) ge_int)) (fun _ => rfl))) (ge_fz (gm_lst (ga_cons (ge_bin ok_add (ge_b1 ok_len rfl T.n_len (by decide +kernel) (gh_var rfl (.inl rfl) rfl rfl) (by decide) rfl rfl) ge_int) ga_nil rfl)))) rfl (.inr rfl)) (gss_one (gs_ret (ge_al (gm_lst (ga_cons (ge_var rfl (.inl rfl) rfl rfl) (ga_cons (ge_var rfl (.inl rfl) rfl rfl) (ga_cons ge_int (ga_cons (ge_bin ok_mod (ge_t1 ok_int rfl T.n_int (by decide +kernel) (gh_of (ge_b1 (ok_sum rfl) rfl T.n_sum (by decide +kernel) (gh_var rfl (.inl rfl) rfl rfl) (by decide) rfl rfl)) (by decide) rfl rfl) ge_int) ga_nil rfl) rfl) rfl) rfl))))))))

/-! ### _law_draw -/
theorem sc__law_draw : FnScope ["_law_pot_here", "_law_many_here", "_law_turn", "_law_number", "_law_seed"] ["_law_pot_here", "_law_many_here"] (defScope (top 43)) := ⟨rfl, rfl, rfl, by decide +kernel, rfl, by decide +kernel, by decide +kernel⟩
noncomputable def b__law_draw : SX := (sSeq (sSet 2 (eHB (hV 0) (eC (.int 2)) idxD))
    (sSeq (sAsg (eBin addD (eV 2) (eC (.int 1))) (tI (hV 0) (eC (.int 2))))
    (sSeq (sIf (bV (eCmp gtD (eH (hE (eHB (hV 0) (eC (.int 0)) idxD)) lenD) (eC (.int 0)))) ((sSeq (sSet 3 (eHB (hE (eHB (hV 0) (eC (.int 0)) idxD)) (eC (.int 0)) idxD))
    (sSeq (sAsg (eBin fdivD (eV 3) (eV 1)) (tI (hE (eHB (hV 0) (eC (.int 0)) idxD)) (eC (.int 0))))
    (sSeq (sIf (bV (eCmp ltD (eV 3) (eV 1))) ((sMt (hE (eHB (hV 0) (eC (.int 0)) idxD)) (aC (eC (.int 0)) aN) popD)) (sNil))
    (sRet (eBin modD (eH (hV 3) intD) (eV 1))))))) (sNil))
    (sSeq (sSet 4 (eBin addD (eBin addD (eBin mulD (eHB (hE (eHB (hV 0) (eC (.int 1)) idxD)) (eBin modD (eH (hV 2) intD) (eH (hE (eHB (hV 0) (eC (.int 1)) idxD)) lenD)) idxD) (eC (.int 7919))) (eBin mulD (eC (.int 104729)) (eV 2))) (eBin mulD (eHB (hV 0) (eC (.int 3)) idxD) (eC (.int 31)))))
    (sSeq (sSet 3 (eBin modD (eH (hE (eBin addD (eBin mulD (eV 4) (eC (.int 48271))) (eC (.int 11)))) intD) (eC (.int 2147483647))))
    (sSeq (sSet 3 (eBin modD (eH (hE (eBin mulD (eV 3) (eBin addD (eBin fdivD (eV 3) (eC (.int 1009))) (eC (.int 69621))))) intD) (eC (.int 2147483629))))
    (sSeq (sSet 3 (eBin modD (eH (hE (eBin addD (eBin mulD (eV 3) (eBin addD (eBin fdivD (eV 3) (eC (.int 2003))) (eC (.int 40692)))) (eV 2))) intD) (eC (.int 2147483399))))
    (sRet (eBin modD (eH (hE (eBin fdivD (eV 3) (eC (.int 64)))) intD) (eV 1))))))))))
noncomputable def d__law_draw : Den := runD 2 3 b__law_draw
theorem p__law_draw (T : Tx K mg A)  {f : Addr} : ∀ (cdv : Value) (A : Around) (outer : List Env) (s : Shared) (H : Hp) (E : XK), Room 0 (A.deeper (envOfC "_law_draw" (defScope (top 43)) s.heap.objs.size f cdv)) →
    GSs clW (cxOf (L2.CX P w) P w K mg base ["_law_pot_here", "_law_many_here", "_law_turn", "_law_number", "_law_seed"] "_law_draw" (defScope (top 43)) f cdv A outer s H E) (defBody (top 43)) b__law_draw := fun cdv A outer s H E hr => by
  have sc := sc__law_draw
  have hu := hr.units
  have hu1 := hu_of hr
  have TC := T.tc
  have TE := T.te
  exact (gss_cons (gs_set sc.nd rfl (.inl rfl) (ge_sub hu1 (gh_var rfl (.inl rfl) rfl rfl) ge_int (fun _ _ => rfl)) rfl (.inr rfl)) (gss_cons (gs_asg (ge_bin ok_add (ge_var rfl (.inl rfl) rfl rfl) ge_int) (gtg_i hu1 (gh_var rfl (.inl rfl) rfl rfl) ge_int (fun _ => rfl)) rfl rfl rfl) (gss_cons (gs_if (gt_cmp ok_gt (ge_b1 ok_len rfl T.n_len (by decide +kernel) (gh_of (ge_sub hu1 (gh_var rfl (.inl rfl) rfl rfl) ge_int (fun _ _ => rfl))) (by decide) rfl rfl) ge_int rfl) (gss_cons (gs_set sc.nd rfl (.inl rfl) (ge_sub hu1 (gh_of (ge_sub hu1 (gh_var rfl (.inl rfl) rfl rfl) ge_int (fun _ _ => rfl))) ge_int (fun _ _ => rfl)) rfl (.inr rfl)) (gss_cons (gs_asg (ge_bin ok_fdiv (ge_var rfl (.inl rfl) rfl rfl) (ge_var rfl (.inl rfl) rfl rfl)) (gtg_i hu1 (gh_of (ge_sub hu1 (gh_var rfl (.inl rfl) rfl rfl) ge_int (fun _ _ => rfl))) ge_int (fun _ => rfl)) rfl rfl rfl) (gss_cons (gs_if (gt_cmp ok_lt (ge_var rfl (.inl rfl) rfl rfl) (ge_var rfl (.inl rfl) rfl rfl) rfl) (gss_one (gs_mt PySem.F.slot_list_pop PySem.F.type_list_pop mt_popAt mt_popI (gh_of (ge_sub hu1 (gh_var rfl (.inl rfl) rfl rfl) ge_int (fun _ _ => rfl))) (ga_cons ge_int ga_nil rfl) rfl rfl rfl rfl rfl rfl)) gss_nil) (gss_one (gs_ret (ge_bin ok_mod (ge_t1 ok_int rfl T.n_int (by decide +kernel) (gh_var rfl (.inl rfl) rfl rfl) (by decide) rfl rfl) (ge_var rfl (.inl rfl) rfl rfl))))))) gss_nil) (gss_cons (gs_set sc.nd rfl (.inl rfl) (ge_bin ok_add (ge_bin ok_add (ge_bin ok_mul (ge_sub hu1 (gh_of (ge_sub hu1 (gh_var rfl (.inl rfl) rfl rfl) ge_int (fun _ _ => rfl))) (ge_bin ok_mod (ge_t1 ok_int rfl T.n_int (by decide +kernel) (gh_var rfl (.inl rfl) rfl rfl) (by decide) rfl rfl) (ge_b1 ok_len rfl T.n_len (by decide +kernel) (gh_of (ge_sub hu1 (gh_var rfl (.inl rfl) rfl rfl) ge_int (fun _ _ => rfl))) (by decide) rfl rfl)) (fun _ _ => rfl)) ge_int) (ge_bin ok_mul ge_int (ge_var rfl (.inl rfl) rfl rfl))) (ge_bin ok_mul (ge_sub hu1 (gh_var rfl (.inl rfl) rfl rfl) ge_int (fun _ _ => rfl)) ge_int)) rfl (.inr rfl)) (gss_cons (gs_set sc.nd rfl (.inl rfl) (ge_bin ok_mod (ge_t1 ok_int rfl T.n_int (by decide +kernel) (gh_of (ge_bin ok_add (ge_bin ok_mul (ge_var rfl (.inl rfl) rfl rfl) ge_int) ge_int)) (by decide) rfl rfl) ge_int) rfl (.inr rfl)) (gss_cons (gs_set sc.nd rfl (.inl rfl) (ge_bin ok_mod (ge_t1 ok_int rfl T.n_int (by decide +kernel) (gh_of (ge_bin ok_mul (ge_var rfl (.inl rfl) rfl rfl) (ge_bin ok_add (ge_bin ok_fdiv (ge_var rfl (.inl rfl) rfl rfl) ge_int) ge_int))) (by decide) rfl rfl) ge_int) rfl (.inr rfl)) (gss_cons (gs_set sc.nd rfl (.inl rfl) (ge_bin ok_mod (ge_t1 ok_int rfl T.n_int (by decide +kernel) (gh_of (ge_bin ok_add (ge_bin ok_mul (ge_var rfl (.inl rfl) rfl rfl) (ge_bin ok_add (ge_bin ok_fdiv (ge_var rfl (.inl rfl) rfl rfl) ge_int) ge_int)) (ge_var rfl (.inl rfl) rfl rfl))) (by decide) rfl rfl) ge_int) rfl (.inr rfl)) (gss_one (gs_ret (ge_bin ok_mod (ge_t1 ok_int rfl T.n_int (by decide +kernel) (gh_of (ge_bin ok_fdiv (ge_var rfl (.inl rfl) rfl rfl) ge_int)) (by decide) rfl rfl) (ge_var rfl (.inl rfl) rfl rfl)))))))))))

/-! ### _law_any -/
theorem sc__law_any : FnScope ["_law_pot_here", "_law_items"] ["_law_pot_here", "_law_items"] (defScope (top 44)) := ⟨rfl, rfl, rfl, by decide +kernel, rfl, by decide +kernel, by decide +kernel⟩
noncomputable def b__law_any : SX := (sRet (eHB (hV 1) (eCall d__law_draw (aC (eV 0) (aC (eH (hV 1) lenD) aN))) idxD))
noncomputable def d__law_any : Den := runD 2 0 b__law_any
theorem p__law_any (T : Tx K mg A) (F__law_draw : FnD P w K mg base clW 1 2 A.f__law_draw d__law_draw) {f : Addr} : ∀ (cdv : Value) (A : Around) (outer : List Env) (s : Shared) (H : Hp) (E : XK), Room 1 (A.deeper (envOfC "_law_any" (defScope (top 44)) s.heap.objs.size f cdv)) →
    GSs clW (cxOf (L2.CX P w) P w K mg base ["_law_pot_here", "_law_items"] "_law_any" (defScope (top 44)) f cdv A outer s H E) (defBody (top 44)) b__law_any := fun cdv A outer s H E hr => by
  have sc := sc__law_any
  have hu := hr.units
  have hu1 := hu_of hr
  have TC := T.tc
  have TE := T.te
  exact (gss_one (gs_ret (ge_sub hu1 (gh_var rfl (.inl rfl) rfl rfl) (ge_call F__law_draw (hr.mono (by decide)) rfl T.g__law_draw (ga_cons (ge_var rfl (.inl rfl) rfl rfl) (ga_cons (ge_b1 ok_len rfl T.n_len (by decide +kernel) (gh_var rfl (.inl rfl) rfl rfl) (by decide) rfl rfl) ga_nil rfl) rfl) rfl rfl rfl) (fun _ _ => rfl))))

/-! ### _law_mixed -/
theorem sc__law_mixed : FnScope ["_law_pot_here", "_law_items", "_law_line", "_law_at", "_law_other"] ["_law_pot_here", "_law_items"] (defScope (top 45)) := ⟨rfl, rfl, rfl, by decide +kernel, rfl, by decide +kernel, by decide +kernel⟩
noncomputable def L0__law_mixed : SX := (sSeq (sSet 4 (eCall d__law_draw (aC (eV 0) (aC (eH (hV 2) lenD) aN))))
    (sAsg (eTup (aC (eHB (hV 2) (eV 4) idxD) (aC (eHB (hV 2) (eV 3) idxD) aN))) (tT [(tI (hV 2) (eV 3)), (tI (hV 2) (eV 4))])))
noncomputable def b__law_mixed : SX := (sSeq (sOwn 2 (mList (hV 1)))
    (sSeq (sFor (iR1 (aC (eH (hV 2) lenD) aN)) (gN 3) L0__law_mixed)
    (sFz 2 (sRet (eV 2)))))
noncomputable def d__law_mixed : Den := runD 2 3 b__law_mixed
theorem p__law_mixed (T : Tx K mg A) (F__law_draw : FnD P w K mg base clW 1 2 A.f__law_draw d__law_draw) {f : Addr} : ∀ (cdv : Value) (A : Around) (outer : List Env) (s : Shared) (H : Hp) (E : XK), Room 1 (A.deeper (envOfC "_law_mixed" (defScope (top 45)) s.heap.objs.size f cdv)) →
    GSs clW (cxOf (L2.CX P w) P w K mg base ["_law_pot_here", "_law_items", "_law_line", "_law_at", "_law_other"] "_law_mixed" (defScope (top 45)) f cdv A outer s H E) (defBody (top 45)) b__law_mixed := fun cdv A outer s H E hr => by
  have sc := sc__law_mixed
  have hu := hr.units
  have hu1 := hu_of hr
  have TC := T.tc
  have TE := T.te
  exact (gss_cons (gs_own (by decide) (gms_of sc.nd rfl (.inl rfl) (gm_list rfl T.n_list (gh_var rfl (.inl rfl) rfl rfl) rfl) rfl (.inr rfl))) (gss_cons (gs_for rfl (gi_r1 rfl T.n_range (ga_cons (ge_b1 ok_len rfl T.n_len (by decide +kernel) (gh_var rfl (.inl rfl) rfl rfl) (by decide) rfl rfl) ga_nil rfl) rfl) (gn_name sc.nd rfl (.inl rfl) (.inr rfl)) (gss_cons (gs_set sc.nd rfl (.inl rfl) (ge_call F__law_draw (hr.mono (by decide)) rfl T.g__law_draw (ga_cons (ge_var rfl (.inl rfl) rfl rfl) (ga_cons (ge_b1 ok_len rfl T.n_len (by decide +kernel) (gh_var rfl (.inl rfl) rfl rfl) (by decide) rfl rfl) ga_nil rfl) rfl) rfl rfl rfl) rfl (.inr rfl)) (gss_one (gs_asg (ge_tup (ga_cons (ge_sub hu1 (gh_var rfl (.inl rfl) rfl rfl) (ge_var rfl (.inl rfl) rfl rfl) (fun _ _ => rfl)) (ga_cons (ge_sub hu1 (gh_var rfl (.inl rfl) rfl rfl) (ge_var rfl (.inl rfl) rfl rfl) (fun _ _ => rfl)) ga_nil rfl) rfl)) (gtg_t rfl (gtgs_cons (gtg_i hu1 (gh_var rfl (.inl rfl) rfl rfl) (ge_var rfl (.inl rfl) rfl rfl) (fun _ => rfl)) (gtgs_cons (gtg_i hu1 (gh_var rfl (.inl rfl) rfl rfl) (ge_var rfl (.inl rfl) rfl rfl) (fun _ => rfl)) gtgs_nil rfl) rfl) rfl rfl) rfl rfl rfl))) (fun _ => rfl)) (gss_one (gs_fz 2 (gs_ret (ge_var rfl (.inl rfl) rfl rfl))))))

/-! ### _law_deed -/
theorem sc__law_deed : FnScope ["_law_pot_here", "_law_names_here", "_law_kind", "_law_name"] ["_law_pot_here", "_law_names_here"] (defScope (top 46)) := ⟨rfl, rfl, rfl, by decide +kernel, rfl, by decide +kernel, by decide +kernel⟩
noncomputable def b__law_deed : SX := (sSeq (sSet 2 (eCall d__law_draw (aC (eV 0) (aC (eC (.int 5)) aN))))
    (sSeq (sSet 3 (eCall d__law_any (aC (eV 0) (aC (eV 1) aN))))
    (sSeq (sIf (bV (eCmp eqD (eV 2) (eC (.int 0)))) ((sRet (eTup (aC (eC (.str "zero")) (aC (eV 3) aN))))) (sNil))
    (sRet (eIf (bV (eCmp ltD (eV 2) (eC (.int 3)))) (eTup (aC (eC (.str "copy")) (aC (eV 3) (aC (eCall d__law_any (aC (eV 0) (aC (eV 1) aN))) aN)))) (eTup (aC (eC (.str "more")) (aC (eV 3) aN))))))))
noncomputable def d__law_deed : Den := runD 2 2 b__law_deed
theorem p__law_deed (T : Tx K mg A) (F__law_any : FnD P w K mg base clW 2 2 A.f__law_any d__law_any) (F__law_draw : FnD P w K mg base clW 1 2 A.f__law_draw d__law_draw) {f : Addr} : ∀ (cdv : Value) (A : Around) (outer : List Env) (s : Shared) (H : Hp) (E : XK), Room 2 (A.deeper (envOfC "_law_deed" (defScope (top 46)) s.heap.objs.size f cdv)) →
    GSs clW (cxOf (L2.CX P w) P w K mg base ["_law_pot_here", "_law_names_here", "_law_kind", "_law_name"] "_law_deed" (defScope (top 46)) f cdv A outer s H E) (defBody (top 46)) b__law_deed := fun cdv A outer s H E hr => by
  have sc := sc__law_deed
  have hu := hr.units
  have hu1 := hu_of hr
  have TC := T.tc
  have TE := T.te
  exact (gss_cons (gs_set sc.nd rfl (.inl rfl) (ge_call F__law_draw (hr.mono (by decide)) rfl T.g__law_draw (ga_cons (ge_var rfl (.inl rfl) rfl rfl) (ga_cons ge_int ga_nil rfl) rfl) rfl rfl rfl) rfl (.inr rfl)) (gss_cons (gs_set sc.nd rfl (.inl rfl) (ge_call F__law_any (hr.mono (by decide)) rfl T.g__law_any (ga_cons (ge_var rfl (.inl rfl) rfl rfl) (ga_cons (ge_var rfl (.inl rfl) rfl rfl) ga_nil rfl) rfl) rfl rfl rfl) rfl (.inr rfl)) (gss_cons (gs_if (gt_cmp (ok_eq hu) (ge_var rfl (.inl rfl) rfl rfl) ge_int rfl) (gss_one (gs_ret (ge_tup (ga_cons ge_str (ga_cons (ge_var rfl (.inl rfl) rfl rfl) ga_nil rfl) rfl)))) gss_nil) (gss_one (gs_ret (ge_if (gt_cmp ok_lt (ge_var rfl (.inl rfl) rfl rfl) ge_int rfl) (ge_tup (ga_cons ge_str (ga_cons (ge_var rfl (.inl rfl) rfl rfl) (ga_cons (ge_call F__law_any (hr.mono (by decide)) rfl T.g__law_any (ga_cons (ge_var rfl (.inl rfl) rfl rfl) (ga_cons (ge_var rfl (.inl rfl) rfl rfl) ga_nil rfl) rfl) rfl rfl rfl) ga_nil rfl) rfl) rfl)) (ge_tup (ga_cons ge_str (ga_cons (ge_var rfl (.inl rfl) rfl rfl) ga_nil rfl) rfl))))))))

/-! ### _law_wheel -/
theorem sc__law_wheel : FnScope ["_law_pot_here", "_law_names_here", "_law_line", "_law_inside", "_law_at"] ["_law_pot_here", "_law_names_here"] (defScope (top 47)) := ⟨rfl, rfl, rfl, by decide +kernel, rfl, by decide +kernel, by decide +kernel⟩
noncomputable def L0__law_wheel : SX := (sMt (hV 3) (aC (eTup (aC (eC (.str "copy")) (aC (eHB (hV 2) (eV 4) idxD) (aC (eHB (hV 2) (eBin subD (eV 4) (eC (.int 1))) idxD) aN)))) aN) appD)
noncomputable def b__law_wheel : SX := (sSeq (sSet 2 (eSl (hE (eCall d__law_mixed (aC (eV 0) (aC (eV 1) aN)))) none (some (eBin addD (eC (.int 3)) (eCall d__law_draw (aC (eV 0) (aC (eC (.int 2)) aN)))))))
    (sSeq (sOwn 3 (mLst (aC (eTup (aC (eC (.str "copy")) (aC (eHB (hV 2) (eUn negD (eC (.int 1))) idxD) (aC (eHB (hV 2) (eUn negD (eC (.int 2))) idxD) aN)))) aN)))
    (sSeq (sFor (iR3 (aC (eBin subD (eH (hV 2) lenD) (eC (.int 2))) (aC (eC (.int 0)) (aC (eUn negD (eC (.int 1))) aN)))) (gN 4) L0__law_wheel)
    (sFz 3 (sRet (eH (hE (eBin addD (eV 3) (eFz (mLst (aC (eTup (aC (eC (.str "copy")) (aC (eHB (hV 2) (eC (.int 0)) idxD) (aC (eHB (hV 2) (eUn negD (eC (.int 1))) idxD) aN)))) (aC (eTup (aC (eC (.str "more")) (aC (eHB (hV 2) (eCall d__law_draw (aC (eV 0) (aC (eBin subD (eH (hV 2) lenD) (eC (.int 1))) aN))) idxD) aN))) aN)))))) tupleD))))))
noncomputable def d__law_wheel : Den := runD 2 3 b__law_wheel
theorem p__law_wheel (T : Tx K mg A) (F__law_draw : FnD P w K mg base clW 1 2 A.f__law_draw d__law_draw) (F__law_mixed : FnD P w K mg base clW 2 2 A.f__law_mixed d__law_mixed) {f : Addr} : ∀ (cdv : Value) (A : Around) (outer : List Env) (s : Shared) (H : Hp) (E : XK), Room 2 (A.deeper (envOfC "_law_wheel" (defScope (top 47)) s.heap.objs.size f cdv)) →
    GSs clW (cxOf (L2.CX P w) P w K mg base ["_law_pot_here", "_law_names_here", "_law_line", "_law_inside", "_law_at"] "_law_wheel" (defScope (top 47)) f cdv A outer s H E) (defBody (top 47)) b__law_wheel := fun cdv A outer s H E hr => by
  have sc := sc__law_wheel
  have hu := hr.units
  have hu1 := hu_of hr
  have TC := T.tc
  have TE := T.te
  exact (gss_cons (gs_set sc.nd rfl (.inl rfl) (ge_slice (gh_of (ge_call F__law_mixed (hr.mono (by decide)) rfl T.g__law_mixed (ga_cons (ge_var rfl (.inl rfl) rfl rfl) (ga_cons (ge_var rfl (.inl rfl) rfl rfl) ga_nil rfl) rfl) rfl rfl rfl)) go_none (go_some (ge_bin ok_add ge_int (ge_call F__law_draw (hr.mono (by decide)) rfl T.g__law_draw (ga_cons (ge_var rfl (.inl rfl) rfl rfl) (ga_cons ge_int ga_nil rfl) rfl) rfl rfl rfl)))) rfl (.inr rfl)) (gss_cons (gs_own (by decide) (gms_of sc.nd rfl (.inl rfl) (gm_lst (ga_cons (ge_tup (ga_cons ge_str (ga_cons (ge_sub hu1 (gh_var rfl (.inl rfl) rfl rfl) (ge_neg ge_int) (fun _ _ => rfl)) (ga_cons (ge_sub hu1 (gh_var rfl (.inl rfl) rfl rfl) (ge_neg ge_int) (fun _ _ => rfl)) ga_nil rfl) rfl) rfl)) ga_nil rfl)) rfl (.inr rfl))) (gss_cons (gs_for rfl (gi_r3 rfl T.n_range (ga_cons (ge_bin ok_sub (ge_b1 ok_len rfl T.n_len (by decide +kernel) (gh_var rfl (.inl rfl) rfl rfl) (by decide) rfl rfl) ge_int) (ga_cons ge_int (ga_cons (ge_neg ge_int) ga_nil rfl) rfl) rfl) rfl rfl) (gn_name sc.nd rfl (.inl rfl) (.inr rfl)) (gss_one (gs_mt PySem.F.slot_list_append PySem.F.type_list_append mt_append mt_app (gh_var rfl (.inl rfl) rfl rfl) (ga_cons (ge_tup (ga_cons ge_str (ga_cons (ge_sub hu1 (gh_var rfl (.inl rfl) rfl rfl) (ge_var rfl (.inl rfl) rfl rfl) (fun _ _ => rfl)) (ga_cons (ge_sub hu1 (gh_var rfl (.inl rfl) rfl rfl) (ge_bin ok_sub (ge_var rfl (.inl rfl) rfl rfl) ge_int) (fun _ _ => rfl)) ga_nil rfl) rfl) rfl)) ga_nil rfl) rfl rfl rfl rfl rfl rfl)) (fun _ => rfl)) (gss_one (gs_fz 3 (gs_ret (ge_t1 ok_tuple rfl T.n_tuple (by decide +kernel) (gh_of (ge_bin ok_add (ge_var rfl (.inl rfl) rfl rfl) (ge_fz (gm_lst (ga_cons (ge_tup (ga_cons ge_str (ga_cons (ge_sub hu1 (gh_var rfl (.inl rfl) rfl rfl) ge_int (fun _ _ => rfl)) (ga_cons (ge_sub hu1 (gh_var rfl (.inl rfl) rfl rfl) (ge_neg ge_int) (fun _ _ => rfl)) ga_nil rfl) rfl) rfl)) (ga_cons (ge_tup (ga_cons ge_str (ga_cons (ge_sub hu1 (gh_var rfl (.inl rfl) rfl rfl) (ge_call F__law_draw (hr.mono (by decide)) rfl T.g__law_draw (ga_cons (ge_var rfl (.inl rfl) rfl rfl) (ga_cons (ge_bin ok_sub (ge_b1 ok_len rfl T.n_len (by decide +kernel) (gh_var rfl (.inl rfl) rfl rfl) (by decide) rfl rfl) ge_int) ga_nil rfl) rfl) rfl rfl rfl) (fun _ _ => rfl)) ga_nil rfl) rfl)) ga_nil rfl) rfl))))) (by decide) rfl rfl)))))))

/-! ### _law_spec -/
theorem sc__law_spec : FnScope ["_law_pot_here", "_law_most_given", "_law_most_names", "_law_most_statements", "_law_names_here", "_law_given", "_law_block", "_law_turn", "_law_kind", "_law_name", "_law_one", "_law_other", "_law_at"] ["_law_pot_here", "_law_most_given", "_law_most_names", "_law_most_statements"] (defScope (top 48)) := ⟨rfl, rfl, rfl, by decide +kernel, rfl, by decide +kernel, by decide +kernel⟩
noncomputable def L0__law_spec : SX := (sSeq (sSet 8 (eCall d__law_draw (aC (eV 0) (aC (eC (.int 5)) aN))))
    (sSeq (sSet 9 (eIf (bAnd (bV (eCmp gtD (eH (hV 5) lenD) (eC (.int 0)))) (bV (eCmp eqD (eCall d__law_draw (aC (eV 0) (aC (eC (.int 2)) aN))) (eC (.int 0))))) (eCall d__law_any (aC (eV 0) (aC (eV 5) aN))) (eCall d__law_any (aC (eV 0) (aC (eV 4) aN)))))
    (sIf (bV (eCmp eqD (eV 8) (eC (.int 0)))) ((sMt (hV 6) (aC (eCall d__law_deed (aC (eV 0) (aC (eV 4) aN))) aN) appD)) ((sIf (bV (eCmp ltD (eV 8) (eC (.int 3)))) ((sMt (hV 6) (aC (eTup (aC (eC (.str "round")) (aC (eV 9) (aC (eH (hE (eFz (mLc (iR1 (aC (eCall d__law_draw (aC (eV 0) (aC (eC (.int 5)) aN))) aN)) (gN 12) bTrue (eCall d__law_deed (aC (eV 0) (aC (eV 4) aN))) [12]))) tupleD) aN)))) aN) appD)) ((sIf (bV (eCmp eqD (eV 8) (eC (.int 3)))) ((sMt (hV 6) (aC (eTup (aC (eC (.str "round")) (aC (eV 9) (aC (eCall d__law_wheel (aC (eV 0) (aC (eV 4) aN))) aN)))) aN) appD)) ((sSeq (sAsg (eSl (hE (eCall d__law_mixed (aC (eV 0) (aC (eV 4) aN)))) none (some (eC (.int 2)))) (fun d ρ S => ((gL [(gN 10), (gN 11)]) d ρ).map fun ρ' => (ρ', S)))
    (sMt (hV 6) (aC (eTup (aC (eC (.str "round")) (aC (eV 9) (aC (eTup (aC (eTup (aC (eC (.str "copy")) (aC (eV 10) (aC (eV 11) aN)))) (aC (eTup (aC (eC (.str "more")) (aC (eV 11) aN))) aN))) aN)))) aN) appD))))))))))
noncomputable def b__law_spec : SX := (sSeq (sSet 4 (eSl (hE (eCall d__law_mixed (aC (eV 0) (aC (eFz (mLst (aC (eC (.str "a")) (aC (eC (.str "b")) (aC (eC (.str "c")) (aC (eC (.str "d")) (aC (eC (.str "e")) (aC (eC (.str "x")) (aC (eC (.str "yy")) (aC (eC (.str "half")) aN)))))))))) aN)))) none (some (eBin addD (eC (.int 3)) (eCall d__law_draw (aC (eV 0) (aC (eBin subD (eV 2) (eC (.int 2))) aN)))))))
    (sSeq (sSet 5 (eH (hE (eSl (hV 4) none (some (eCall d__law_draw (aC (eV 0) (aC (eBin addD (eV 1) (eC (.int 1))) aN)))))) tupleD))
    (sSeq (sOwn 6 (mLst aN))
    (sSeq (sFor (iR1 (aC (eBin addD (eC (.int 1)) (eCall d__law_draw (aC (eV 0) (aC (eV 3) aN)))) aN)) (gN 7) L0__law_spec)
    (sRet (eTup (aC (eV 5) (aC (eH (hE (eSl (hE (eCall d__law_mixed (aC (eV 0) (aC (eV 4) aN)))) none (some (eBin addD (eC (.int 1)) (eCall d__law_draw (aC (eV 0) (aC (eC (.int 3)) aN))))))) tupleD) (aC (eH (hV 6) tupleD) aN)))))))))
noncomputable def d__law_spec : Den := runD 4 9 b__law_spec
theorem p__law_spec (T : Tx K mg A) (F__law_any : FnD P w K mg base clW 2 2 A.f__law_any d__law_any) (F__law_deed : FnD P w K mg base clW 3 2 A.f__law_deed d__law_deed) (F__law_draw : FnD P w K mg base clW 1 2 A.f__law_draw d__law_draw) (F__law_mixed : FnD P w K mg base clW 2 2 A.f__law_mixed d__law_mixed) (F__law_wheel : FnD P w K mg base clW 3 2 A.f__law_wheel d__law_wheel) {f : Addr} : ∀ (cdv : Value) (A : Around) (outer : List Env) (s : Shared) (H : Hp) (E : XK), Room 3 (A.deeper (envOfC "_law_spec" (defScope (top 48)) s.heap.objs.size f cdv)) →
    GSs clW (cxOf (L2.CX P w) P w K mg base ["_law_pot_here", "_law_most_given", "_law_most_names", "_law_most_statements", "_law_names_here", "_law_given", "_law_block", "_law_turn", "_law_kind", "_law_name", "_law_one", "_law_other", "_law_at"] "_law_spec" (defScope (top 48)) f cdv A outer s H E) (defBody (top 48)) b__law_spec := fun cdv A outer s H E hr => by
  have sc := sc__law_spec
  have hu := hr.units
  have hu1 := hu_of hr
  have TC := T.tc
  have TE := T.te
  exact (gss_cons (gs_set sc.nd rfl (.inr rfl) (ge_slice (gh_of (ge_call F__law_mixed (hr.mono (by decide)) rfl T.g__law_mixed (ga_cons (ge_var rfl (.inr (.inl rfl)) rfl rfl) (ga_cons (ge_fz (gm_lst (ga_cons ge_str (ga_cons ge_str (ga_cons ge_str (ga_cons ge_str (ga_cons ge_str (ga_cons ge_str (ga_cons ge_str (ga_cons ge_str ga_nil rfl) rfl) rfl) rfl) rfl) rfl) rfl) rfl))) ga_nil rfl) rfl) rfl rfl rfl)) go_none (go_some (ge_bin ok_add ge_int (ge_call F__law_draw (hr.mono (by decide)) rfl T.g__law_draw (ga_cons (ge_var rfl (.inr (.inl rfl)) rfl rfl) (ga_cons (ge_bin ok_sub (ge_var rfl (.inl rfl) rfl rfl) ge_int) ga_nil rfl) rfl) rfl rfl rfl)))) rfl (.inl rfl)) (gss_cons (gs_set sc.nd rfl (.inl rfl) (ge_t1 ok_tuple rfl T.n_tuple (by decide +kernel) (gh_of (ge_slice (gh_var rfl (.inr (.inl rfl)) rfl rfl) go_none (go_some (ge_call F__law_draw (hr.mono (by decide)) rfl T.g__law_draw (ga_cons (ge_var rfl (.inr (.inl rfl)) rfl rfl) (ga_cons (ge_bin ok_add (ge_var rfl (.inl rfl) rfl rfl) ge_int) ga_nil rfl) rfl) rfl rfl rfl)))) (by decide) rfl rfl) rfl (.inr rfl)) (gss_cons (gs_own (by decide) (gms_of sc.nd rfl (.inl rfl) (gm_lst ga_nil) rfl (.inr rfl))) (gss_cons (gs_for rfl (gi_r1 rfl T.n_range (ga_cons (ge_bin ok_add ge_int (ge_call F__law_draw (hr.mono (by decide)) rfl T.g__law_draw (ga_cons (ge_var rfl (.inr (.inl rfl)) rfl rfl) (ga_cons (ge_var rfl (.inl rfl) rfl rfl) ga_nil rfl) rfl) rfl rfl rfl)) ga_nil rfl) rfl) (gn_name sc.nd rfl (.inl rfl) (.inr rfl)) (gss_cons (gs_set sc.nd rfl (.inl rfl) (ge_call F__law_draw (hr.mono (by decide)) rfl T.g__law_draw (ga_cons (ge_var rfl (.inr (.inl rfl)) rfl rfl) (ga_cons ge_int ga_nil rfl) rfl) rfl rfl rfl) rfl (.inr rfl)) (gss_cons (gs_set sc.nd rfl (.inl rfl) (ge_if (gw_pt (gw_and (gt_cmp ok_gt (ge_b1 ok_len rfl T.n_len (by decide +kernel) (gh_var rfl (.inl rfl) rfl rfl) (by decide) rfl rfl) ge_int rfl) (gw_and1 (gt_cmp (ok_eq hu) (ge_call F__law_draw (hr.mono (by decide)) rfl T.g__law_draw (ga_cons (ge_var rfl (.inr (.inl rfl)) rfl rfl) (ga_cons ge_int ga_nil rfl) rfl) rfl rfl rfl) ge_int rfl)))) (ge_call F__law_any (hr.mono (by decide)) rfl T.g__law_any (ga_cons (ge_var rfl (.inr (.inl rfl)) rfl rfl) (ga_cons (ge_var rfl (.inl rfl) rfl rfl) ga_nil rfl) rfl) rfl rfl rfl) (ge_call F__law_any (hr.mono (by decide)) rfl T.g__law_any (ga_cons (ge_var rfl (.inr (.inl rfl)) rfl rfl) (ga_cons (ge_var rfl (.inr (.inl rfl)) rfl rfl) ga_nil rfl) rfl) rfl rfl rfl)) rfl (.inr rfl)) (gss_one (gs_if (gt_cmp (ok_eq hu) (ge_var rfl (.inl rfl) rfl rfl) ge_int rfl) (gss_one (gs_mt PySem.F.slot_list_append PySem.F.type_list_append mt_append mt_app (gh_var rfl (.inl rfl) rfl rfl) (ga_cons (ge_call F__law_deed (hr.mono (by decide)) rfl T.g__law_deed (ga_cons (ge_var rfl (.inr (.inl rfl)) rfl rfl) (ga_cons (ge_var rfl (.inr (.inl rfl)) rfl rfl) ga_nil rfl) rfl) rfl rfl rfl) ga_nil rfl) rfl rfl rfl rfl rfl rfl)) (gss_one (gs_if (gt_cmp ok_lt (ge_var rfl (.inl rfl) rfl rfl) ge_int rfl) (gss_one (gs_mt PySem.F.slot_list_append PySem.F.type_list_append mt_append mt_app (gh_var rfl (.inl rfl) rfl rfl) (ga_cons (ge_tup (ga_cons ge_str (ga_cons (ge_var rfl (.inl rfl) rfl rfl) (ga_cons (ge_t1 ok_tuple rfl T.n_tuple (by decide +kernel) (gh_of (ge_fz (gm_lc (own := [("_law_at", 12)]) rfl sc.nd (gi_r1 rfl T.n_range (ga_cons (ge_call F__law_draw (hr.mono (by decide)) rfl T.g__law_draw (ga_cons (ge_var rfl (.inr (.inl rfl)) rfl rfl) (ga_cons ge_int ga_nil rfl) rfl) rfl rfl rfl) ga_nil rfl) rfl) (blkOk_by (by kernel_rfl)) (by decide) (fun _ _ _ _ _ => (gn_name sc.nd rfl (.inl rfl) (.inr rfl))) (fun _ _ _ _ _ => gts_nil) (fun _ _ _ _ _ => (ge_call F__law_deed (hr.mono (by decide)) rfl T.g__law_deed (ga_cons (ge_var rfl (.inr (.inl rfl)) rfl rfl) (ga_cons (ge_var rfl (.inr (.inl rfl)) rfl rfl) ga_nil rfl) rfl) rfl rfl rfl)) (fun _ => rfl)))) (by decide) rfl rfl) ga_nil rfl) rfl) rfl)) ga_nil rfl) rfl rfl rfl rfl rfl rfl)) (gss_one (gs_if (gt_cmp (ok_eq hu) (ge_var rfl (.inl rfl) rfl rfl) ge_int rfl) (gss_one (gs_mt PySem.F.slot_list_append PySem.F.type_list_append mt_append mt_app (gh_var rfl (.inl rfl) rfl rfl) (ga_cons (ge_tup (ga_cons ge_str (ga_cons (ge_var rfl (.inl rfl) rfl rfl) (ga_cons (ge_call F__law_wheel (hr.mono (by decide)) rfl T.g__law_wheel (ga_cons (ge_var rfl (.inr (.inl rfl)) rfl rfl) (ga_cons (ge_var rfl (.inr (.inl rfl)) rfl rfl) ga_nil rfl) rfl) rfl rfl rfl) ga_nil rfl) rfl) rfl)) ga_nil rfl) rfl rfl rfl rfl rfl rfl)) (gss_cons (gs_asg (ge_slice (gh_of (ge_call F__law_mixed (hr.mono (by decide)) rfl T.g__law_mixed (ga_cons (ge_var rfl (.inr (.inl rfl)) rfl rfl) (ga_cons (ge_var rfl (.inr (.inl rfl)) rfl rfl) ga_nil rfl) rfl) rfl rfl rfl)) go_none (go_some ge_int)) (gtg_n (gn_lst rfl (gns_cons (gn_name sc.nd rfl (.inl rfl) (.inr rfl)) (gns_cons (gn_name sc.nd rfl (.inl rfl) (.inr rfl)) gns_nil rfl) rfl) rfl rfl)) rfl rfl rfl) (gss_one (gs_mt PySem.F.slot_list_append PySem.F.type_list_append mt_append mt_app (gh_var rfl (.inl rfl) rfl rfl) (ga_cons (ge_tup (ga_cons ge_str (ga_cons (ge_var rfl (.inl rfl) rfl rfl) (ga_cons (ge_tup (ga_cons (ge_tup (ga_cons ge_str (ga_cons (ge_var rfl (.inl rfl) rfl rfl) (ga_cons (ge_var rfl (.inl rfl) rfl rfl) ga_nil rfl) rfl) rfl)) (ga_cons (ge_tup (ga_cons ge_str (ga_cons (ge_var rfl (.inl rfl) rfl rfl) ga_nil rfl) rfl)) ga_nil rfl) rfl)) ga_nil rfl) rfl) rfl)) ga_nil rfl) rfl rfl rfl rfl rfl rfl))))))))))) (fun _ => rfl)) (gss_one (gs_ret (ge_tup (ga_cons (ge_var rfl (.inl rfl) rfl rfl) (ga_cons (ge_t1 ok_tuple rfl T.n_tuple (by decide +kernel) (gh_of (ge_slice (gh_of (ge_call F__law_mixed (hr.mono (by decide)) rfl T.g__law_mixed (ga_cons (ge_var rfl (.inr (.inl rfl)) rfl rfl) (ga_cons (ge_var rfl (.inr (.inl rfl)) rfl rfl) ga_nil rfl) rfl) rfl rfl rfl)) go_none (go_some (ge_bin ok_add ge_int (ge_call F__law_draw (hr.mono (by decide)) rfl T.g__law_draw (ga_cons (ge_var rfl (.inr (.inl rfl)) rfl rfl) (ga_cons ge_int ga_nil rfl) rfl) rfl rfl rfl))))) (by decide) rfl rfl) (ga_cons (ge_t1 ok_tuple rfl T.n_tuple (by decide +kernel) (gh_var rfl (.inl rfl) rfl rfl) (by decide) rfl rfl) ga_nil rfl) rfl) rfl))))))))

/-! ### _law_names -/
theorem sc__law_names : FnScope ["_law_spec_here", "_law_found", "_law_statement", "_law_deed_here"] ["_law_spec_here"] (defScope (top 49)) := ⟨rfl, rfl, rfl, by decide +kernel, rfl, by decide +kernel, by decide +kernel⟩
noncomputable def L0__law_names : SX := (sMt (hV 1) (aC (eSl (hV 3) (some (eC (.int 1))) none) aN) extTD)
noncomputable def L1__law_names : SX := (sIf (bV (eCmp eqD (eHB (hV 2) (eC (.int 0)) idxD) (eC (.str "round")))) ((sSeq (sMt (hV 1) (aC (eHB (hV 2) (eC (.int 1)) idxD) aN) appD)
    (sFor (iS (eHB (hV 2) (eC (.int 2)) idxD)) (gN 3) L0__law_names))) ((sMt (hV 1) (aC (eSl (hV 2) (some (eC (.int 1))) none) aN) extTD)))
noncomputable def b__law_names : SX := (sSeq (sOwn 1 (mList (hE (eBin addD (eHB (hV 0) (eC (.int 0)) idxD) (eHB (hV 0) (eC (.int 1)) idxD)))))
    (sSeq (sFor (iS (eHB (hV 0) (eC (.int 2)) idxD)) (gN 2) L1__law_names)
    (sFz 1 (sRet (eH (hE (eFz (mSrtTx (hV 1)))) tupleD)))))
noncomputable def d__law_names : Den := runD 1 3 b__law_names
theorem p__law_names (T : Tx K mg A)  {f : Addr} : ∀ (cdv : Value) (A : Around) (outer : List Env) (s : Shared) (H : Hp) (E : XK), Room 0 (A.deeper (envOfC "_law_names" (defScope (top 49)) s.heap.objs.size f cdv)) →
    GSs clW (cxOf (L2.CX P w) P w K mg base ["_law_spec_here", "_law_found", "_law_statement", "_law_deed_here"] "_law_names" (defScope (top 49)) f cdv A outer s H E) (defBody (top 49)) b__law_names := fun cdv A outer s H E hr => by
  have sc := sc__law_names
  have hu := hr.units
  have hu1 := hu_of hr
  have TC := T.tc
  have TE := T.te
  exact (gss_cons (gs_own (by decide) (gms_of sc.nd rfl (.inl rfl) (gm_list rfl T.n_list (gh_of (ge_bin ok_add (ge_sub hu1 (gh_var rfl (.inl rfl) rfl rfl) ge_int (fun _ _ => rfl)) (ge_sub hu1 (gh_var rfl (.inl rfl) rfl rfl) ge_int (fun _ _ => rfl)))) rfl) rfl (.inr rfl))) (gss_cons (gs_for rfl (gi_any (ge_sub hu1 (gh_var rfl (.inl rfl) rfl rfl) ge_int (fun _ _ => rfl))) (gn_name sc.nd rfl (.inl rfl) (.inr rfl)) (gss_one (gs_if (gt_cmp (ok_eq hu) (ge_sub hu1 (gh_var rfl (.inl rfl) rfl rfl) ge_int (fun _ _ => rfl)) ge_str rfl) (gss_cons (gs_mt PySem.F.slot_list_append PySem.F.type_list_append mt_append mt_app (gh_var rfl (.inl rfl) rfl rfl) (ga_cons (ge_sub hu1 (gh_var rfl (.inl rfl) rfl rfl) ge_int (fun _ _ => rfl)) ga_nil rfl) rfl rfl rfl rfl rfl rfl) (gss_one (gs_for rfl (gi_any (ge_sub hu1 (gh_var rfl (.inl rfl) rfl rfl) ge_int (fun _ _ => rfl))) (gn_name sc.nd rfl (.inl rfl) (.inr rfl)) (gss_one (gs_mt PySem.F.slot_list_extend PySem.F.type_list_extend mt_extendT mt_extT (gh_var rfl (.inl rfl) rfl rfl) (ga_cons (ge_slice (gh_var rfl (.inl rfl) rfl rfl) (go_some ge_int) go_none) ga_nil rfl) rfl rfl rfl rfl rfl rfl)) (fun _ => rfl)))) (gss_one (gs_mt PySem.F.slot_list_extend PySem.F.type_list_extend mt_extendT mt_extT (gh_var rfl (.inl rfl) rfl rfl) (ga_cons (ge_slice (gh_var rfl (.inl rfl) rfl rfl) (go_some ge_int) go_none) ga_nil rfl) rfl rfl rfl rfl rfl rfl)))) (fun _ => rfl)) (gss_one (gs_fz 1 (gs_ret (ge_t1 ok_tuple rfl T.n_tuple (by decide +kernel) (gh_of (ge_fz (gm_srtTx rfl rfl T.n_sorted rfl T.n_set (gh_var rfl (.inl rfl) rfl rfl) rfl))) (by decide) rfl rfl))))))

/-! ### _law_do -/
theorem sc__law_do : FnScope ["_law_numbers", "_law_deed_here"] ["_law_numbers", "_law_deed_here"] (defScope (top 50)) := ⟨rfl, rfl, rfl, by decide +kernel, rfl, by decide +kernel, by decide +kernel⟩
noncomputable def b__law_do : SX := (sIf (bV (eCmp eqD (eHB (hV 1) (eC (.int 0)) idxD) (eC (.str "zero")))) ((sAsg (eC (.int 0)) (tIK (hV 0) (eHB (hV 1) (eC (.int 1)) idxD)))) ((sIf (bV (eCmp eqD (eHB (hV 1) (eC (.int 0)) idxD) (eC (.str "copy")))) ((sAsg (eHB (hV 0) (eHB (hV 1) (eC (.int 2)) idxD) idxD) (tIK (hV 0) (eHB (hV 1) (eC (.int 1)) idxD)))) ((sAsg (eBin addD (eHB (hV 0) (eHB (hV 1) (eC (.int 1)) idxD) idxD) (eC (.int 1))) (tIK (hV 0) (eHB (hV 1) (eC (.int 1)) idxD)))))))
noncomputable def d__law_do : Den := runD 2 0 b__law_do
theorem p__law_do (T : Tx K mg A)  {f : Addr} : ∀ (cdv : Value) (A : Around) (outer : List Env) (s : Shared) (H : Hp) (E : XK), Room 0 (A.deeper (envOfC "_law_do" (defScope (top 50)) s.heap.objs.size f cdv)) →
    GSs clW (cxOf (L2.CX P w) P w K mg base ["_law_numbers", "_law_deed_here"] "_law_do" (defScope (top 50)) f cdv A outer s H E) (defBody (top 50)) b__law_do := fun cdv A outer s H E hr => by
  have sc := sc__law_do
  have hu := hr.units
  have hu1 := hu_of hr
  have TC := T.tc
  have TE := T.te
  exact (gss_one (gs_if (gt_cmp (ok_eq hu) (ge_sub hu1 (gh_var rfl (.inl rfl) rfl rfl) ge_int (fun _ _ => rfl)) ge_str rfl) (gss_one (gs_asg ge_int (gtg_ik hu1 (gh_var rfl (.inl rfl) rfl rfl) (ge_sub hu1 (gh_var rfl (.inl rfl) rfl rfl) ge_int (fun _ _ => rfl)) (fun _ => rfl)) rfl rfl rfl)) (gss_one (gs_if (gt_cmp (ok_eq hu) (ge_sub hu1 (gh_var rfl (.inl rfl) rfl rfl) ge_int (fun _ _ => rfl)) ge_str rfl) (gss_one (gs_asg (ge_sub hu1 (gh_var rfl (.inl rfl) rfl rfl) (ge_sub hu1 (gh_var rfl (.inl rfl) rfl rfl) ge_int (fun _ _ => rfl)) (fun _ _ => rfl)) (gtg_ik hu1 (gh_var rfl (.inl rfl) rfl rfl) (ge_sub hu1 (gh_var rfl (.inl rfl) rfl rfl) ge_int (fun _ _ => rfl)) (fun _ => rfl)) rfl rfl rfl)) (gss_one (gs_asg (ge_bin ok_add (ge_sub hu1 (gh_var rfl (.inl rfl) rfl rfl) (ge_sub hu1 (gh_var rfl (.inl rfl) rfl rfl) ge_int (fun _ _ => rfl)) (fun _ _ => rfl)) ge_int) (gtg_ik hu1 (gh_var rfl (.inl rfl) rfl rfl) (ge_sub hu1 (gh_var rfl (.inl rfl) rfl rfl) ge_int (fun _ _ => rfl)) (fun _ => rfl)) rfl rfl rfl))))))

/-! ### _law_first -/
theorem sc__law_first : FnScope ["_law_spec_here", "_law_given", "_law_numbers", "_law_name", "_law_number"] ["_law_spec_here", "_law_given"] (defScope (top 51)) := ⟨rfl, rfl, rfl, by decide +kernel, rfl, by decide +kernel, by decide +kernel⟩
noncomputable def L0__law_first : SX := (sAsg (eC (.int 0)) (tIK (hV 2) (eV 3)))
noncomputable def L1__law_first : SX := (sAsg (eV 4) (tIK (hV 2) (eV 3)))
noncomputable def b__law_first : SX := (sSeq (sSet 2 (eAl mDic0))
    (sSeq (sFor (iS (eCall d__law_names (aC (eV 0) aN))) (gN 3) L0__law_first)
    (sSeq (sFor (iZ (eHB (hV 0) (eC (.int 0)) idxD) (eV 1)) (gT [(gN 3), (gN 4)]) L1__law_first)
    (sRet (eV 2)))))
noncomputable def d__law_first : Den := runD 2 3 b__law_first
theorem p__law_first (T : Tx K mg A) (F__law_names : FnD P w K mg base clW 1 1 A.f__law_names d__law_names) {f : Addr} : ∀ (cdv : Value) (A : Around) (outer : List Env) (s : Shared) (H : Hp) (E : XK), Room 1 (A.deeper (envOfC "_law_first" (defScope (top 51)) s.heap.objs.size f cdv)) →
    GSs clW (cxOf (L2.CX P w) P w K mg base ["_law_spec_here", "_law_given", "_law_numbers", "_law_name", "_law_number"] "_law_first" (defScope (top 51)) f cdv A outer s H E) (defBody (top 51)) b__law_first := fun cdv A outer s H E hr => by
  have sc := sc__law_first
  have hu := hr.units
  have hu1 := hu_of hr
  have TC := T.tc
  have TE := T.te
  exact (gss_cons (gs_set sc.nd rfl (.inl rfl) (ge_al gm_dic0) rfl (.inr rfl)) (gss_cons (gs_for rfl (gi_any (ge_call F__law_names (hr.mono (by decide)) rfl T.g__law_names (ga_cons (ge_var rfl (.inl rfl) rfl rfl) ga_nil rfl) rfl rfl rfl)) (gn_name sc.nd rfl (.inl rfl) (.inr rfl)) (gss_one (gs_asg ge_int (gtg_ik hu1 (gh_var rfl (.inl rfl) rfl rfl) (ge_var rfl (.inl rfl) rfl rfl) (fun _ => rfl)) rfl rfl rfl)) (fun _ => rfl)) (gss_cons (gs_for rfl (gi_zip rfl T.n_zip (ge_sub hu1 (gh_var rfl (.inl rfl) rfl rfl) ge_int (fun _ _ => rfl)) (ge_var rfl (.inl rfl) rfl rfl) rfl rfl rfl) (gn_tup rfl (gns_cons (gn_name sc.nd rfl (.inl rfl) (.inr rfl)) (gns_cons (gn_name sc.nd rfl (.inl rfl) (.inr rfl)) gns_nil rfl) rfl) rfl rfl) (gss_one (gs_asg (ge_var rfl (.inl rfl) rfl rfl) (gtg_ik hu1 (gh_var rfl (.inl rfl) rfl rfl) (ge_var rfl (.inl rfl) rfl rfl) (fun _ => rfl)) rfl rfl rfl)) (fun _ => rfl)) (gss_one (gs_ret (ge_var rfl (.inl rfl) rfl rfl))))))

/-! ### _law_end -/
theorem sc__law_end : FnScope ["_law_spec_here", "_law_given", "_law_numbers", "_law_statement", "_law_turn", "_law_deed_here"] ["_law_spec_here", "_law_given"] (defScope (top 52)) := ⟨rfl, rfl, rfl, by decide +kernel, rfl, by decide +kernel, by decide +kernel⟩
noncomputable def L0__law_end : SX := (sExpr (eCall d__law_do (aC (eV 2) (aC (eV 5) aN))))
noncomputable def L1__law_end : SX := (sFor (iS (eHB (hV 3) (eC (.int 2)) idxD)) (gN 5) L0__law_end)
noncomputable def L2__law_end : SX := (sIf (bV (eCmp eqD (eHB (hV 3) (eC (.int 0)) idxD) (eC (.str "round")))) ((sFor (iR1 (aC (eHB (hV 2) (eHB (hV 3) (eC (.int 1)) idxD) idxD) aN)) (gN 4) L1__law_end)) ((sExpr (eCall d__law_do (aC (eV 2) (aC (eV 3) aN))))))
noncomputable def b__law_end : SX := (sSeq (sSet 2 (eCall d__law_first (aC (eV 0) (aC (eV 1) aN))))
    (sSeq (sFor (iS (eHB (hV 0) (eC (.int 2)) idxD)) (gN 3) L2__law_end)
    (sRet (eV 2))))
noncomputable def d__law_end : Den := runD 2 4 b__law_end
theorem p__law_end (T : Tx K mg A) (F__law_do : FnD P w K mg base clW 1 2 A.f__law_do d__law_do) (F__law_first : FnD P w K mg base clW 2 2 A.f__law_first d__law_first) {f : Addr} : ∀ (cdv : Value) (A : Around) (outer : List Env) (s : Shared) (H : Hp) (E : XK), Room 2 (A.deeper (envOfC "_law_end" (defScope (top 52)) s.heap.objs.size f cdv)) →
    GSs clW (cxOf (L2.CX P w) P w K mg base ["_law_spec_here", "_law_given", "_law_numbers", "_law_statement", "_law_turn", "_law_deed_here"] "_law_end" (defScope (top 52)) f cdv A outer s H E) (defBody (top 52)) b__law_end := fun cdv A outer s H E hr => by
  have sc := sc__law_end
  have hu := hr.units
  have hu1 := hu_of hr
  have TC := T.tc
  have TE := T.te
  exact (gss_cons (gs_set sc.nd rfl (.inl rfl) (ge_call F__law_first (hr.mono (by decide)) rfl T.g__law_first (ga_cons (ge_var rfl (.inl rfl) rfl rfl) (ga_cons (ge_var rfl (.inl rfl) rfl rfl) ga_nil rfl) rfl) rfl rfl rfl) rfl (.inr rfl)) (gss_cons (gs_for rfl (gi_any (ge_sub hu1 (gh_var rfl (.inl rfl) rfl rfl) ge_int (fun _ _ => rfl))) (gn_name sc.nd rfl (.inl rfl) (.inr rfl)) (gss_one (gs_if (gt_cmp (ok_eq hu) (ge_sub hu1 (gh_var rfl (.inl rfl) rfl rfl) ge_int (fun _ _ => rfl)) ge_str rfl) (gss_one (gs_for rfl (gi_r1 rfl T.n_range (ga_cons (ge_sub hu1 (gh_var rfl (.inl rfl) rfl rfl) (ge_sub hu1 (gh_var rfl (.inl rfl) rfl rfl) ge_int (fun _ _ => rfl)) (fun _ _ => rfl)) ga_nil rfl) rfl) (gn_name sc.nd rfl (.inl rfl) (.inr rfl)) (gss_one (gs_for rfl (gi_any (ge_sub hu1 (gh_var rfl (.inl rfl) rfl rfl) ge_int (fun _ _ => rfl))) (gn_name sc.nd rfl (.inl rfl) (.inr rfl)) (gss_one (gs_expr (ge_call F__law_do (hr.mono (by decide)) rfl T.g__law_do (ga_cons (ge_var rfl (.inl rfl) rfl rfl) (ga_cons (ge_var rfl (.inl rfl) rfl rfl) ga_nil rfl) rfl) rfl rfl rfl) rfl)) (fun _ => rfl))) (fun _ => rfl))) (gss_one (gs_expr (ge_call F__law_do (hr.mono (by decide)) rfl T.g__law_do (ga_cons (ge_var rfl (.inl rfl) rfl rfl) (ga_cons (ge_var rfl (.inl rfl) rfl rfl) ga_nil rfl) rfl) rfl rfl rfl) rfl)))) (fun _ => rfl)) (gss_one (gs_ret (ge_var rfl (.inl rfl) rfl rfl)))))

/-! ### _law_told -/
theorem sc__law_told : FnScope ["_law_spec_here", "_law_given", "_law_numbers", "_law_name"] ["_law_spec_here", "_law_given"] (defScope (top 53)) := ⟨rfl, rfl, rfl, by decide +kernel, rfl, by decide +kernel, by decide +kernel⟩
noncomputable def b__law_told : SX := (sSeq (sSet 2 (eCall d__law_end (aC (eV 0) (aC (eV 1) aN))))
    (sRet (eH (hE (eFz (mLc (iS (eHB (hV 0) (eC (.int 1)) idxD)) (gN 3) bTrue (eHB (hV 2) (eV 3) idxD) [3]))) tupleD)))
noncomputable def d__law_told : Den := runD 2 2 b__law_told
theorem p__law_told (T : Tx K mg A) (F__law_end : FnD P w K mg base clW 3 2 A.f__law_end d__law_end) {f : Addr} : ∀ (cdv : Value) (A : Around) (outer : List Env) (s : Shared) (H : Hp) (E : XK), Room 3 (A.deeper (envOfC "_law_told" (defScope (top 53)) s.heap.objs.size f cdv)) →
    GSs clW (cxOf (L2.CX P w) P w K mg base ["_law_spec_here", "_law_given", "_law_numbers", "_law_name"] "_law_told" (defScope (top 53)) f cdv A outer s H E) (defBody (top 53)) b__law_told := fun cdv A outer s H E hr => by
  have sc := sc__law_told
  have hu := hr.units
  have hu1 := hu_of hr
  have TC := T.tc
  have TE := T.te
  exact (gss_cons (gs_set sc.nd rfl (.inr rfl) (ge_call F__law_end (hr.mono (by decide)) rfl T.g__law_end (ga_cons (ge_var rfl (.inl rfl) rfl rfl) (ga_cons (ge_var rfl (.inl rfl) rfl rfl) ga_nil rfl) rfl) rfl rfl rfl) rfl (.inl rfl)) (gss_one (gs_ret (ge_t1 ok_tuple rfl T.n_tuple (by decide +kernel) (gh_of (ge_fz (gm_lc (own := [("_law_name", 3)]) rfl sc.nd (gi_any (ge_sub hu1 (gh_var rfl (.inl rfl) rfl rfl) ge_int (fun _ _ => rfl))) (blkOk_by (by kernel_rfl)) (by decide) (fun _ _ _ _ _ => (gn_name sc.nd rfl (.inl rfl) (.inr rfl))) (fun _ _ _ _ _ => gts_nil) (fun _ _ _ _ _ => (ge_sub hu1 (gh_var rfl (.inr (.inl rfl)) rfl rfl) (ge_var rfl (.inl rfl) rfl rfl) (fun _ _ => rfl))) (fun _ => rfl)))) (by decide) rfl rfl))))

/-! ### _law_input -/
theorem sc__law_input : FnScope ["_law_pot_here", "_law_many_here", "_law_most", "_law_k"] ["_law_pot_here", "_law_many_here", "_law_most"] (defScope (top 54)) := ⟨rfl, rfl, rfl, by decide +kernel, rfl, by decide +kernel, by decide +kernel⟩
noncomputable def b__law_input : SX := (sRet (eH (hE (eFz (mLc (iR1 (aC (eV 1) aN)) (gN 3) bTrue (eCall d__law_draw (aC (eV 0) (aC (eBin addD (eV 2) (eC (.int 1))) aN))) [3]))) tupleD))
noncomputable def d__law_input : Den := runD 3 1 b__law_input
theorem p__law_input (T : Tx K mg A) (F__law_draw : FnD P w K mg base clW 1 2 A.f__law_draw d__law_draw) {f : Addr} : ∀ (cdv : Value) (A : Around) (outer : List Env) (s : Shared) (H : Hp) (E : XK), Room 1 (A.deeper (envOfC "_law_input" (defScope (top 54)) s.heap.objs.size f cdv)) →
    GSs clW (cxOf (L2.CX P w) P w K mg base ["_law_pot_here", "_law_many_here", "_law_most", "_law_k"] "_law_input" (defScope (top 54)) f cdv A outer s H E) (defBody (top 54)) b__law_input := fun cdv A outer s H E hr => by
  have sc := sc__law_input
  have hu := hr.units
  have hu1 := hu_of hr
  have TC := T.tc
  have TE := T.te
  exact (gss_one (gs_ret (ge_t1 ok_tuple rfl T.n_tuple (by decide +kernel) (gh_of (ge_fz (gm_lc (own := [("_law_k", 3)]) rfl sc.nd (gi_r1 rfl T.n_range (ga_cons (ge_var rfl (.inl rfl) rfl rfl) ga_nil rfl) rfl) (blkOk_by (by kernel_rfl)) (by decide) (fun _ _ _ _ _ => (gn_name sc.nd rfl (.inl rfl) (.inr rfl))) (fun _ _ _ _ _ => gts_nil) (fun _ _ _ _ _ => (ge_call F__law_draw (hr.mono (by decide)) rfl T.g__law_draw (ga_cons (ge_var rfl (.inr (.inl rfl)) rfl rfl) (ga_cons (ge_bin ok_add (ge_var rfl (.inr (.inl rfl)) rfl rfl) ge_int) ga_nil rfl) rfl) rfl rfl rfl)) (fun _ => rfl)))) (by decide) rfl rfl)))

/-! ### _law_deep -/
theorem sc__law_deep : FnScope ["#0", "_law_thing", "_law_turn"] [] (defScope (top 55)) := ⟨rfl, rfl, rfl, by decide +kernel, rfl, by decide +kernel, by decide +kernel⟩
noncomputable def L0__law_deep : SX := (sSet 1 (eTup (aC (eV 1) aN)))
noncomputable def b__law_deep : SX := (sSeq (sSet 1 (eTup aN))
    (sSeq (sFor (iR1 (aC (eC (.int 36)) aN)) (gN 2) L0__law_deep)
    (sRet (eV 1))))
noncomputable def d__law_deep : Den := runD 0 3 b__law_deep
theorem p__law_deep (T : Tx K mg A)  {f : Addr} : ∀ (cdv : Value) (A : Around) (outer : List Env) (s : Shared) (H : Hp) (E : XK), Room 0 (A.deeper (envOfC "_law_deep" (defScope (top 55)) s.heap.objs.size f cdv)) →
    GSs clW (cxOf (L2.CX P w) P w K mg base ["#0", "_law_thing", "_law_turn"] "_law_deep" (defScope (top 55)) f cdv A outer s H E) (defBody (top 55)) b__law_deep := fun cdv A outer s H E hr => by
  have sc := sc__law_deep
  have hu := hr.units
  have hu1 := hu_of hr
  have TC := T.tc
  have TE := T.te
  exact (gss_cons (gs_set sc.nd rfl (.inl rfl) (ge_tup ga_nil) rfl (.inr rfl)) (gss_cons (gs_for rfl (gi_r1 rfl T.n_range (ga_cons ge_int ga_nil rfl) rfl) (gn_name sc.nd rfl (.inl rfl) (.inr rfl)) (gss_one (gs_set sc.nd rfl (.inl rfl) (ge_tup (ga_cons (ge_var rfl (.inl rfl) rfl rfl) ga_nil rfl)) rfl (.inr rfl))) (fun _ => rfl)) (gss_one (gs_ret (ge_var rfl (.inl rfl) rfl rfl)))))

/-! ### _law_clocked -/
theorem sc__law_clocked : FnScope ["_law_spec_here", "_law_name", "_law_tick", "_law_block", "_law_statement", "_law_inside", "_law_deed_here"] ["_law_spec_here", "_law_name"] (defScope (top 56)) := ⟨rfl, rfl, rfl, by decide +kernel, rfl, by decide +kernel, by decide +kernel⟩
noncomputable def L0__law_clocked : SX := (sMt (hV 5) (aC (eFz (mLst (aC (eV 2) (aC (eV 6) aN)))) aN) extD)
noncomputable def L1__law_clocked : SX := (sSeq (sMt (hV 3) (aC (eV 2) aN) appD)
    (sSeq (sIf (bV (eCmp eqD (eHB (hV 4) (eC (.int 0)) idxD) (eC (.str "round")))) ((sSeq (sOwn 5 (mLst aN))
    (sSeq (sFor (iS (eHB (hV 4) (eC (.int 2)) idxD)) (gN 6) L0__law_clocked)
    (sSet 4 (eTup (aC (eC (.str "round")) (aC (eHB (hV 4) (eC (.int 1)) idxD) (aC (eH (hV 5) tupleD) aN)))))))) (sNil))
    (sMt (hV 3) (aC (eV 4) aN) appD)))
noncomputable def b__law_clocked : SX := (sSeq (sSet 2 (eTup (aC (eC (.str "more")) (aC (eV 1) aN))))
    (sSeq (sOwn 3 (mLst aN))
    (sSeq (sFor (iS (eHB (hV 0) (eC (.int 2)) idxD)) (gN 4) L1__law_clocked)
    (sRet (eTup (aC (eHB (hV 0) (eC (.int 0)) idxD) (aC (eBin addD (eHB (hV 0) (eC (.int 1)) idxD) (eTup (aC (eV 1) aN))) (aC (eH (hV 3) tupleD) aN))))))))
noncomputable def d__law_clocked : Den := runD 2 5 b__law_clocked
theorem p__law_clocked (T : Tx K mg A)  {f : Addr} : ∀ (cdv : Value) (A : Around) (outer : List Env) (s : Shared) (H : Hp) (E : XK), Room 0 (A.deeper (envOfC "_law_clocked" (defScope (top 56)) s.heap.objs.size f cdv)) →
    GSs clW (cxOf (L2.CX P w) P w K mg base ["_law_spec_here", "_law_name", "_law_tick", "_law_block", "_law_statement", "_law_inside", "_law_deed_here"] "_law_clocked" (defScope (top 56)) f cdv A outer s H E) (defBody (top 56)) b__law_clocked := fun cdv A outer s H E hr => by
  have sc := sc__law_clocked
  have hu := hr.units
  have hu1 := hu_of hr
  have TC := T.tc
  have TE := T.te
  exact (gss_cons (gs_set sc.nd rfl (.inl rfl) (ge_tup (ga_cons ge_str (ga_cons (ge_var rfl (.inl rfl) rfl rfl) ga_nil rfl) rfl)) rfl (.inr rfl)) (gss_cons (gs_own (by decide) (gms_of sc.nd rfl (.inl rfl) (gm_lst ga_nil) rfl (.inr rfl))) (gss_cons (gs_for rfl (gi_any (ge_sub hu1 (gh_var rfl (.inl rfl) rfl rfl) ge_int (fun _ _ => rfl))) (gn_name sc.nd rfl (.inl rfl) (.inr rfl)) (gss_cons (gs_mt PySem.F.slot_list_append PySem.F.type_list_append mt_append mt_app (gh_var rfl (.inl rfl) rfl rfl) (ga_cons (ge_var rfl (.inl rfl) rfl rfl) ga_nil rfl) rfl rfl rfl rfl rfl rfl) (gss_cons (gs_if (gt_cmp (ok_eq hu) (ge_sub hu1 (gh_var rfl (.inl rfl) rfl rfl) ge_int (fun _ _ => rfl)) ge_str rfl) (gss_cons (gs_own (by decide) (gms_of sc.nd rfl (.inl rfl) (gm_lst ga_nil) rfl (.inr rfl))) (gss_cons (gs_for rfl (gi_any (ge_sub hu1 (gh_var rfl (.inl rfl) rfl rfl) ge_int (fun _ _ => rfl))) (gn_name sc.nd rfl (.inl rfl) (.inr rfl)) (gss_one (gs_mt PySem.F.slot_list_extend PySem.F.type_list_extend mt_extend mt_ext (gh_var rfl (.inl rfl) rfl rfl) (ga_cons (ge_fz (gm_lst (ga_cons (ge_var rfl (.inl rfl) rfl rfl) (ga_cons (ge_var rfl (.inl rfl) rfl rfl) ga_nil rfl) rfl))) ga_nil rfl) rfl rfl rfl rfl rfl rfl)) (fun _ => rfl)) (gss_one (gs_set sc.nd rfl (.inl rfl) (ge_tup (ga_cons ge_str (ga_cons (ge_sub hu1 (gh_var rfl (.inl rfl) rfl rfl) ge_int (fun _ _ => rfl)) (ga_cons (ge_t1 ok_tuple rfl T.n_tuple (by decide +kernel) (gh_var rfl (.inl rfl) rfl rfl) (by decide) rfl rfl) ga_nil rfl) rfl) rfl)) rfl (.inr rfl))))) gss_nil) (gss_one (gs_mt PySem.F.slot_list_append PySem.F.type_list_append mt_append mt_app (gh_var rfl (.inl rfl) rfl rfl) (ga_cons (ge_var rfl (.inl rfl) rfl rfl) ga_nil rfl) rfl rfl rfl rfl rfl rfl)))) (fun _ => rfl)) (gss_one (gs_ret (ge_tup (ga_cons (ge_sub hu1 (gh_var rfl (.inl rfl) rfl rfl) ge_int (fun _ _ => rfl)) (ga_cons (ge_bin ok_add (ge_sub hu1 (gh_var rfl (.inl rfl) rfl rfl) ge_int (fun _ _ => rfl)) (ge_tup (ga_cons (ge_var rfl (.inl rfl) rfl rfl) ga_nil rfl))) (ga_cons (ge_t1 ok_tuple rfl T.n_tuple (by decide +kernel) (gh_var rfl (.inl rfl) rfl rfl) (by decide) rfl rfl) ga_nil rfl) rfl) rfl)))))))

/-! ### _law_many -/
theorem sc__law_many : FnScope ["_law_spec_here", "_law_given", "_law_numbers", "_law_found", "_law_statement", "_law_turn", "_law_deed_here"] ["_law_spec_here", "_law_given"] (defScope (top 57)) := ⟨rfl, rfl, rfl, by decide +kernel, rfl, by decide +kernel, by decide +kernel⟩
noncomputable def L0__law_many : SX := (sExpr (eCall d__law_do (aC (eV 2) (aC (eV 6) aN))))
noncomputable def L1__law_many : SX := (sSeq (sSet 3 (eBin addD (eV 3) (eH (hE (eHB (hV 4) (eC (.int 2)) idxD)) lenD)))
    (sFor (iS (eHB (hV 4) (eC (.int 2)) idxD)) (gN 6) L0__law_many))
noncomputable def L2__law_many : SX := (sSeq (sSet 3 (eBin addD (eV 3) (eC (.int 1))))
    (sIf (bV (eCmp eqD (eHB (hV 4) (eC (.int 0)) idxD) (eC (.str "round")))) ((sFor (iR1 (aC (eHB (hV 2) (eHB (hV 4) (eC (.int 1)) idxD) idxD) aN)) (gN 5) L1__law_many)) ((sExpr (eCall d__law_do (aC (eV 2) (aC (eV 4) aN)))))))
noncomputable def b__law_many : SX := (sSeq (sSet 2 (eCall d__law_first (aC (eV 0) (aC (eV 1) aN))))
    (sSeq (sSet 3 (eC (.int 0)))
    (sSeq (sFor (iS (eHB (hV 0) (eC (.int 2)) idxD)) (gN 4) L2__law_many)
    (sRet (eV 3)))))
noncomputable def d__law_many : Den := runD 2 5 b__law_many
theorem p__law_many (T : Tx K mg A) (F__law_do : FnD P w K mg base clW 1 2 A.f__law_do d__law_do) (F__law_first : FnD P w K mg base clW 2 2 A.f__law_first d__law_first) {f : Addr} : ∀ (cdv : Value) (A : Around) (outer : List Env) (s : Shared) (H : Hp) (E : XK), Room 2 (A.deeper (envOfC "_law_many" (defScope (top 57)) s.heap.objs.size f cdv)) →
    GSs clW (cxOf (L2.CX P w) P w K mg base ["_law_spec_here", "_law_given", "_law_numbers", "_law_found", "_law_statement", "_law_turn", "_law_deed_here"] "_law_many" (defScope (top 57)) f cdv A outer s H E) (defBody (top 57)) b__law_many := fun cdv A outer s H E hr => by
  have sc := sc__law_many
  have hu := hr.units
  have hu1 := hu_of hr
  have TC := T.tc
  have TE := T.te
  exact (gss_cons (gs_set sc.nd rfl (.inl rfl) (ge_call F__law_first (hr.mono (by decide)) rfl T.g__law_first (ga_cons (ge_var rfl (.inl rfl) rfl rfl) (ga_cons (ge_var rfl (.inl rfl) rfl rfl) ga_nil rfl) rfl) rfl rfl rfl) rfl (.inr rfl)) (gss_cons (gs_set sc.nd rfl (.inl rfl) ge_int rfl (.inr rfl)) (gss_cons (gs_for rfl (gi_any (ge_sub hu1 (gh_var rfl (.inl rfl) rfl rfl) ge_int (fun _ _ => rfl))) (gn_name sc.nd rfl (.inl rfl) (.inr rfl)) (gss_cons (gs_set sc.nd rfl (.inl rfl) (ge_bin ok_add (ge_var rfl (.inl rfl) rfl rfl) ge_int) rfl (.inr rfl)) (gss_one (gs_if (gt_cmp (ok_eq hu) (ge_sub hu1 (gh_var rfl (.inl rfl) rfl rfl) ge_int (fun _ _ => rfl)) ge_str rfl) (gss_one (gs_for rfl (gi_r1 rfl T.n_range (ga_cons (ge_sub hu1 (gh_var rfl (.inl rfl) rfl rfl) (ge_sub hu1 (gh_var rfl (.inl rfl) rfl rfl) ge_int (fun _ _ => rfl)) (fun _ _ => rfl)) ga_nil rfl) rfl) (gn_name sc.nd rfl (.inl rfl) (.inr rfl)) (gss_cons (gs_set sc.nd rfl (.inl rfl) (ge_bin ok_add (ge_var rfl (.inl rfl) rfl rfl) (ge_b1 ok_len rfl T.n_len (by decide +kernel) (gh_of (ge_sub hu1 (gh_var rfl (.inl rfl) rfl rfl) ge_int (fun _ _ => rfl))) (by decide) rfl rfl)) rfl (.inr rfl)) (gss_one (gs_for rfl (gi_any (ge_sub hu1 (gh_var rfl (.inl rfl) rfl rfl) ge_int (fun _ _ => rfl))) (gn_name sc.nd rfl (.inl rfl) (.inr rfl)) (gss_one (gs_expr (ge_call F__law_do (hr.mono (by decide)) rfl T.g__law_do (ga_cons (ge_var rfl (.inl rfl) rfl rfl) (ga_cons (ge_var rfl (.inl rfl) rfl rfl) ga_nil rfl) rfl) rfl rfl rfl) rfl)) (fun _ => rfl)))) (fun _ => rfl))) (gss_one (gs_expr (ge_call F__law_do (hr.mono (by decide)) rfl T.g__law_do (ga_cons (ge_var rfl (.inl rfl) rfl rfl) (ga_cons (ge_var rfl (.inl rfl) rfl rfl) ga_nil rfl) rfl) rfl rfl rfl) rfl))))) (fun _ => rfl)) (gss_one (gs_ret (ge_var rfl (.inl rfl) rfl rfl))))))

/-! ### _law_word -/
theorem sc__law_word : FnScope ["_law_program", "_law_name", "_law_word_here", "e"] ["_law_program", "_law_name"] (defScope (top 58)) := ⟨rfl, rfl, rfl, by decide +kernel, rfl, by decide +kernel, by decide +kernel⟩
noncomputable def b__law_word : SX := (sSeq (sSet 2 (eC (.str "let")))
    (sSeq (sTry etab "RoundError" 3 ((sExpr (eCall d_with_clock (aC (eV 0) (aC (eV 1) aN))))) (fun l => (sSet 2 (eIf (bAnd (bT (eIsX 3 l "NoName")) (bT (eIsX 3 ["ValueError"] "ValueError"))) (eC (.str "name")) (eC (.str "other"))))))
    (sRet (eV 2))))
noncomputable def d__law_word : Den := runD 2 2 b__law_word
theorem p__law_word (T : Tx K mg A) (F_with_clock : FnD P w K mg base clW 4 2 A.f_with_clock d_with_clock) {f : Addr} : ∀ (cdv : Value) (A : Around) (outer : List Env) (s : Shared) (H : Hp) (E : XK), Room 4 (A.deeper (envOfC "_law_word" (defScope (top 58)) s.heap.objs.size f cdv)) →
    GSs clW (cxOf (L2.CX P w) P w K mg base ["_law_program", "_law_name", "_law_word_here", "e"] "_law_word" (defScope (top 58)) f cdv A outer s H E) (defBody (top 58)) b__law_word := fun cdv A outer s H E hr => by
  have sc := sc__law_word
  have hu := hr.units
  have hu1 := hu_of hr
  have TC := T.tc
  have TE := T.te
  exact (gss_cons (gs_set sc.nd rfl (.inl rfl) ge_str rfl (.inr rfl)) (gss_cons (gs_try (i := 3) TE rfl rfl sc.nd rfl rfl T.g_RoundError rfl ⟨rfl, rfl, .inl T.g_RoundError⟩ (fun pn xe => (gss_one (gs_expr (ge_call F_with_clock (hr.mono (by decide)) rfl T.g_with_clock (ga_cons (ge_var rfl (.inl rfl) rfl rfl) (ga_cons (ge_var rfl (.inl rfl) rfl rfl) ga_nil rfl) rfl) rfl rfl rfl) rfl))) (fun c C l hl hm a oe pn hz hv => (gss_one (gs_set sc.nd rfl (.inl rfl) (ge_if (gw_pt (gw_and (gt_val (ge_isX TE hl hm rfl T.g_NoName hz hv rfl (.inl rfl) rfl rfl rfl T.n_isinstance rfl rfl rfl rfl) (fun _ => rfl)) (gw_and1 (gt_val (ge_isXV TE hl hm hz hv rfl (.inl rfl) rfl rfl rfl T.n_isinstance rfl T.n_ValueError rfl rfl) (fun _ => rfl))))) ge_str ge_str) rfl (.inr rfl))))) (gss_one (gs_ret (ge_var rfl (.inl rfl) rfl rfl)))))

/-! ### law -/
theorem sc_law : FnScope ["_law_script", "_law_pot_here", "_law_turn", "_law_spec_here", "_law_program", "_law_names_here", "_law_name", "_law_due", "_law_clock", "_law_again", "_law_place", "_law_odd", "_law_four", "_law_one"] ["_law_script"] (defScope (top 59)) := ⟨rfl, rfl, rfl, by decide +kernel, rfl, by decide +kernel, by decide +kernel⟩
noncomputable def eqtab : GTab := [("Program", d_Program___eq__), ("RawProgram", d_Program___eq__)]
def eqnf : List (Str × Str) := [("Program", "Program"), ("RawProgram", "Program"), ("RawProgram", "RawProgram")]
noncomputable def L0_law : SX := (sSeq (sSet 10 (eCall d__law_input (aC (eV 1) (aC (eH (hE (eHB (hV 3) (eC (.int 0)) idxD)) lenD) (aC (eC (.int 4)) aN)))))
    (sIf (bV (eCmp neD (eCall d_results (aC (eV 8) (aC (eV 10) aN))) (eBin addD (eCall d__law_told (aC (eV 3) (aC (eV 10) aN))) (eTup (aC (eCall d__law_many (aC (eV 3) (aC (eV 10) aN))) aN))))) ((sRet (eC (.bl false)))) (sNil)))
noncomputable def L1_law : SX := (sSeq (sSet 3 (eCall d__law_spec (aC (eV 1) (aC (eC (.int 2)) (aC (eC (.int 7)) (aC (eC (.int 4)) aN))))))
    (sSeq (sSet 4 (eFz (mMk "Program" d_Program___init__ (aC (eHB (hV 3) (eC (.int 0)) idxD) (aC (eHB (hV 3) (eC (.int 1)) idxD) (aC (eHB (hV 3) (eC (.int 2)) idxD) aN))))))
    (sSeq (sSet 5 (eCall d__law_names (aC (eV 3) aN)))
    (sSeq (sSet 6 (eCall d__law_any (aC (eV 1) (aC (eFz (mLc (iS (eFz (mLst (aC (eC (.str "clock")) (aC (eC (.str "t")) (aC (eC (.str "aa")) (aC (eC (.str "h")) (aC (eC (.str "zz")) aN)))))))) (gN 13) (bV (eInH true (eV 13) (hV 5))) (eV 13) [13])) aN))))
    (sSeq (sSet 7 (eCall d__law_clocked (aC (eV 3) (aC (eV 6) aN))))
    (sSeq (sSet 8 (eCall d_with_clock (aC (eV 4) (aC (eV 6) aN))))
    (sSeq (sIf (bOr (bV (eCmp neD (eTup (aC (eH (hV 8) (fldD "given")) (aC (eH (hV 8) (fldD "told")) (aC (eH (hV 8) (fldD "block")) aN)))) (eV 7))) (bV (eEqO eqtab eqnf true (eCall d_with_clock (aC (eV 4) (aC (eV 6) aN))) (eV 8)))) ((sRet (eC (.bl false)))) (sNil))
    (sSeq (sFor (iR1 (aC (eC (.int 3)) aN)) (gN 9) L0_law)
    (sSeq (sSet 10 (eCall d__law_input (aC (eV 1) (aC (eH (hE (eHB (hV 3) (eC (.int 0)) idxD)) lenD) (aC (eBin powD (eC (.int 10)) (eC (.int 30))) aN)))))
    (sSeq (sIf (bV (eCmp neD (eCall d_results (aC (eV 8) (aC (eV 10) aN))) (eBin addD (eCall d_results (aC (eV 4) (aC (eV 10) aN))) (eTup (aC (eCall d_deeds (aC (eV 4) (aC (eV 10) aN))) aN))))) ((sRet (eC (.bl false)))) (sNil))
    (sSeq (sSet 11 (eFz (mLst (aC (eC .non) (aC (eC (.str "")) (aC (eC (.str "A")) (aC (eC (.str "a1")) (aC (eC (.str "toolongname")) (aC (eC (.int 0)) (aC (eC (.bl true)) (aC (eTup (aC (eC (.str "t")) aN)) (aC (eFz (mLst (aC (eC (.str "t")) aN))) (aC (eFz mDic0) (aC (eCall d__law_deep aN) (aC (eV 4) aN)))))))))))))))
    (sIf (bV (eCmp neD (eCall d__law_word (aC (eV 4) (aC (eHB (hE (eBin addD (eV 11) (eFz (mLst (aC (eCall d__law_any (aC (eV 1) (aC (eV 5) aN))) aN))))) (eCall d__law_draw (aC (eV 1) (aC (eC (.int 13)) aN))) idxD) aN))) (eC (.str "name")))) ((sRet (eC (.bl false)))) (sNil)))))))))))))
noncomputable def b_law : SX := (sSeq (sSet 1 (eCall d__law_pot (aC (eV 0) aN)))
    (sSeq (sFor (iR1 (aC (eC (.int 2)) aN)) (gN 2) L1_law)
    (sSeq (sSet 12 (eFz (mMk "Program" d_Program___init__ (aC (eTup (aC (eC (.str "a")) aN)) (aC (eTup (aC (eC (.str "a")) (aC (eC (.str "b")) (aC (eC (.str "c")) (aC (eC (.str "d")) aN))))) (aC (eTup aN) aN))))))
    (sRet (eAnd (eCmp eqD (eCall d__law_word (aC (eV 12) (aC (eC (.str "clock")) aN))) (eC (.str "name"))) (eCmp eqD (eCall d__law_word (aC (eFz (mMk "Program" d_Program___init__ (aC (eTup aN) (aC (eTup (aC (eC (.str "b")) aN)) (aC (eTup aN) aN))))) (aC (eC (.str "clock")) aN))) (eC (.str "let"))))))))
noncomputable def d_law : Den := runD 1 13 b_law
theorem p_law (T : Tx K mg A) (F_Program___eq__ : FnD P w K mg base clW 1 2 A.f_Program___eq__ d_Program___eq__) (F_Program___init__ : FnO P w K mg base clW 4 3 A.f_Program___init__ d_Program___init__) (F__law_any : FnD P w K mg base clW 2 2 A.f__law_any d__law_any) (F__law_clocked : FnD P w K mg base clW 1 2 A.f__law_clocked d__law_clocked) (F__law_deep : FnD P w K mg base clW 1 0 A.f__law_deep d__law_deep) (F__law_draw : FnD P w K mg base clW 1 2 A.f__law_draw d__law_draw) (F__law_input : FnD P w K mg base clW 2 3 A.f__law_input d__law_input) (F__law_many : FnD P w K mg base clW 3 2 A.f__law_many d__law_many) (F__law_names : FnD P w K mg base clW 1 1 A.f__law_names d__law_names) (F__law_pot : FnD P w K mg base clW 1 1 A.f__law_pot d__law_pot) (F__law_spec : FnD P w K mg base clW 4 4 A.f__law_spec d__law_spec) (F__law_told : FnD P w K mg base clW 4 2 A.f__law_told d__law_told) (F__law_word : FnD P w K mg base clW 5 2 A.f__law_word d__law_word) (F_deeds : FnD P w K mg base clW 5 2 A.f_deeds d_deeds) (F_results : FnD P w K mg base clW 7 2 A.f_results d_results) (F_with_clock : FnD P w K mg base clW 4 2 A.f_with_clock d_with_clock) {f : Addr} : ∀ (cdv : Value) (A : Around) (outer : List Env) (s : Shared) (H : Hp) (E : XK), Room 7 (A.deeper (envOfC "law" (defScope (top 59)) s.heap.objs.size f cdv)) →
    GSs clW (cxOf (L2.CX P w) P w K mg base ["_law_script", "_law_pot_here", "_law_turn", "_law_spec_here", "_law_program", "_law_names_here", "_law_name", "_law_due", "_law_clock", "_law_again", "_law_place", "_law_odd", "_law_four", "_law_one"] "law" (defScope (top 59)) f cdv A outer s H E) (defBody (top 59)) b_law := fun cdv A outer s H E hr => by
  have sc := sc_law
  have hu := hr.units
  have hu1 := hu_of hr
  have TC := T.tc
  have TE := T.te
  have ET : EqTabOk P w K mg base clW 1 eqtab eqnf := ⟨fun c den h => by
    rcases tab_c h with ⟨rfl, rfl⟩ | h
    · exact ⟨_, _, _, T.g_Program, T.eq_Program, F_Program___eq__.mono (by decide)⟩
    rcases tab_c h with ⟨rfl, rfl⟩ | h
    · exact ⟨_, _, _, T.g_RawProgram, T.eq_RawProgram, F_Program___eq__.mono (by decide)⟩
    exact tab_nil h, fun c d C D h h1 h2 => by
    rcases List.mem_cons.mp h with h | h
    · cases h
      exact nf_at T.g_Program T.g_Program T.nf_Program_Program h1 h2
    rcases List.mem_cons.mp h with h | h
    · cases h
      exact nf_at T.g_RawProgram T.g_Program T.nf_RawProgram_Program h1 h2
    rcases List.mem_cons.mp h with h | h
    · cases h
      exact nf_at T.g_RawProgram T.g_RawProgram T.nf_RawProgram_RawProgram h1 h2
    exact (nomatch h), fun c C den h h1 => by
    rcases tab_c h with ⟨rfl, rfl⟩ | h
    · exact ns_at T.g_Program T.es_Program h1
    rcases tab_c h with ⟨rfl, rfl⟩ | h
    · exact ns_at T.g_RawProgram T.es_RawProgram h1
    exact tab_nil h⟩
  exact (gss_cons (gs_set sc.nd rfl (.inl rfl) (ge_call F__law_pot (hr.mono (by decide)) rfl T.g__law_pot (ga_cons (ge_var rfl (.inl rfl) rfl rfl) ga_nil rfl) rfl rfl rfl) rfl (.inr rfl)) (gss_cons (gs_for rfl (gi_r1 rfl T.n_range (ga_cons ge_int ga_nil rfl) rfl) (gn_name sc.nd rfl (.inl rfl) (.inr rfl)) (gss_cons (gs_set sc.nd rfl (.inl rfl) (ge_call F__law_spec (hr.mono (by decide)) rfl T.g__law_spec (ga_cons (ge_var rfl (.inl rfl) rfl rfl) (ga_cons ge_int (ga_cons ge_int (ga_cons ge_int ga_nil rfl) rfl) rfl) rfl) rfl rfl rfl) rfl (.inr rfl)) (gss_cons (gs_set sc.nd rfl (.inl rfl) (ge_fz (gm_mk T.mk_Program T.g_Program kc_Program F_Program___init__ (hr.mono (by decide)) rfl (ga_cons (ge_sub hu1 (gh_var rfl (.inl rfl) rfl rfl) ge_int (fun _ _ => rfl)) (ga_cons (ge_sub hu1 (gh_var rfl (.inl rfl) rfl rfl) ge_int (fun _ _ => rfl)) (ga_cons (ge_sub hu1 (gh_var rfl (.inl rfl) rfl rfl) ge_int (fun _ _ => rfl)) ga_nil rfl) rfl) rfl) rfl rfl rfl)) rfl (.inr rfl)) (gss_cons (gs_set sc.nd rfl (.inr rfl) (ge_call F__law_names (hr.mono (by decide)) rfl T.g__law_names (ga_cons (ge_var rfl (.inl rfl) rfl rfl) ga_nil rfl) rfl rfl rfl) rfl (.inl rfl)) (gss_cons (gs_set sc.nd rfl (.inl rfl) (ge_call F__law_any (hr.mono (by decide)) rfl T.g__law_any (ga_cons (ge_var rfl (.inl rfl) rfl rfl) (ga_cons (ge_fz (gm_lc (own := [("_law_one", 13)]) rfl sc.nd (gi_any (ge_fz (gm_lst (ga_cons ge_str (ga_cons ge_str (ga_cons ge_str (ga_cons ge_str (ga_cons ge_str ga_nil rfl) rfl) rfl) rfl) rfl)))) (blkOk_by (by kernel_rfl)) (by decide) (fun _ _ _ _ _ => (gn_name sc.nd rfl (.inl rfl) (.inr rfl))) (fun _ _ _ _ _ => (gts_one (gt_in hu1 true (ge_var rfl (.inl rfl) rfl rfl) (gh_var rfl (.inr (.inl rfl)) rfl rfl) rfl))) (fun _ _ _ _ _ => (ge_var rfl (.inl rfl) rfl rfl)) (fun _ => rfl))) ga_nil rfl) rfl) rfl rfl rfl) rfl (.inr rfl)) (gss_cons (gs_set sc.nd rfl (.inl rfl) (ge_call F__law_clocked (hr.mono (by decide)) rfl T.g__law_clocked (ga_cons (ge_var rfl (.inl rfl) rfl rfl) (ga_cons (ge_var rfl (.inl rfl) rfl rfl) ga_nil rfl) rfl) rfl rfl rfl) rfl (.inr rfl)) (gss_cons (gs_set sc.nd rfl (.inl rfl) (ge_call F_with_clock (hr.mono (by decide)) rfl T.g_with_clock (ga_cons (ge_var rfl (.inl rfl) rfl rfl) (ga_cons (ge_var rfl (.inl rfl) rfl rfl) ga_nil rfl) rfl) rfl rfl rfl) rfl (.inr rfl)) (gss_cons (gs_if (gw_pt (gw_or (gt_cmp (ok_ne hu) (ge_tup (ga_cons (ge_fld (T.f_given) (gh_var rfl (.inl rfl) rfl rfl) rfl) (ga_cons (ge_fld (T.f_told) (gh_var rfl (.inl rfl) rfl rfl) rfl) (ga_cons (ge_fld (T.f_block) (gh_var rfl (.inl rfl) rfl rfl) rfl) ga_nil rfl) rfl) rfl)) (ge_var rfl (.inl rfl) rfl rfl) rfl) (gw_or1 (gt_eqO (neg := true) hu ET (hr.mono (by decide)) (ge_call F_with_clock (hr.mono (by decide)) rfl T.g_with_clock (ga_cons (ge_var rfl (.inl rfl) rfl rfl) (ga_cons (ge_var rfl (.inl rfl) rfl rfl) ga_nil rfl) rfl) rfl rfl rfl) (ge_var rfl (.inl rfl) rfl rfl) rfl)))) (gss_one (gs_ret ge_bl)) gss_nil) (gss_cons (gs_for rfl (gi_r1 rfl T.n_range (ga_cons ge_int ga_nil rfl) rfl) (gn_name sc.nd rfl (.inl rfl) (.inr rfl)) (gss_cons (gs_set sc.nd rfl (.inl rfl) (ge_call F__law_input (hr.mono (by decide)) rfl T.g__law_input (ga_cons (ge_var rfl (.inl rfl) rfl rfl) (ga_cons (ge_b1 ok_len rfl T.n_len (by decide +kernel) (gh_of (ge_sub hu1 (gh_var rfl (.inl rfl) rfl rfl) ge_int (fun _ _ => rfl))) (by decide) rfl rfl) (ga_cons ge_int ga_nil rfl) rfl) rfl) rfl rfl rfl) rfl (.inr rfl)) (gss_one (gs_if (gt_cmp (ok_ne hu) (ge_call F_results (hr.mono (by decide)) rfl T.g_results (ga_cons (ge_var rfl (.inl rfl) rfl rfl) (ga_cons (ge_var rfl (.inl rfl) rfl rfl) ga_nil rfl) rfl) rfl rfl rfl) (ge_bin ok_add (ge_call F__law_told (hr.mono (by decide)) rfl T.g__law_told (ga_cons (ge_var rfl (.inl rfl) rfl rfl) (ga_cons (ge_var rfl (.inl rfl) rfl rfl) ga_nil rfl) rfl) rfl rfl rfl) (ge_tup (ga_cons (ge_call F__law_many (hr.mono (by decide)) rfl T.g__law_many (ga_cons (ge_var rfl (.inl rfl) rfl rfl) (ga_cons (ge_var rfl (.inl rfl) rfl rfl) ga_nil rfl) rfl) rfl rfl rfl) ga_nil rfl))) rfl) (gss_one (gs_ret ge_bl)) gss_nil))) (fun _ => rfl)) (gss_cons (gs_set sc.nd rfl (.inl rfl) (ge_call F__law_input (hr.mono (by decide)) rfl T.g__law_input (ga_cons (ge_var rfl (.inl rfl) rfl rfl) (ga_cons (ge_b1 ok_len rfl T.n_len (by decide +kernel) (gh_of (ge_sub hu1 (gh_var rfl (.inl rfl) rfl rfl) ge_int (fun _ _ => rfl))) (by decide) rfl rfl) (ga_cons (ge_bin ok_pow ge_int ge_int) ga_nil rfl) rfl) rfl) rfl rfl rfl) rfl (.inr rfl)) (gss_cons (gs_if (gt_cmp (ok_ne hu) (ge_call F_results (hr.mono (by decide)) rfl T.g_results (ga_cons (ge_var rfl (.inl rfl) rfl rfl) (ga_cons (ge_var rfl (.inl rfl) rfl rfl) ga_nil rfl) rfl) rfl rfl rfl) (ge_bin ok_add (ge_call F_results (hr.mono (by decide)) rfl T.g_results (ga_cons (ge_var rfl (.inl rfl) rfl rfl) (ga_cons (ge_var rfl (.inl rfl) rfl rfl) ga_nil rfl) rfl) rfl rfl rfl) (ge_tup (ga_cons (ge_call F_deeds (hr.mono (by decide)) rfl T.g_deeds (ga_cons (ge_var rfl (.inl rfl) rfl rfl) (ga_cons (ge_var rfl (.inl rfl) rfl rfl) ga_nil rfl) rfl) rfl rfl rfl) ga_nil rfl))) rfl) (gss_one (gs_ret ge_bl)) gss_nil) (gss_cons (gs_set sc.nd rfl (.inl rfl) (ge_fz (gm_lst (ga_cons ge_non (ga_cons ge_str (ga_cons ge_str (ga_cons ge_str (ga_cons ge_str (ga_cons ge_int (ga_cons ge_bl (ga_cons (ge_tup (ga_cons ge_str ga_nil rfl)) (ga_cons (ge_fz (gm_lst (ga_cons ge_str ga_nil rfl))) (ga_cons (ge_fz gm_dic0) (ga_cons (ge_call0 F__law_deep (hr.mono (by decide)) rfl T.g__law_deep rfl) (ga_cons (ge_var rfl (.inl rfl) rfl rfl) ga_nil rfl) rfl) rfl) rfl) rfl) rfl) rfl) rfl) rfl) rfl) rfl) rfl))) rfl (.inr rfl)) (gss_one (gs_if (gt_cmp (ok_ne hu) (ge_call F__law_word (hr.mono (by decide)) rfl T.g__law_word (ga_cons (ge_var rfl (.inl rfl) rfl rfl) (ga_cons (ge_sub hu1 (gh_of (ge_bin ok_add (ge_var rfl (.inl rfl) rfl rfl) (ge_fz (gm_lst (ga_cons (ge_call F__law_any (hr.mono (by decide)) rfl T.g__law_any (ga_cons (ge_var rfl (.inl rfl) rfl rfl) (ga_cons (ge_var rfl (.inr (.inl rfl)) rfl rfl) ga_nil rfl) rfl) rfl rfl rfl) ga_nil rfl))))) (ge_call F__law_draw (hr.mono (by decide)) rfl T.g__law_draw (ga_cons (ge_var rfl (.inl rfl) rfl rfl) (ga_cons ge_int ga_nil rfl) rfl) rfl rfl rfl) (fun _ _ => rfl)) ga_nil rfl) rfl) rfl rfl rfl) ge_str rfl) (gss_one (gs_ret ge_bl)) gss_nil))))))))))))) (fun _ => rfl)) (gss_cons (gs_set sc.nd rfl (.inl rfl) (ge_fz (gm_mk T.mk_Program T.g_Program kc_Program F_Program___init__ (hr.mono (by decide)) rfl (ga_cons (ge_tup (ga_cons ge_str ga_nil rfl)) (ga_cons (ge_tup (ga_cons ge_str (ga_cons ge_str (ga_cons ge_str (ga_cons ge_str ga_nil rfl) rfl) rfl) rfl)) (ga_cons (ge_tup ga_nil) ga_nil rfl) rfl) rfl) rfl rfl rfl)) rfl (.inr rfl)) (gss_one (gs_ret (ge_and (ge_cmp (ok_eq hu) (ge_call F__law_word (hr.mono (by decide)) rfl T.g__law_word (ga_cons (ge_var rfl (.inl rfl) rfl rfl) (ga_cons ge_str ga_nil rfl) rfl) rfl rfl rfl) ge_str rfl) (ge_one (ge_cmp (ok_eq hu) (ge_call F__law_word (hr.mono (by decide)) rfl T.g__law_word (ga_cons (ge_fz (gm_mk T.mk_Program T.g_Program kc_Program F_Program___init__ (hr.mono (by decide)) rfl (ga_cons (ge_tup ga_nil) (ga_cons (ge_tup (ga_cons ge_str ga_nil rfl)) (ga_cons (ge_tup ga_nil) ga_nil rfl) rfl) rfl) rfl rfl rfl)) (ga_cons ge_str ga_nil rfl) rfl) rfl rfl rfl) ge_str rfl))))))))

end LW
end

section
set_option linter.all false
set_option maxRecDepth 100000
namespace LW
open PySem L2 GG
local macro_rules
  | `(tactic| simp? [$a,*] $[$l:location]?) => `(tactic| simp only [eC_a, eV_a, hE_a, hV_a, eH_a, eHB_a, eBin_a, eUn_a, eAnd_a, eOr_a, eNot_a, eIf_a, eCmp_a, eChain_a, aN_a, aC_a, eTup_a, eLst_a, eCall_a, eB_a, eFz_a, eAl_a, mLst_a, mLc_a, mLc2_a, mMk_a, mDic0_a, mList_a, eMeth_a, eIsi1_a, eIsi_a, eInH_a, eSl_a, oX_none, oX_some, bV_a, bT_a, bAnd_a, bOr_a, bNot_a, bTrue_a, iS_a, iEn_a, iZ_a, iR1_a, iR2_a, iR3_a, sSeq_a, sNil_a, sExpr_a, sRet_a, sRetN_a, sIf_a, sBrk_a, sCnt_a, sSet_a, sOwn_a, sFz_a, sFor_a, sMt_a, sFld_a, sAsg_a, sRaise_a, sTry_a, sMethO_a, endD_rt, endD_nx, endD_ex, bok, bex, oso, sok, sxc, cok, qnx, qrt, qbk, qct, qex, lnx, lct, lbk, lrt, lxc, oss, okk, obs, oms, add_i, sub_i, neg_i, lt_i, le_i, gt_i, ge_i, len_l, len_t, len_f, len_d, idx_l, idx_t, idx_f, walk_l, walk_t, walk_f, seq_l, seq_t, tuple_l, tuple_t, int_i, atI_0, atI_1, atI_2, dr_n, dr_b, dr_i, dr_s, dr_l, dr_t, dr_k, dr_f, dr_d, dr_o, dr_p, dr_w, now_l, now_d, now_o, frz_l, frz_d, frz_o, isL_l, frzAt, cu_p, cu_w, pu_p, pu_w, startD, startO, List.map_cons, List.map_nil, List.replicate, List.cons_append, List.nil_append, List.length_cons, List.length_nil, Nat.zero_add, Nat.reduceAdd, List.getElem?_cons_zero, List.getElem?_cons_succ, List.set_cons_zero, List.set_cons_succ, if_true, if_false, reduceIte, Bool.false_eq_true, bD_b, tru_n, tru_b, tru_l, tru_t, gN_a, gT_t, gAll_n, gAll_c, wipeD, ite_and, ite_or, ite_andB, ite_orB, szOk_0, szOk_1, szOk_2, szOk_3, szOk_4, Bool.not_true, Bool.not_false, Bool.true_and, Bool.and_true, Bool.false_and, Bool.and_false, Bool.true_or, Bool.or_true, Bool.false_or, Bool.or_false, decide_true, decide_false, tT, tAll, tN, tI, setI, sTry0_a, mSrt_a, mSrtTx_a, eEqO_a, tIK_a, now_td, frz_td, dr_td, idx_td, in_td, srt_td, $a,*] $[$l:location]?)
/-! ### == on data -/
mutual
/-- data in which == is being the same -/
def clean : D → Bool
  | .non => true
  | .int _ => true
  | .str x => PyData.strOk x
  | .tup ds => cleanL ds
  | .lst ds => cleanL ds
  | _ => false
def cleanL : List D → Bool
  | [] => true
  | d :: ds => clean d && cleanL ds
end
mutual
def dep : D → Nat
  | .tup ds => depL ds + 1
  | .lst ds => depL ds + 1
  | _ => 0
def depL : List D → Nat
  | [] => 0
  | d :: ds => max (dep d) (depL ds)
end
mutual
theorem py_clean : ∀ {d : D}, clean d = true → ∃ p, toPy d = some p ∧ p.canLay0 = true ∧ p.depth = dep d
  | .non, _ => ⟨.none, by simp [toPy], rfl, rfl⟩
  | .int i, _ => ⟨.int i, by simp [toPy], rfl, rfl⟩
  | .str x, h => ⟨.str x, by simp [toPy], by simpa [clean, PyData.canLay0] using h, rfl⟩
  | .tup ds, h => by
    obtain ⟨ps, e, c, l⟩ := pyL_clean (ds := ds) (by simpa [clean] using h)
    exact ⟨.tuple ps, by simp [toPy, e], by simpa [PyData.canLay0] using c, by simp [PyData.depth, dep, l]⟩
  | .lst ds, h => by
    obtain ⟨ps, e, c, l⟩ := pyL_clean (ds := ds) (by simpa [clean] using h)
    exact ⟨.list ps, by simp [toPy, e], by simpa [PyData.canLay0] using c, by simp [PyData.depth, dep, l]⟩
  | .bl _, h => by simp [clean] at h
  | .gl _, h => by simp [clean] at h
  | .ktp _, h => by simp [clean] at h
  | .frl _, h => by simp [clean] at h
  | .dic _ _, h => by simp [clean] at h
  | .obj _ _ _, h => by simp [clean] at h
  | .ptr _, h => by simp [clean] at h
  | .clo _ _, h => by simp [clean] at h
theorem pyL_clean : ∀ {ds : List D}, cleanL ds = true → ∃ ps, toPyL ds = some ps ∧ PyData.canLayAll0 ps = true ∧ PyData.depthAll ps = depL ds
  | [], _ => ⟨[], by simp [toPyL], by simp [PyData.canLayAll0], by simp [PyData.depthAll, depL]⟩
  | d :: ds, h => by
    have h : (clean d && cleanL ds) = true := by simpa [cleanL] using h
    rw [Bool.and_eq_true] at h
    obtain ⟨p, e1, c1, l1⟩ := py_clean h.1
    obtain ⟨ps, e2, c2, l2⟩ := pyL_clean h.2
    exact ⟨p :: ps, by simp [toPyL, e1, e2], by simp [PyData.canLayAll0, c1, c2], by simp [PyData.depthAll, depL, l1, l2]⟩
end
mutual
theorem eqv_clean : ∀ {a b : D} {p q : PyData}, clean a = true → clean b = true → toPy a = some p → toPy b = some q → (PyData.eqv p q = true ↔ a = b)
  | .non, b, p, q, ha, hb, e1, e2 => by
    simp [toPy] at e1; subst e1
    cases b <;> simp [clean] at hb <;> simp [toPy] at e2 <;> first | (subst e2; simp [PyData.eqv]) | (obtain ⟨ps, _, rfl⟩ := e2; simp [PyData.eqv])
  | .int i, b, p, q, ha, hb, e1, e2 => by
    simp [toPy] at e1; subst e1
    cases b <;> simp [clean] at hb <;> simp [toPy] at e2 <;> first | (subst e2; simp [PyData.eqv]) | (obtain ⟨ps, _, rfl⟩ := e2; simp [PyData.eqv])
  | .str x, b, p, q, ha, hb, e1, e2 => by
    simp [toPy] at e1; subst e1
    cases b <;> simp [clean] at hb <;> simp [toPy] at e2 <;> first | (subst e2; simp [PyData.eqv]) | (obtain ⟨ps, _, rfl⟩ := e2; simp [PyData.eqv])
  | .tup ds, b, p, q, ha, hb, e1, e2 => by
    simp [toPy] at e1
    obtain ⟨ps, e1, rfl⟩ := e1
    cases b <;> simp [clean] at hb <;> simp [toPy] at e2 <;> first | (subst e2; simp [PyData.eqv]; done) | skip
    · obtain ⟨qs, e2, rfl⟩ := e2
      have := eqvL_clean (by simpa [clean] using ha) hb e1 e2
      simpa [PyData.eqv] using this
    · obtain ⟨qs, e2, rfl⟩ := e2
      simp [PyData.eqv]
  | .lst ds, b, p, q, ha, hb, e1, e2 => by
    simp [toPy] at e1
    obtain ⟨ps, e1, rfl⟩ := e1
    cases b <;> simp [clean] at hb <;> simp [toPy] at e2 <;> first | (subst e2; simp [PyData.eqv]; done) | skip
    · obtain ⟨qs, e2, rfl⟩ := e2
      simp [PyData.eqv]
    · obtain ⟨qs, e2, rfl⟩ := e2
      have := eqvL_clean (by simpa [clean] using ha) hb e1 e2
      simpa [PyData.eqv] using this
  | .bl _, _, _, _, h, _, _, _ => by simp [clean] at h
  | .gl _, _, _, _, h, _, _, _ => by simp [clean] at h
  | .ktp _, _, _, _, h, _, _, _ => by simp [clean] at h
  | .frl _, _, _, _, h, _, _, _ => by simp [clean] at h
  | .dic _ _, _, _, _, h, _, _, _ => by simp [clean] at h
  | .obj _ _ _, _, _, _, h, _, _, _ => by simp [clean] at h
  | .ptr _, _, _, _, h, _, _, _ => by simp [clean] at h
  | .clo _ _, _, _, _, h, _, _, _ => by simp [clean] at h
theorem eqvL_clean : ∀ {as bs : List D} {ps qs : List PyData}, cleanL as = true → cleanL bs = true → toPyL as = some ps → toPyL bs = some qs → (PyData.eqvAll ps qs = true ↔ as = bs)
  | [], bs, _, _, _, _, e1, e2 => by
    simp [toPyL] at e1; subst e1
    cases bs with
    | nil => simp [toPyL] at e2; subst e2; simp [PyData.eqvAll]
    | cons b bs =>
      simp [toPyL, Option.bind_eq_some_iff] at e2
      obtain ⟨q, _, qs, _, rfl⟩ := e2
      simp [PyData.eqvAll]
  | a :: as, bs, _, _, ha, hb, e1, e2 => by
    simp [toPyL, Option.bind_eq_some_iff] at e1
    obtain ⟨p, e1, ps, e1', rfl⟩ := e1
    have ha : (clean a && cleanL as) = true := by simpa [cleanL] using ha
    rw [Bool.and_eq_true] at ha
    cases bs with
    | nil => simp [toPyL] at e2; subst e2; simp [PyData.eqvAll]
    | cons b bs =>
      have hb : (clean b && cleanL bs) = true := by simpa [cleanL] using hb
      rw [Bool.and_eq_true] at hb
      simp [toPyL, Option.bind_eq_some_iff] at e2
      obtain ⟨q, e2, qs, e2', rfl⟩ := e2
      have h1 := eqv_clean ha.1 hb.1 e1 e2
      have h2 := eqvL_clean ha.2 hb.2 e1' e2'
      simp [PyData.eqvAll, h1, h2]
end
theorem eqD_clean {a b : D} (ha : clean a = true) (hb : clean b = true) (la : dep a ≤ 64) (lb : dep b ≤ 64) : ∃ k, eqD a b = some k ∧ (k = true ↔ a = b) := by
  obtain ⟨p, e1, c1, l1⟩ := py_clean ha
  obtain ⟨q, e2, c2, l2⟩ := py_clean hb
  refine ⟨PyData.eqv p q, ?_, eqv_clean ha hb e1 e2⟩
  unfold eqD
  rw [e1, e2, Option.bind_some, Option.bind_some]
  have s1 : SeqAt.shaped p = true := by unfold SeqAt.shaped; rw [c1, decide_eq_true (by omega)]; rfl
  have s2 : SeqAt.shaped q = true := by unfold SeqAt.shaped; rw [c2, decide_eq_true (by omega)]; rfl
  rw [s1, s2]
  rfl
theorem eqD_same {a : D} (ha : clean a = true) (la : dep a ≤ 64) : eqD a a = some true := by
  obtain ⟨k, e, h⟩ := eqD_clean ha ha la la
  rw [e, h.mpr rfl]
theorem eqD_other {a b : D} (ha : clean a = true) (hb : clean b = true) (la : dep a ≤ 64) (lb : dep b ≤ 64) (h : a ≠ b) : eqD a b = some false := by
  obtain ⟨k, e, hk⟩ := eqD_clean ha hb la lb
  rw [e]
  cases k with
  | false => rfl
  | true => exact absurd (hk.mp rfl) h
theorem eqD_s {x y : Str} (hx : PyData.strOk x = true) (hy : PyData.strOk y = true) : eqD (.str x) (.str y) = some (decide (x = y)) := by
  by_cases h : x = y
  · subst h; rw [eqD_same (by simpa [clean] using hx) (by simp [dep]), decide_eq_true rfl]
  · rw [eqD_other (by simpa [clean] using hx) (by simpa [clean] using hy) (by simp [dep]) (by simp [dep]) (by simpa using h), decide_eq_false h]
theorem cleanL_iff {ds : List D} : cleanL ds = true ↔ ∀ d ∈ ds, clean d = true := by
  induction ds with
  | nil => simp [cleanL]
  | cons d ds ih => simp [cleanL, ih]
theorem depL_le {ds : List D} {k : Nat} : depL ds ≤ k ↔ ∀ d ∈ ds, dep d ≤ k := by
  induction ds with
  | nil => simp [depL]
  | cons d ds ih =>
    simp only [depL, List.mem_cons, forall_eq_or_imp]
    rw [← ih]
    omega
/-! ### kinds of data -/
def tyB (m : String) : D → Bool
  | .bl _ => biB "bool" m
  | .int _ => biB "int" m
  | .str _ => biB "str" m
  | .tup _ => biB "tuple" m
  | .ktp _ => biB "tuple" m
  | .lst _ => biB "list" m
  | .frl _ => biB "list" m
  | .dic _ _ => biB "dict" m
  | .non => biB "NoneType" m
  | _ => false
/-- data that can be judged -/
def tame : D → Bool
  | .non => true
  | .bl _ => true
  | .int _ => true
  | .str _ => true
  | .tup _ => true
  | .lst _ => true
  | .dic _ _ => true
  | .obj c _ _ => (ctab.lookup c).isSome
  | _ => false
/-- .. and a text is not long -/
def tameS (d : D) : Prop := tame d = true ∧ ∀ z, d = .str z → z.length ≤ 1000000
theorem isi_tame {d : D} (h : tame d = true) {m : String} (hm : biTypes.contains m = true) (S : Store) : ((typN S d).bind fun u => isOne ctab u (.ty m)) = some (tyB m d) := by
  have src : ∀ n, srcTypes.contains n = true → isOne ctab (.inl n) (.ty m) = some (biB n m) := fun n hn => by
    show (if (srcTypes.contains n && biTypes.contains m) = true then some (biB n m) else none) = _
    rw [hn, hm]
    rfl
  cases d <;> first | (exact src _ (by decide)) | (exact Bool.noConfusion h) | skip
  rename_i c _ _
  have h : (ctab.lookup c).isSome = true := h
  show (if ((ctab.lookup c).isSome && biTypes.contains m) = true then some false else none) = _
  rw [h, hm]
  rfl
def isInt : D → Bool
  | .int _ => true
  | _ => false
def isNat : D → Bool
  | .int i => decide (0 ≤ i)
  | _ => false
theorem ty_int (d : D) : tyB "int" d = (isInt d || tyB "bool" d) := by cases d <;> rfl
theorem int_bool (d : D) (h : isInt d = true) : tyB "bool" d = false := by cases d <;> first | rfl | cases h
theorem isi_a {ρ : LEnv} {S S' : Store} {e : EX} {d : D} {m : String} (he : e ρ S = .ok (d, S')) (h : tame d = true) (hm : biTypes.contains m = true) : eIsi1 ctab (.ty m) e ρ S = .ok (.bl (tyB m d), S') := by
  rw [eIsi1_a, he]
  simp only [Out.bind_ok, isi_tame h hm]
  rfl
theorem is_integer_ok {d : D} (h : tame d = true) (S : Store) : d_is_integer [d] S = .ok (.bl (isInt d), S) := by
  unfold d_is_integer b_is_integer
  rw [runD_a (n := 1) rfl]
  have t1 := isi_tame h (m := "int") (by decide)
  have t2 := isi_tame h (m := "bool") (by decide)
  simp? [t1, t2, ty_int]
  cases hi : isInt d with
  | true => simp only [int_bool d hi]; rfl
  | false => cases hb : tyB "bool" d <;> rfl
theorem is_number_ok {d : D} (h : tame d = true) (S : Store) : d_is_number [d] S = .ok (.bl (isNat d), S) := by
  unfold d_is_number b_is_number
  rw [runD_a (n := 1) rfl]
  simp? [is_integer_ok h]
  cases d <;> simp? [isInt, isNat]
theorem le_s (x y : Str) : leD (.str x) (.str y) = some (!decide (y.cps.toList < x.cps.toList)) := nd rfl
def lowC (c : Nat) : Bool := decide (97 ≤ c) && decide (c ≤ 122)
theorem one_lt (a b : Nat) : ([a] < [b]) ↔ a < b := by
  rw [List.cons_lt_cons_iff]
  constructor
  · rintro (h | ⟨_, h⟩)
    · exact h
    · exact absurd h (by simp)
  · exact .inl
theorem cps_a : ("a" : Str).cps.toList = [97] := by decide +kernel
theorem cps_z : ("z" : Str).cps.toList = [122] := by decide +kernel
theorem le_lo (c : Nat) : leD (.str "a") (.str ⟨#[c]⟩) = some (decide (97 ≤ c)) := by
  rw [le_s, cps_a]
  show some (!decide ([c] < [97])) = _
  by_cases h : 97 ≤ c
  · rw [decide_eq_true h, decide_eq_false (by rw [one_lt]; omega)]; rfl
  · rw [decide_eq_false h, decide_eq_true (by rw [one_lt]; omega)]; rfl
theorem le_hi (c : Nat) : leD (.str ⟨#[c]⟩) (.str "z") = some (decide (c ≤ 122)) := by
  rw [le_s, cps_z]
  show some (!decide ([122] < [c])) = _
  by_cases h : c ≤ 122
  · rw [decide_eq_true h, decide_eq_false (by rw [one_lt]; omega)]; rfl
  · rw [decide_eq_false h, decide_eq_true (by rw [one_lt]; omega)]; rfl
/-- whether all signs of a text are a to z, by a comprehension -/
theorem low_ok {ρ : LEnv} {S : Store} {i : Nat} {z : Str} (hi : i < ρ.length) : lcL (gN i) bTrue (eChain leD leD (eC (.str "a")) (eV i) (eC (.str "z"))) (charsD z) ρ S = .ok (z.cps.toList.map fun c => .bl (lowC c), S) := by
  unfold charsD
  refine lcL_map fun c _ => ⟨_, rfl, ?_⟩
  have g : (ρ.set i (.val (.str ⟨#[c]⟩)))[i]? = some (.val (.str ⟨#[c]⟩)) := List.getElem?_set_self hi
  simp? [g, le_lo, le_hi, lowC]
def isNm : D → Bool
  | .str z => decide ((1 : Int) ≤ z.length) && decide ((z.length : Int) ≤ 8) && z.cps.toList.all lowC
  | _ => false
theorem isStr_of {d : D} (h : tyB "str" d = true) : ∃ z, d = .str z := by
  cases d <;> first | exact ⟨_, rfl⟩ | exact absurd h (by simp [tyB, biB])
theorem is_name_ok {d : D} (h : tameS d) (S : Store) : d_is_name [d] S = .ok (.bl (isNm d), S) := by
  unfold d_is_name b_is_name
  rw [runD_a (n := 1) rfl]
  have t1 := isi_tame h.1 (m := "str") (by decide)
  simp? [t1]
  cases hb : tyB "str" d with
  | false =>
    have e : isNm d = false := by cases d <;> first | rfl | exact absurd hb (by simp [tyB, biB])
    simp? [e]
  | true =>
    obtain ⟨z, rfl⟩ := isStr_of hb
    have hz : z.length ≤ 16777216 := by
      have := h.2 z rfl
      omega
    have lo := fun S => low_ok (S := S) (i := 1) (ρ := [.val (.str z), .no]) (z := z) (Nat.lt_succ_self 1)
    simp? [len_s hz, walk_s hz, lo, isNm, allD_map, Bool.and_assoc]
theorem isTup_of {d : D} (h : tame d = true) (ht : tyB "tuple" d = true) : ∃ xs, d = .tup xs := by
  cases d <;> first | exact ⟨_, rfl⟩ | exact Bool.noConfusion h | exact absurd ht (by simp [tyB, biB])
theorem isLst_of {d : D} (h : tame d = true) (ht : tyB "list" d = true) : ∃ xs, d = .lst xs := by
  cases d <;> first | exact ⟨_, rfl⟩ | exact Bool.noConfusion h | exact absurd ht (by simp [tyB, biB])
/-- data whose items can be judged, too -/
def tame1 (d : D) : Prop := tame d = true ∧ ∀ xs, d = .tup xs ∨ d = .lst xs → ∀ x ∈ xs, tameS x
def isNums (d : D) (n : Int) : Bool := match d with
  | .tup xs => decide ((xs.length : Int) = n) && xs.all isNat
  | _ => false
theorem eqD_i (i j : Int) : eqD (.int i) (.int j) = some (decide (i = j)) := by
  have s : ∀ i : Int, SeqAt.shaped (.int i) = true := fun i => rfl
  show (if (SeqAt.shaped (.int i) && SeqAt.shaped (.int j)) = true then some (PyData.eqv (.int i) (.int j)) else none) = _
  rw [s, s]
  rfl
theorem neD_i (i j : Int) : neD (.int i) (.int j) = some (!decide (i = j)) := by
  unfold neD
  rw [eqD_i]
  rfl
theorem are_numbers_ok {d : D} (h : tame1 d) (n : Int) (S : Store) : d_are_numbers [d, .int n] S = .ok (.bl (isNums d n), S) := by
  unfold d_are_numbers b_are_numbers
  rw [runD_a (n := 2) rfl]
  have t1 := isi_tame h.1 (m := "tuple") (by decide)
  simp? [t1]
  cases hb : tyB "tuple" d with
  | false =>
    have e : isNums d n = false := by cases d <;> first | rfl | exact absurd hb (by simp [tyB, biB])
    simp? [e]
  | true =>
    obtain ⟨xs, rfl⟩ := isTup_of h.1 hb
    have lo : ∀ S, lcL (gN 2) bTrue (eCall d_is_number (aC (eV 2) aN)) xs [.val (.tup xs), .val (.int n), .no] S = .ok (xs.map fun x => .bl (isNat x), S) := fun S =>
      lcL_mapD fun x m => ⟨_, rfl, by simp? [is_number_ok (h.2 xs (.inl rfl) x m).1]⟩
    simp? [eqD_i, lo, isNums, allD_map]
/-- a tuple of so many unlike names -/
def strOf : D → Str
  | .str z => z
  | _ => ""
def isNms (d : D) (lo hi : Int) : Bool := match d with
  | .tup xs => decide (lo ≤ xs.length) && decide ((xs.length : Int) ≤ hi) && xs.all isNm && decide (xs.map strOf).Nodup
  | _ => false
theorem isNm_str {d : D} (h : isNm d = true) : d = .str (strOf d) := by
  cases d <;> first | rfl | cases h
theorem keys_nms : ∀ {xs : List D}, xs.all isNm = true → keysL xs = some (xs.map fun x => Sum.inr (strOf x))
  | [], _ => rfl
  | x :: xs, h => by
    rw [List.all_cons, Bool.and_eq_true] at h
    have e := isNm_str h.1
    have ih := keys_nms h.2
    show ((keyK x).bind fun k => (keysL xs).map fun r => k :: r) = _
    rw [e, ih]
    rfl
theorem uq_le {α : Type} [DecidableEq α] (xs : List α) : ∀ acc : List α, acc.Nodup → (xs.foldl (fun a x => if x ∈ a then a else a ++ [x]) acc).length ≤ acc.length + xs.length ∧
    ((xs.foldl (fun a x => if x ∈ a then a else a ++ [x]) acc).length = acc.length + xs.length ↔ (acc ++ xs).Nodup) := by
  induction xs with
  | nil => intro acc h; simpa using h
  | cons x xs ih =>
    intro acc h
    rw [List.foldl_cons]
    by_cases hx : x ∈ acc
    · rw [if_pos hx]
      obtain ⟨h1, h2⟩ := ih acc h
      refine ⟨by rw [List.length_cons]; omega, fun e => ?_, fun n => ?_⟩
      · rw [List.length_cons] at e
        omega
      · rw [List.nodup_append] at n
        exact absurd rfl (n.2.2 x hx x List.mem_cons_self)
    · rw [if_neg hx]
      have hn : (acc ++ [x]).Nodup := by
        rw [List.nodup_append]
        exact ⟨h, by simp, fun a ha b hb e => by rw [List.mem_singleton] at hb; subst e; subst hb; exact hx ha⟩
      obtain ⟨h1, h2⟩ := ih _ hn
      rw [List.length_append, List.length_singleton] at h1 h2
      rw [List.length_cons]
      refine ⟨by omega, fun e => ?_, fun n => ?_⟩
      · have := h2.mp (by omega)
        rwa [List.append_assoc] at this
      · have : (acc ++ [x] ++ xs).Nodup := by rw [List.append_assoc]; exact n
        have := h2.mpr this
        omega
theorem uq_len {α : Type} [DecidableEq α] (xs : List α) : (uq xs).length = xs.length ↔ xs.Nodup := by
  have := (uq_le xs [] (by simp)).2
  simpa [uq] using this
theorem lenset_nms {xs : List D} (h : xs.all isNm = true) (hl : xs.length ≤ 4000) : lensetD (.tup xs) = some (.int (uq (xs.map fun x => (Sum.inr (strOf x) : L2.Key))).length) := by
  show (keysL xs).bind _ = _
  rw [keys_nms h, Option.bind_some, if_pos (by rw [List.length_map]; show _ < 4096; omega)]
theorem nodup_inr (xs : List D) : (xs.map fun x => (Sum.inr (strOf x) : L2.Key)).Nodup ↔ (xs.map strOf).Nodup := by
  rw [show (xs.map fun x => (Sum.inr (strOf x) : L2.Key)) = (xs.map strOf).map Sum.inr from by rw [List.map_map]; rfl]
  constructor
  · exact fun h => List.Pairwise.of_map Sum.inr (fun a b h e => h (by rw [e])) h
  · exact fun h => List.Pairwise.map Sum.inr (fun a b h e => h (Sum.inr.inj e)) h
theorem set_len {xs : List D} : decide (((uq (xs.map fun x => (Sum.inr (strOf x) : L2.Key))).length : Int) = (xs.length : Int)) = decide (xs.map strOf).Nodup := by
  refine decide_eq_decide.mpr ?_
  rw [← nodup_inr, ← uq_len, List.length_map]
  omega
theorem are_names_ok {d : D} (h : tame1 d) (lo hi : Int) (hh : hi ≤ 4000) (S : Store) : d_are_names [d, .int lo, .int hi] S = .ok (.bl (isNms d lo hi), S) := by
  unfold d_are_names b_are_names
  rw [runD_a (n := 3) rfl]
  have t1 := isi_tame h.1 (m := "tuple") (by decide)
  cases hb : tyB "tuple" d with
  | false =>
    have e : isNms d lo hi = false := by cases d <;> first | rfl | exact absurd hb (by simp [tyB, biB])
    simp? [t1, hb, e]
  | true =>
    obtain ⟨xs, rfl⟩ := isTup_of h.1 hb
    simp? [t1, hb, Bool.false_or]
    have lo' : ∀ S, lcL (gN 3) bTrue (eCall d_is_name (aC (eV 3) aN)) xs [.val (.tup xs), .val (.int lo), .val (.int hi), .no] S = .ok (xs.map fun x => .bl (isNm x), S) := fun S =>
      lcL_mapD fun x m => ⟨_, rfl, by simp? [is_name_ok (h.2 xs (.inl rfl) x m)]⟩
    cases hc : (decide (lo ≤ (xs.length : Int)) && decide ((xs.length : Int) ≤ hi)) with
    | false => simp? [isNms, hc, Bool.false_and]
    | true =>
      have hl : xs.length ≤ 4000 := by
        simp only [Bool.and_eq_true, decide_eq_true_eq] at hc
        omega
      simp? [lo', allD_map, isNms, hc, Bool.true_and]
      cases ha : xs.all isNm with
      | false => simp? [Bool.false_and]
      | true => simp? [lenset_nms ha hl, eqD_i, set_len, Bool.true_and]
/-! ### tables, typed -/
abbrev nD (n : Nat) : D := .int (n : Nat)
def tuN (ns : List Nat) : D := .tup (ns.map nD)
abbrev Form := Nat × List Nat
def formD (f : Form) : D := .tup [nD f.1, tuN f.2]
def rowD (r : List Form) : D := .tup (r.map formD)
def rowsD (rs : List (List Form)) : D := .tup (rs.map rowD)
theorem nD_nat (n : Nat) : isNat (nD n) = true := decide_eq_true (Int.natCast_nonneg n)
theorem all_nD (ns : List Nat) : (ns.map nD).all isNat = true := by
  rw [List.all_map, List.all_eq_true]
  exact fun n _ => nD_nat n
theorem tame_nD (n : Nat) : tame (nD n) = true := rfl
theorem tame1_tuN (ns : List Nat) : tame1 (tuN ns) := ⟨rfl, fun xs h x m => by
  rcases h with h | h
  · cases h
    obtain ⟨n, _, rfl⟩ := List.mem_map.mp m
    exact ⟨rfl, fun z e => by cases e⟩
  · cases h⟩
theorem isNums_tuN (ns : List Nat) (k : Int) : isNums (tuN ns) k = decide ((ns.length : Int) = k) := by
  show (decide (((ns.map nD).length : Int) = k) && (ns.map nD).all isNat) = _
  rw [all_nD, Bool.and_true, List.length_map]
theorem at_map {α : Type} {xs : List α} {f : α → D} {k : Nat} {x : α} (h : xs[k]? = some x) : atI (xs.map f) (k : Int) = some (f x) :=
  GG.atI_nat (by rw [List.getElem?_map, h]; rfl)
theorem at_nD {xs : List Nat} {k : Nat} (h : k < xs.length) : atI (xs.map nD) (k : Int) = some (nD (xs.getD k 0)) := by
  rw [at_map (x := xs.getD k 0)]
  rw [List.getD_eq_getElem?_getD, List.getElem?_eq_getElem h]
  rfl
/-! ### kinds of statements -/
theorem kq (a b : Str) (ha : PyData.strOk a = true) (hb : PyData.strOk b = true) (k : Bool) (h : decide (a = b) = k) : eqD (.str a) (.str b) = some k := by rw [eqD_s ha hb, h]
theorem kq_zr : eqD (.str "zero") (.str "round") = some false := kq _ _ (by decide +kernel) (by decide +kernel) _ (by decide +kernel)
theorem kq_cr : eqD (.str "copy") (.str "round") = some false := kq _ _ (by decide +kernel) (by decide +kernel) _ (by decide +kernel)
theorem kq_mr : eqD (.str "more") (.str "round") = some false := kq _ _ (by decide +kernel) (by decide +kernel) _ (by decide +kernel)
theorem kq_rr : eqD (.str "round") (.str "round") = some true := kq _ _ (by decide +kernel) (by decide +kernel) _ (by decide +kernel)
theorem kq_zz : eqD (.str "zero") (.str "zero") = some true := kq _ _ (by decide +kernel) (by decide +kernel) _ (by decide +kernel)
theorem kq_cz : eqD (.str "copy") (.str "zero") = some false := kq _ _ (by decide +kernel) (by decide +kernel) _ (by decide +kernel)
theorem kq_mz : eqD (.str "more") (.str "zero") = some false := kq _ _ (by decide +kernel) (by decide +kernel) _ (by decide +kernel)
theorem kq_cc : eqD (.str "copy") (.str "copy") = some true := kq _ _ (by decide +kernel) (by decide +kernel) _ (by decide +kernel)
theorem kq_mc : eqD (.str "more") (.str "copy") = some false := kq _ _ (by decide +kernel) (by decide +kernel) _ (by decide +kernel)
theorem kq_zc : eqD (.str "zero") (.str "copy") = some false := kq _ _ (by decide +kernel) (by decide +kernel) _ (by decide +kernel)
theorem kq_mm : eqD (.str "more") (.str "more") = some true := kq _ _ (by decide +kernel) (by decide +kernel) _ (by decide +kernel)
theorem kn_zr : neD (.str "zero") (.str "round") = some true := by unfold neD; rw [kq_zr]; rfl
theorem kn_cr : neD (.str "copy") (.str "round") = some true := by unfold neD; rw [kq_cr]; rfl
theorem kn_mr : neD (.str "more") (.str "round") = some true := by unfold neD; rw [kq_mr]; rfl
theorem kn_rr : neD (.str "round") (.str "round") = some false := by unfold neD; rw [kq_rr]; rfl
theorem atI_last {α : Type} (xs : List α) (x : α) : atI (xs ++ [x]) (-1) = some x := by
  unfold atI ixN
  rw [if_neg (by decide), if_pos (by rw [List.length_append, List.length_singleton]; omega)]
  have e : ((-1 : Int) + ((xs ++ [x]).length : Nat)).toNat = xs.length := by rw [List.length_append, List.length_singleton]; omega
  rw [Option.bind_some, e, List.getElem?_append_right (Nat.le_refl _), Nat.sub_self]
  rfl
theorem sIx_n (n d k : Nat) (h : k ≤ n) : HT.sIx n d (some (k : Int)) = k := by
  rw [HT.sIx_nat]
  omega
theorem cut_from (xs : List D) (k : Nat) (h : k ≤ xs.length) : cutD xs (some (k : Int)) none = xs.drop k := by
  unfold cutD
  rw [sIx_n _ _ _ h]
  show (xs.drop k).take (xs.length - k) = _
  rw [← List.length_drop, List.take_length]
theorem cut_to (xs : List D) (k : Nat) : cutD xs none (some (k : Int)) = xs.take k := by
  unfold cutD
  show (xs.drop 0).take (HT.sIx xs.length xs.length (some (k : Int)) - 0) = _
  rw [List.drop_zero, Nat.sub_zero, HT.sIx_nat]
  by_cases h : k ≤ xs.length
  · rw [Nat.min_eq_left h]
  · rw [Nat.min_eq_right (by omega), List.take_length, List.take_of_length_le (by omega)]
theorem sl_from (x : D) (xs : List D) : sliceD (some 1) none (.tup (x :: xs)) = some (.tup xs) := by
  show some (D.tup (cutD (x :: xs) (some ((1 : Nat) : Int)) none)) = _
  rw [cut_from _ _ (by rw [List.length_cons]; omega)]
  rfl
theorem sl_12 (x y : D) (xs : List D) : sliceD (some 1) (some 2) (.tup (x :: y :: xs)) = some (.tup [y]) := by
  show some (D.tup (cutD (x :: y :: xs) (some ((1 : Nat) : Int)) (some ((2 : Nat) : Int)))) = _
  unfold cutD
  rw [sIx_n _ _ 1 (by rw [List.length_cons, List.length_cons]; omega), sIx_n _ _ 2 (by rw [List.length_cons, List.length_cons]; omega)]
  rfl
/-! ### texts, programs as data -/
abbrev strsT (xs : List Str) : D := .tup (xs.map D.str)
abbrev blkD (b : List Stm) : D := .tup (b.map stD)
abbrev prgD (c : Str) (g t : List Str) (b : List Stm) : D := .obj c ["given", "told", "block"] [strsT g, strsT t, blkD b]
theorem f_given (c : Str) (x y z : D) : fldD "given" (.obj c ["given", "told", "block"] [x, y, z]) = some x := rfl
theorem f_told (c : Str) (x y z : D) : fldD "told" (.obj c ["given", "told", "block"] [x, y, z]) = some y := rfl
theorem f_blk (c : Str) (x y z : D) : fldD "block" (.obj c ["given", "told", "block"] [x, y, z]) = some z := rfl
theorem set_rev {n : Nat} {S : Store} : True := trivial
end LW
end

section
set_option linter.all false
set_option maxRecDepth 100000
namespace LW
open PySem L2 GG
local macro_rules
  | `(tactic| simp? [$a,*] $[$l:location]?) => `(tactic| simp only [eC_a, eV_a, hE_a, hV_a, eH_a, eHB_a, eBin_a, eUn_a, eAnd_a, eOr_a, eNot_a, eIf_a, eCmp_a, eChain_a, aN_a, aC_a, eTup_a, eLst_a, eCall_a, eB_a, eFz_a, eAl_a, mLst_a, mLc_a, mLc2_a, mMk_a, mDic0_a, mList_a, eMeth_a, eIsi1_a, eIsi_a, eInH_a, eSl_a, oX_none, oX_some, bV_a, bT_a, bAnd_a, bOr_a, bNot_a, bTrue_a, iS_a, iEn_a, iZ_a, iR1_a, iR2_a, iR3_a, sSeq_a, sNil_a, sExpr_a, sRet_a, sRetN_a, sIf_a, sBrk_a, sCnt_a, sSet_a, sOwn_a, sFz_a, sFor_a, sMt_a, sFld_a, sAsg_a, sRaise_a, sTry_a, sMethO_a, endD_rt, endD_nx, endD_ex, bok, bex, oso, sok, sxc, cok, qnx, qrt, qbk, qct, qex, lnx, lct, lbk, lrt, lxc, oss, okk, obs, oms, add_i, sub_i, neg_i, lt_i, le_i, gt_i, ge_i, len_l, len_t, len_f, len_d, idx_l, idx_t, idx_f, walk_l, walk_t, walk_f, seq_l, seq_t, tuple_l, tuple_t, int_i, atI_0, atI_1, atI_2, dr_n, dr_b, dr_i, dr_s, dr_l, dr_t, dr_k, dr_f, dr_d, dr_o, dr_p, dr_w, now_l, now_d, now_o, frz_l, frz_d, frz_o, isL_l, frzAt, cu_p, cu_w, pu_p, pu_w, startD, startO, List.map_cons, List.map_nil, List.replicate, List.cons_append, List.nil_append, List.length_cons, List.length_nil, Nat.zero_add, Nat.reduceAdd, List.getElem?_cons_zero, List.getElem?_cons_succ, List.set_cons_zero, List.set_cons_succ, if_true, if_false, reduceIte, Bool.false_eq_true, bD_b, tru_n, tru_b, tru_l, tru_t, gN_a, gT_t, gAll_n, gAll_c, wipeD, ite_and, ite_or, ite_andB, ite_orB, szOk_0, szOk_1, szOk_2, szOk_3, szOk_4, Bool.not_true, Bool.not_false, Bool.true_and, Bool.and_true, Bool.false_and, Bool.and_false, Bool.true_or, Bool.or_true, Bool.false_or, Bool.or_false, decide_true, decide_false, tT, tAll, tN, tI, setI, sTry0_a, mSrt_a, mSrtTx_a, eEqO_a, tIK_a, now_td, frz_td, dr_td, idx_td, in_td, srt_td, $a,*] $[$l:location]?)
/-! ### names of a program -/
def expd : Stm → List Stm
  | .deed d => [.deed d]
  | .round x ds => .round x ds :: ds.map .deed
def nmo : Stm → List Str
  | .deed d => d.names
  | .round x _ => [x]
theorem ddD_k (d : Dd) : ∃ k xs, ddD d = .tup (.str k :: xs) ∧ eqD (.str k) (.str "round") = some false ∧ neD (.str k) (.str "round") = some true ∧ xs = d.names.map D.str := by
  cases d with
  | zero x => exact ⟨_, _, rfl, kq_zr, kn_zr, rfl⟩
  | copy x y => exact ⟨_, _, rfl, kq_cr, kn_cr, rfl⟩
  | more x => exact ⟨_, _, rfl, kq_mr, kn_mr, rfl⟩
theorem deeds_in_loop : ∀ (b : List Stm) (acc : List D) (x0 : D) (s2 : Slot) (S : Store), acc.length + (b.flatMap expd).length ≤ 1000000 → ∃ s2', forL (gN 2) L0_deeds_in (b.map stD) [.val x0, .own (.lst acc), s2] S = .nx [.val x0, .own (.lst (acc ++ (b.flatMap expd).map stD)), s2'] S
  | [], acc, x0, s2, S, _ => ⟨s2, by rw [List.map_nil, forL_nil, List.flatMap_nil, List.map_nil, List.append_nil]⟩
  | s :: b, acc, x0, s2, S, h => by
    rw [List.map_cons, forL_cons (ρ' := [.val x0, .own (.lst acc), .val (stD s)]) rfl]
    rw [List.flatMap_cons, List.length_append] at h
    have step : L0_deeds_in [.val x0, .own (.lst acc), .val (stD s)] S = .nx [.val x0, .own (.lst (acc ++ (expd s).map stD)), .val (stD s)] S := by
      unfold L0_deeds_in
      cases s with
      | deed d =>
        obtain ⟨k, xs, e, k1, _, _⟩ := ddD_k d
        have a : appD [stD (.deed d)] (.lst acc) = some (.lst (acc ++ [stD (.deed d)])) := app_l (by simp only [expd, List.length_singleton] at h; omega)
        have e' : stD (.deed d) = .tup (.str k :: xs) := e
        rw [e'] at a ⊢
        simp? [a, k1, expd, e']
      | round x ds =>
        have a : appD [stD (.round x ds)] (.lst acc) = some (.lst (acc ++ [stD (.round x ds)])) := app_l (by simp only [expd, List.length_cons] at h; omega)
        have x2 : extTD [.tup (ds.map ddD)] (.lst (acc ++ [stD (.round x ds)])) = some (.lst (acc ++ [stD (.round x ds)] ++ ds.map ddD)) := extT_l (by simp only [expd, List.length_cons, List.length_map] at h; rw [List.length_append, List.length_singleton, List.length_map]; omega)
        have e' : stD (.round x ds) = .tup [.str "round", .str x, .tup (ds.map ddD)] := rfl
        rw [e'] at a x2 ⊢
        simp? [a, x2, kq_rr, expd, e', List.map_map]
        rw [List.append_assoc]
        rfl
    rw [step, lnx]
    obtain ⟨s2', e⟩ := deeds_in_loop b (acc ++ (expd s).map stD) x0 (.val (stD s)) S (by rw [List.length_append, List.length_map]; omega)
    refine ⟨s2', ?_⟩
    rw [e, List.flatMap_cons, List.map_append, List.append_assoc]
theorem deeds_in_ok (b : List Stm) (h : (b.flatMap expd).length ≤ 1000000) (S : Store) : d_deeds_in [blkD b] S = .ok (.lst ((b.flatMap expd).map stD), S) := by
  unfold d_deeds_in b_deeds_in
  rw [runD_a (n := 1) rfl]
  obtain ⟨s2', e⟩ := deeds_in_loop b [] (blkD b) .no S (by simpa using h)
  simp? [e, List.nil_append]
theorem names_of_ok (s : Stm) (S : Store) : d_names_of [stD s] S = .ok (strsT (nmo s), S) := by
  unfold d_names_of b_names_of
  rw [runD_a (n := 1) rfl]
  cases s with
  | deed d =>
    obtain ⟨k, xs, e, k1, _, e2⟩ := ddD_k d
    have e' : stD (.deed d) = .tup (.str k :: xs) := e
    rw [e']
    simp? [k1, sl_from, e2, nmo]
  | round x ds =>
    have e' : stD (.round x ds) = .tup [.str "round", .str x, .tup (ds.map ddD)] := rfl
    rw [e']
    simp? [kq_rr, sl_12, nmo]
    rfl
def tru : Unit → D := fun _ => .bl true
abbrev onL (ns : List Str) : TDc := mkL tru ns fun _ => ()
theorem on_loop0 : ∀ (xs ns : List Str) (x0 s2 s3 : Slot) (S : Store), ns.length + xs.length ≤ 1000000 → ∃ s3', forL (gN 3) L0_names (xs.map D.str) [x0, .own (tdM (onL ns)), s2, s3] S = .nx [x0, .own (tdM (onL (xs.foldl addS ns))), s2, s3'] S
  | [], ns, x0, s2, s3, S, _ => ⟨s3, rfl⟩
  | x :: xs, ns, x0, s2, s3, S, h => by
    rw [List.length_cons] at h
    rw [List.map_cons, forL_cons (ρ' := [x0, .own (tdM (onL ns)), s2, .val (.str x)]) rfl]
    have st := set_td (l := onL ns) (by rw [mkL_len]; omega) x (.bl true)
    have pu : putS (onL ns) x (.bl true) = onL (addS ns x) := putS_add (enc := tru) (f := fun _ => ()) x
    have step : L0_names [x0, .own (tdM (onL ns)), s2, .val (.str x)] S = .nx [x0, .own (tdM (onL (addS ns x))), s2, .val (.str x)] S := by
      unfold L0_names
      simp? [st, pu]
    rw [step, lnx]
    obtain ⟨s3', e⟩ := on_loop0 xs (addS ns x) x0 s2 (.val (.str x)) S (by have := addS_le ns x; omega)
    exact ⟨s3', e⟩
theorem addS_fold_le : ∀ (xs ns : List Str), (xs.foldl addS ns).length ≤ ns.length + xs.length
  | [], _ => Nat.le_refl _
  | x :: xs, ns => by
    have := addS_fold_le xs (addS ns x)
    have := addS_le ns x
    rw [List.foldl_cons, List.length_cons]
    omega
theorem on_loop1 : ∀ (b : List Stm) (ns : List Str) (x0 s2 s3 : Slot) (S : Store), ns.length + (b.flatMap nmo).length ≤ 1000000 → ∃ s2' s3', forL (gN 2) L1_names (b.map stD) [x0, .own (tdM (onL ns)), s2, s3] S = .nx [x0, .own (tdM (onL ((b.flatMap nmo).foldl addS ns))), s2', s3'] S
  | [], ns, x0, s2, s3, S, _ => ⟨s2, s3, rfl⟩
  | s :: b, ns, x0, s2, s3, S, h => by
    rw [List.flatMap_cons, List.length_append] at h
    rw [List.map_cons, forL_cons (ρ' := [x0, .own (tdM (onL ns)), .val (stD s), s3]) rfl]
    obtain ⟨s3', e⟩ := on_loop0 (nmo s) ns x0 (.val (stD s)) s3 S (by omega)
    have step : L1_names [x0, .own (tdM (onL ns)), .val (stD s), s3] S = .nx [x0, .own (tdM (onL ((nmo s).foldl addS ns))), .val (stD s), s3'] S := by
      unfold L1_names
      simp? [names_of_ok, e]
    rw [step, lnx]
    obtain ⟨s2'', s3'', e2⟩ := on_loop1 b ((nmo s).foldl addS ns) x0 (.val (stD s)) s3' S (by have := addS_fold_le (nmo s) ns; omega)
    refine ⟨s2'', s3'', ?_⟩
    rw [e2, List.flatMap_cons, List.foldl_append]
/-- all names of a program, ascending -/
def nsOf (g t : List Str) (b : List Stm) : List Str := srtS (((b.flatMap expd).flatMap nmo).foldl addS (uq (g ++ t)))
theorem addS_mem {xs : List Str} : ∀ {ns : List Str} {y : Str}, y ∈ xs.foldl addS ns ↔ y ∈ ns ∨ y ∈ xs := by
  induction xs with
  | nil => intro ns y; simp
  | cons x xs ih =>
    intro ns y
    rw [List.foldl_cons, ih, List.mem_cons]
    unfold addS
    split
    · rename_i h
      constructor
      · rintro (a | a)
        · exact .inl a
        · exact .inr (.inr a)
      · rintro (a | rfl | a)
        · exact .inl a
        · exact .inl h
        · exact .inr a
    · rw [List.mem_append, List.mem_singleton]
      constructor
      · rintro ((a | a) | a)
        · exact .inl a
        · exact .inr (.inl a)
        · exact .inr (.inr a)
      · rintro (a | a | a)
        · exact .inl (.inl a)
        · exact .inl (.inr a)
        · exact .inr a
theorem addS_nd {ns : List Str} (x : Str) (h : ns.Nodup) : (addS ns x).Nodup := by
  unfold addS
  split
  · exact h
  · rename_i hx
    rw [List.nodup_append]
    exact ⟨h, by simp, fun a ha b hb e => by rw [List.mem_singleton] at hb; subst e; subst hb; exact hx ha⟩
theorem fold_nd : ∀ (xs : List Str) {ns : List Str}, ns.Nodup → (xs.foldl addS ns).Nodup
  | [], _, h => h
  | x :: xs, _, h => fold_nd xs (addS_nd x h)
theorem nsOf_nd (g t : List Str) (b : List Stm) : (nsOf g t b).Nodup := (srtS_perm _).nodup_iff.mpr (fold_nd _ (fold_nd (g ++ t) (ns := []) List.nodup_nil))
theorem expd_nmo (s : Stm) (y : Str) : y ∈ (expd s).flatMap nmo ↔ y ∈ s.names := by
  cases s with
  | deed d => simp [expd, nmo, Stm.names]
  | round x ds => simp [expd, nmo, Stm.names, List.flatMap_map, List.mem_flatMap]
theorem nsOf_mem {g t : List Str} {b : List Stm} {y : Str} : y ∈ nsOf g t b ↔ (y ∈ g ∨ y ∈ t) ∨ ∃ s ∈ b, y ∈ s.names := by
  unfold nsOf
  rw [(srtS_perm _).mem_iff, addS_mem, ← uq_fold, addS_mem, List.mem_append]
  have e : y ∈ (b.flatMap expd).flatMap nmo ↔ ∃ s ∈ b, y ∈ s.names := by
    rw [List.flatMap_assoc, List.mem_flatMap]
    constructor
    · rintro ⟨s, hs, h⟩; exact ⟨s, hs, (expd_nmo s y).mp h⟩
    · rintro ⟨s, hs, h⟩; exact ⟨s, hs, (expd_nmo s y).mpr h⟩
  rw [e]
  simp
theorem nsOf_le {g t : List Str} {b : List Stm} : (nsOf g t b).length ≤ g.length + t.length + ((b.flatMap expd).flatMap nmo).length := by
  unfold nsOf
  rw [(srtS_perm _).length_eq]
  have h1 := addS_fold_le ((b.flatMap expd).flatMap nmo) (uq (g ++ t))
  have h2 := GG.uq_le _ (g ++ t) rfl
  rw [List.length_append] at h2
  omega
/-- how great a program is -/
def szB (b : List Stm) : Nat := (b.flatMap expd).length + ((b.flatMap expd).flatMap nmo).length
theorem names_ok (c : Str) (g t : List Str) (b : List Stm) (h : g.length + t.length + szB b ≤ 1000000) (S : Store) : d_names [prgD c g t b] S = .ok (strsT (nsOf g t b), S) := by
  unfold szB at h
  unfold d_names b_names
  rw [runD_a (n := 1) rfl]
  have ad : addD (strsT g) (strsT t) = some (strsT (g ++ t)) := by
    show addD (.tup (g.map D.str)) (.tup (t.map D.str)) = _
    rw [add_t (by rw [List.length_map, List.length_map]; omega), ← List.map_append]
  have m := mDc_mk (enc := tru) (f := fun _ => ()) (i := iS (eBin addD (eH (hV 0) (fldD "given")) (eH (hV 0) (fldD "told")))) (n := gN 3) (k := eV 3) (e := eC (.bl true)) (vs := [3]) (ρ := [.val (prgD c g t b), .no, .no, .no]) (S := S) (S1 := S) (xs := g ++ t)
    (by simp? [f_given, f_told, ad]) (by rw [List.length_append]; omega) (fun x _ => ⟨_, rfl, rfl, rfl⟩)
  obtain ⟨s2, s3, e⟩ := on_loop1 (b.flatMap expd) (uq (g ++ t)) (.val (prgD c g t b)) .no .no S (by have h2 := GG.uq_le _ (g ++ t) rfl; rw [List.length_append] at h2; omega)
  have di := deeds_in_ok b (by omega) S
  simp? [m, f_blk, di, e, mkL_keys]
  rfl
end LW
end

section
set_option linter.all false
set_option maxRecDepth 100000
namespace LW
open PySem L2 GG
local macro_rules
  | `(tactic| simp? [$a,*] $[$l:location]?) => `(tactic| simp only [eC_a, eV_a, hE_a, hV_a, eH_a, eHB_a, eBin_a, eUn_a, eAnd_a, eOr_a, eNot_a, eIf_a, eCmp_a, eChain_a, aN_a, aC_a, eTup_a, eLst_a, eCall_a, eB_a, eFz_a, eAl_a, mLst_a, mLc_a, mLc2_a, mMk_a, mDic0_a, mList_a, eMeth_a, eIsi1_a, eIsi_a, eInH_a, eSl_a, oX_none, oX_some, bV_a, bT_a, bAnd_a, bOr_a, bNot_a, bTrue_a, iS_a, iEn_a, iZ_a, iR1_a, iR2_a, iR3_a, sSeq_a, sNil_a, sExpr_a, sRet_a, sRetN_a, sIf_a, sBrk_a, sCnt_a, sSet_a, sOwn_a, sFz_a, sFor_a, sMt_a, sFld_a, sAsg_a, sRaise_a, sTry_a, sMethO_a, endD_rt, endD_nx, endD_ex, bok, bex, oso, sok, sxc, cok, qnx, qrt, qbk, qct, qex, lnx, lct, lbk, lrt, lxc, oss, okk, obs, oms, add_i, sub_i, neg_i, lt_i, le_i, gt_i, ge_i, len_l, len_t, len_f, len_d, idx_l, idx_t, idx_f, walk_l, walk_t, walk_f, seq_l, seq_t, tuple_l, tuple_t, int_i, atI_0, atI_1, atI_2, dr_n, dr_b, dr_i, dr_s, dr_l, dr_t, dr_k, dr_f, dr_d, dr_o, dr_p, dr_w, now_l, now_d, now_o, frz_l, frz_d, frz_o, isL_l, frzAt, cu_p, cu_w, pu_p, pu_w, startD, startO, List.map_cons, List.map_nil, List.replicate, List.cons_append, List.nil_append, List.length_cons, List.length_nil, Nat.zero_add, Nat.reduceAdd, List.getElem?_cons_zero, List.getElem?_cons_succ, List.set_cons_zero, List.set_cons_succ, if_true, if_false, reduceIte, Bool.false_eq_true, bD_b, tru_n, tru_b, tru_l, tru_t, gN_a, gT_t, gAll_n, gAll_c, wipeD, ite_and, ite_or, ite_andB, ite_orB, szOk_0, szOk_1, szOk_2, szOk_3, szOk_4, Bool.not_true, Bool.not_false, Bool.true_and, Bool.and_true, Bool.false_and, Bool.and_false, Bool.true_or, Bool.or_true, Bool.false_or, Bool.or_false, decide_true, decide_false, tT, tAll, tN, tI, setI, sTry0_a, mSrt_a, mSrtTx_a, eEqO_a, tIK_a, now_td, frz_td, dr_td, idx_td, in_td, srt_td, $a,*] $[$l:location]?)
/-! ### pushes -/
abbrev pshD (ns : List Str) (p : Push) : D := tdD (mkL prs ns p)
abbrev nmsD (ns : List Str) (f : Nums) : D := tdD (mkL nD ns f)
theorem dr_tdm {ρ : LEnv} {S : Store} (l : TDc) : deref ρ S (.d (tdD l)) = some (tdD l) := rfl
section
variable {S : Store} {ns : List Str}
theorem push_step {p : Push} {d : Dd} {x0 x1 s4 s5 s6 : Slot} (hl : ns.length ≤ 1000000) (hd : ∀ x ∈ d.names, x ∈ ns) : ∃ s4' s5', L0_raw_push [x0, x1, .own (tdM (mkL prs ns p)), .val (ddD d), s4, s5, s6] S = .nx [x0, x1, .own (tdM (mkL prs ns (pD p d))), .val (ddD d), s4', s5', s6] S := by
  have st : ∀ x v, x ∈ ns → setIK (.str x) (prs v) (tdM (mkL prs ns p)) = some (tdM (mkL prs ns (ups p x v))) := fun x v hx => by rw [set_td (by rw [mkL_len]; omega), putS_mk hx]
  unfold L0_raw_push
  cases d with
  | zero x =>
    have hx := hd x (by simp [Dd.names])
    have e : ddD (.zero x) = .tup [.str "zero", .str x] := rfl
    have s1 := st x (none, 0) hx
    have pe : prs (none, 0) = .tup [.non, .int 0] := rfl
    rw [pe] at s1
    rw [e]
    refine ⟨s4, s5, ?_⟩
    simp? [kq_zz, s1, pD]
  | copy x y =>
    have hx := hd x (by simp [Dd.names])
    have hy := hd y (by simp [Dd.names])
    have e : ddD (.copy x y) = .tup [.str "copy", .str x, .str y] := rfl
    have s1 := st x (p y) hx
    have g1 := getS_mk (enc := prs) (f := p) hy
    rw [e]
    refine ⟨s4, s5, ?_⟩
    simp? [kq_cz, kq_cc, g1, s1, pD]
  | more x =>
    have hx := hd x (by simp [Dd.names])
    have e : ddD (.more x) = .tup [.str "more", .str x] := rfl
    have s1 := st x ((p x).1, (p x).2 + 1) hx
    have pe : prs ((p x).1, (p x).2 + 1) = .tup [srcD (p x).1, .int (((p x).2 : Nat) + 1)] := rfl
    rw [pe] at s1
    have g1 := getS_mk (enc := prs) (f := p) hx
    have pe2 : prs (p x) = .tup [srcD (p x).1, .int ((p x).2 : Nat)] := rfl
    rw [pe2] at g1
    rw [e]
    refine ⟨.val (srcD (p x).1), .val (.int ((p x).2 : Nat)), ?_⟩
    simp? [kq_mz, kq_mc, g1, s1, pD]
theorem push_loop : ∀ (ds : List Dd) (p : Push) (x0 x1 s3 s4 s5 s6 : Slot), ns.length ≤ 1000000 → (∀ d ∈ ds, ∀ x ∈ d.names, x ∈ ns) → ∃ s3' s4' s5', forL (gN 3) L0_raw_push (ds.map ddD) [x0, x1, .own (tdM (mkL prs ns p)), s3, s4, s5, s6] S = .nx [x0, x1, .own (tdM (mkL prs ns (ds.foldl pD p))), s3', s4', s5', s6] S
  | [], p, x0, x1, s3, s4, s5, s6, _, _ => ⟨s3, s4, s5, rfl⟩
  | d :: ds, p, x0, x1, s3, s4, s5, s6, hl, h => by
    rw [List.map_cons, forL_cons (ρ' := [x0, x1, .own (tdM (mkL prs ns p)), .val (ddD d), s4, s5, s6]) rfl]
    obtain ⟨a4, a5, e⟩ := push_step (S := S) (p := p) (x0 := x0) (x1 := x1) (s4 := s4) (s5 := s5) (s6 := s6) hl (h d List.mem_cons_self)
    rw [e, lnx]
    exact push_loop ds (pD p d) x0 x1 _ a4 a5 s6 hl fun e m => h e (.tail _ m)
theorem raw_push_ok (ds : List Dd) (hn : ns.Nodup) (hl : ns.length ≤ 1000000) (h : ∀ d ∈ ds, ∀ x ∈ d.names, x ∈ ns) : d_raw_push [strsT ns, .tup (ds.map ddD)] S = .ok (pshD ns (pDs ds), S) := by
  unfold d_raw_push b_raw_push
  rw [runD_a (n := 2) rfl]
  have m := mDc_mk (enc := prs) (f := p0) (i := iS (eV 0)) (n := gN 6) (k := eV 6) (e := eTup (aC (eV 6) (aC (eC (.int 0)) aN))) (vs := [6]) (ρ := [.val (strsT ns), .val (.tup (ds.map ddD)), .no, .no, .no, .no, .no]) (S := S) (S1 := S) (xs := ns)
    (by simp? []) (by omega) (fun x _ => ⟨_, rfl, rfl, by simp? []; rfl⟩)
  rw [uq_of_nodup hn] at m
  obtain ⟨s3, s4, s5, e⟩ := push_loop (S := S) ds p0 (.val (strsT ns)) (.val (.tup (ds.map ddD))) .no .no .no .no hl h
  simp? [m, e]
  rfl
theorem source_number_ok {f : Nums} (q : Option Str × Nat) (h : ∀ s, q.1 = some s → s ∈ ns) : d_source_number [nmsD ns f, prs q] S = .ok (nD (match q.1 with | none => q.2 | some s => f s + q.2), S) := by
  unfold d_source_number b_source_number
  rw [runD_a (n := 2) rfl]
  obtain ⟨a, k⟩ := q
  cases a with
  | none =>
    have e : prs (none, k) = .tup [.non, .int (k : Nat)] := rfl
    have i : isD .non .non = some true := rfl
    rw [e]
    simp? [i]
  | some s =>
    have e : prs (some s, k) = .tup [.str s, .int (k : Nat)] := rfl
    have i : isD (.str s) .non = some false := rfl
    have g := getS_mk (enc := nD) (f := f) (h s rfl)
    rw [e]
    simp? [i, g]
    rfl
theorem raw_pushed_ok {f : Nums} {p : Push} (hn : ns.Nodup) (hl : ns.length ≤ 1000000) (hp : PIn ns p) : d_raw_pushed [pshD ns p, nmsD ns f] S = .ok (nmsD ns (ap p f), S) := by
  unfold d_raw_pushed b_raw_pushed
  rw [runD_a (n := 2) rfl]
  have w := walk_td (l := mkL prs ns p) (by rw [mkL_len]; omega)
  rw [mkL_names] at w
  have m := mDc_mk (enc := nD) (f := ap p f) (i := iS (eV 0)) (n := gN 2) (k := eV 2) (e := eCall d_source_number (aC (eV 1) (aC (eHB (hV 0) (eV 2) idxD) aN))) (vs := [2]) (ρ := [.val (pshD ns p), .val (nmsD ns f), .no]) (S := S) (S1 := S) (xs := ns)
    (by simp? [w]) (by omega) (fun x hx => ⟨_, rfl, rfl, by
      have g := getS_mk (enc := prs) (f := p) hx
      have so := source_number_ok (S := S) (f := f) (p x) (hp x hx)
      simp? [g, so]
      rfl⟩)
  rw [uq_of_nodup hn] at m
  simp? [m]
theorem after_step {p q r : Push} {seen : List Str} {x : Str} {s3 s4 s5 : Slot} (hl : seen.length ≤ 1000000) (hx : x ∈ ns) (hq : PIn ns q) : ∃ s4' s5', L0_raw_after [.val (pshD ns p), .val (pshD ns q), .own (tdM (mkL prs seen (pAfter p q))), .val (.str x), s4, s5] S = .nx [.val (pshD ns p), .val (pshD ns q), .own (tdM (mkL prs (addS seen x) (pAfter p q))), .val (.str x), s4', s5'] S := by
  have st : setIK (.str x) (prs (pAfter p q x)) (tdM (mkL prs seen (pAfter p q))) = some (tdM (mkL prs (addS seen x) (pAfter p q))) := by rw [set_td (by rw [mkL_len]; omega), putS_add]
  have g1 := getS_mk (enc := prs) (f := q) hx
  have pe2 : prs (q x) = .tup [srcD (q x).1, .int ((q x).2 : Nat)] := rfl
  unfold L0_raw_after
  cases e : (q x).1 with
  | none =>
    have pe : prs (pAfter p q x) = .tup [.non, .int ((q x).2 : Nat)] := by simp only [pAfter, e]; rfl
    rw [pe] at st
    rw [pe2, e] at g1
    have i : isD (srcD none) .non = some true := rfl
    refine ⟨.val (srcD none), .val (.int ((q x).2 : Nat)), ?_⟩
    simp? [g1, i, st]
  | some s =>
    have hs := hq x hx s e
    have pe : prs (pAfter p q x) = .tup [srcD (p s).1, .int (((p s).2 : Nat) + ((q x).2 : Nat))] := by simp only [pAfter, e]; rfl
    rw [pe] at st
    rw [pe2, e] at g1
    have i : isD (srcD (some s)) .non = some false := rfl
    have g2 := getS_mk (enc := prs) (f := p) hs
    have pe3 : prs (p s) = .tup [srcD (p s).1, .int ((p s).2 : Nat)] := rfl
    rw [pe3] at g2
    have i2 : idxD (tdD (mkL prs ns p)) (srcD (some s)) = some (.tup [srcD (p s).1, .int ((p s).2 : Nat)]) := by rw [← g2]; exact idx_td _ _
    refine ⟨.val (srcD (some s)), .val (.int ((q x).2 : Nat)), ?_⟩
    simp? [g1, i, i2, st]
theorem after_loop {p q : Push} (hq : PIn ns q) : ∀ (xs seen : List Str) (s3 s4 s5 : Slot), (∀ x ∈ xs, x ∈ ns) → seen.length + xs.length ≤ 1000000 → ∃ s3' s4' s5', forL (gN 3) L0_raw_after (xs.map D.str) [.val (pshD ns p), .val (pshD ns q), .own (tdM (mkL prs seen (pAfter p q))), s3, s4, s5] S = .nx [.val (pshD ns p), .val (pshD ns q), .own (tdM (mkL prs (xs.foldl addS seen) (pAfter p q))), s3', s4', s5'] S
  | [], seen, s3, s4, s5, _, _ => ⟨s3, s4, s5, rfl⟩
  | x :: xs, seen, s3, s4, s5, hx, hl => by
    rw [List.length_cons] at hl
    rw [List.map_cons, forL_cons (ρ' := [.val (pshD ns p), .val (pshD ns q), .own (tdM (mkL prs seen (pAfter p q))), .val (.str x), s4, s5]) rfl]
    obtain ⟨a4, a5, e⟩ := after_step (S := S) (p := p) (q := q) (r := q) (seen := seen) (s3 := s3) (s4 := s4) (s5 := s5) (by omega) (hx x List.mem_cons_self) hq
    rw [e, lnx]
    exact after_loop hq xs (addS seen x) _ a4 a5 (fun y m => hx y (.tail _ m)) (by have := addS_le seen x; omega)
theorem raw_after_ok {p q : Push} (hn : ns.Nodup) (hl : ns.length ≤ 1000000) (hq : PIn ns q) : d_raw_after [pshD ns p, pshD ns q] S = .ok (pshD ns (pAfter p q), S) := by
  unfold d_raw_after b_raw_after
  rw [runD_a (n := 2) rfl]
  have w := walk_td (l := mkL prs ns q) (by rw [mkL_len]; omega)
  rw [mkL_names] at w
  obtain ⟨s3, s4, s5, e⟩ := after_loop (S := S) (p := p) hq ns [] .no .no .no (fun _ h => h) (by simpa using hl)
  rw [show tdM (mkL prs [] (pAfter p q)) = MO.dic [] [] from rfl, uq_fold, uq_of_nodup hn] at e
  simp? [w, e]
theorem times_loop (hn : ns.Nodup) (hl : ns.length ≤ 1000000) : ∀ (k left : Nat) (found power : Push) (x0 x1 s5 : Slot), left < 2 ^ k → PIn ns found → PIn ns power → ∃ s3' s4', sWhile (bV (eCmp gtD (eV 4) (eC (.int 0)))) W0_raw_times [x0, x1, .val (pshD ns found), .val (pshD ns power), .val (nD left), s5] S = .nx [x0, x1, .val (pshD ns (pTimes k left found power)), s3', s4', s5] S ∧ PIn ns (pTimes k left found power)
  | 0, left, found, power, x0, x1, s5, h, hf, hp => by
    have : left = 0 := by simpa using h
    subst this
    exact ⟨_, _, by rw [while_f (S' := S) (by simp? []; rfl)]; rfl, hf⟩
  | k + 1, left, found, power, x0, x1, s5, h, hf, hp => by
    by_cases hz : left = 0
    · subst hz
      refine ⟨_, _, by rw [while_f (S' := S) (by simp? []; rfl)]; rfl, ?_⟩
      unfold pTimes
      rw [if_pos rfl]
      exact hf
    · have t : bV (eCmp gtD (eV 4) (eC (.int 0))) [x0, x1, .val (pshD ns found), .val (pshD ns power), .val (nD left), s5] S = .ok (true, S) := by
        have : decide ((0 : Int) < (left : Nat)) = true := decide_eq_true (by omega)
        simp? [this]
      rw [while_t t]
      have a1 := raw_after_ok (S := S) (p := found) hn hl hp
      have a2 := raw_after_ok (S := S) (p := power) hn hl hp
      have md : modD (.int (left : Nat)) (.int 2) = some (.int ((left % 2 : Nat) : Int)) := by rw [mod_i (by decide)]; rfl
      have fd : fdivD (.int (left : Nat)) (.int 2) = some (.int ((left / 2 : Nat) : Int)) := by rw [fdiv_i (by decide +kernel)]; rfl
      have st : W0_raw_times [x0, x1, .val (pshD ns found), .val (pshD ns power), .val (nD left), s5] S = .nx [x0, x1, .val (pshD ns (if left % 2 = 1 then pAfter found power else found)), .val (pshD ns (pAfter power power)), .val (nD (left / 2)), s5] S := by
        unfold W0_raw_times
        have eq1 := eqD_i ((left % 2 : Nat) : Int) 1
        by_cases ho : left % 2 = 1
        · rw [if_pos ho]
          rw [decide_eq_true (by omega)] at eq1
          simp? [md, eq1, a1, a2, fd]
        · rw [if_neg ho]
          rw [decide_eq_false (by omega)] at eq1
          simp? [md, eq1, a2, fd]
      rw [st, lnx]
      unfold pTimes
      rw [if_neg hz]
      refine times_loop hn hl k (left / 2) _ _ x0 x1 s5 (by rw [Nat.pow_succ] at h; omega) ?_ (pin_after hp hp)
      split
      · exact pin_after hf hp
      · exact hf
theorem raw_times_ok (hn : ns.Nodup) (hl : ns.length ≤ 1000000) {p : Push} (hp : PIn ns p) (many : Nat) : ∃ r, d_raw_times [pshD ns p, nD many] S = .ok (pshD ns r, S) ∧ PIn ns r ∧ ∀ f, ap r f = iter (ap p) many f := by
  have w := walk_td (l := mkL prs ns p) (by rw [mkL_len]; omega)
  rw [mkL_names] at w
  have m := mDc_mk (enc := prs) (f := p0) (i := iS (eV 0)) (n := gN 5) (k := eV 5) (e := eTup (aC (eV 5) (aC (eC (.int 0)) aN))) (vs := [5]) (ρ := [.val (pshD ns p), .val (nD many), .no, .no, .no, .no]) (S := S) (S1 := S) (xs := ns)
    (by simp? [w]) (by omega) (fun x _ => ⟨_, rfl, rfl, by simp? []; rfl⟩)
  rw [uq_of_nodup hn] at m
  have hk : many < 2 ^ (many + 1) := Nat.lt_of_lt_of_le Nat.lt_two_pow_self (Nat.pow_le_pow_right (by decide) (Nat.le_succ _))
  obtain ⟨s3, s4, e, pi⟩ := times_loop (S := S) hn hl (many + 1) many p0 p (.val (pshD ns p)) (.val (nD many)) .no hk (pin_0 ns) hp
  refine ⟨_, ?_, pi, fun f => by rw [ap_times _ _ _ _ _ hk, ap_0]⟩
  unfold d_raw_times b_raw_times
  rw [runD_a (n := 2) rfl]
  simp? [m, e]
end
end LW
end

section
set_option linter.all false
set_option maxRecDepth 100000
namespace LW
open PySem L2 GG
local macro_rules
  | `(tactic| simp? [$a,*] $[$l:location]?) => `(tactic| simp only [eC_a, eV_a, hE_a, hV_a, eH_a, eHB_a, eBin_a, eUn_a, eAnd_a, eOr_a, eNot_a, eIf_a, eCmp_a, eChain_a, aN_a, aC_a, eTup_a, eLst_a, eCall_a, eB_a, eFz_a, eAl_a, mLst_a, mLc_a, mLc2_a, mMk_a, mDic0_a, mList_a, eMeth_a, eIsi1_a, eIsi_a, eInH_a, eSl_a, oX_none, oX_some, bV_a, bT_a, bAnd_a, bOr_a, bNot_a, bTrue_a, iS_a, iEn_a, iZ_a, iR1_a, iR2_a, iR3_a, sSeq_a, sNil_a, sExpr_a, sRet_a, sRetN_a, sIf_a, sBrk_a, sCnt_a, sSet_a, sOwn_a, sFz_a, sFor_a, sMt_a, sFld_a, sAsg_a, sRaise_a, sTry_a, sMethO_a, endD_rt, endD_nx, endD_ex, bok, bex, oso, sok, sxc, cok, qnx, qrt, qbk, qct, qex, lnx, lct, lbk, lrt, lxc, oss, okk, obs, oms, add_i, sub_i, neg_i, lt_i, le_i, gt_i, ge_i, len_l, len_t, len_f, len_d, idx_l, idx_t, idx_f, walk_l, walk_t, walk_f, seq_l, seq_t, tuple_l, tuple_t, int_i, atI_0, atI_1, atI_2, dr_n, dr_b, dr_i, dr_s, dr_l, dr_t, dr_k, dr_f, dr_d, dr_o, dr_p, dr_w, now_l, now_d, now_o, frz_l, frz_d, frz_o, isL_l, frzAt, cu_p, cu_w, pu_p, pu_w, startD, startO, List.map_cons, List.map_nil, List.replicate, List.cons_append, List.nil_append, List.length_cons, List.length_nil, Nat.zero_add, Nat.reduceAdd, List.getElem?_cons_zero, List.getElem?_cons_succ, List.set_cons_zero, List.set_cons_succ, if_true, if_false, reduceIte, Bool.false_eq_true, bD_b, tru_n, tru_b, tru_l, tru_t, gN_a, gT_t, gAll_n, gAll_c, wipeD, ite_and, ite_or, ite_andB, ite_orB, szOk_0, szOk_1, szOk_2, szOk_3, szOk_4, Bool.not_true, Bool.not_false, Bool.true_and, Bool.and_true, Bool.false_and, Bool.and_false, Bool.true_or, Bool.or_true, Bool.false_or, Bool.or_false, decide_true, decide_false, tT, tAll, tN, tI, setI, sTry0_a, mSrt_a, mSrtTx_a, eEqO_a, tIK_a, now_td, frz_td, dr_td, idx_td, in_td, srt_td, $a,*] $[$l:location]?)
/-! ### runs -/
def f0L (g : List Str) (as : List Nat) (f : Nums) : Nums := (g.zip as).foldl (fun f q => ups f q.1 q.2) f
/-- the numbers at first -/
def f0 (g : List Str) (as : List Nat) : Nums := f0L g as fun _ => 0
def FitB : List Stm → Nums → Prop
  | [], _ => True
  | s :: b, f => (∀ x, f x < 2 ^ 900000) ∧ s.len ≤ 1000000 ∧ FitB b (doS s f)
def cntB : List Stm → Nums → Nat
  | [], _ => 0
  | s :: b, f => manyS s f + cntB b (doS s f)
theorem fitB_of : ∀ (b : List Stm) {f : Nums} {M L : Nat}, Bd f M → L ≤ 1000000 → (∀ s ∈ b, s.len ≤ L) → (M + 1) * (L + 2) ^ b.length ≤ 2 ^ 900000 → FitB b f
  | [], _, _, _, _, _, _, _ => trivial
  | s :: b, f, M, L, h, hL, hs, hM => by
    have p1 : 1 ≤ (L + 2) ^ (s :: b).length := Nat.one_le_pow _ _ (by omega)
    have p2 : M + 1 ≤ 2 ^ 900000 := Nat.le_trans (Nat.le_mul_of_pos_right _ p1) hM
    have ls := hs s List.mem_cons_self
    refine ⟨fun x => Nat.lt_of_lt_of_le (Nat.lt_succ_of_le (h x)) p2, Nat.le_trans ls hL, fitB_of b (bd_S s ls h) hL (fun e m => hs e (.tail _ m)) ?_⟩
    refine Nat.le_trans ?_ hM
    rw [List.length_cons, Nat.pow_succ, Nat.mul_comm ((L + 2) ^ b.length) (L + 2), ← Nat.mul_assoc]
    refine Nat.mul_le_mul_right _ ?_
    rw [Nat.mul_add (M + 1) (L + 1) 1, Nat.mul_one]
    omega
theorem mulN {a b : Nat} (ha : a < 2 ^ 900000) (hb : b ≤ 1000000) : mulD (nD a) (nD b) = some (nD (a * b)) := by
  have la : ((a : Nat) : Int).natAbs.log2 < 900000 := by
    rw [Int.natAbs_natCast]
    by_cases h : a = 0
    · subst h; decide
    · exact (Nat.log2_lt h).mpr ha
  have lb : ((b : Nat) : Int).natAbs.log2 < 30 := by
    rw [Int.natAbs_natCast]
    by_cases h : b = 0
    · subst h; decide
    · exact (Nat.log2_lt h).mpr (by omega)
  show mulD (.int (a : Nat)) (.int (b : Nat)) = _
  rw [mul_i (by unfold mulOk; exact decide_eq_true (by omega))]
  rfl
section
variable {S : Store} {ns : List Str}
theorem first_loop {x0 : Slot} {as : List Nat} : ∀ (g : List Str) (k : Nat) (f : Nums) (s3 s4 : Slot), ns.length ≤ 1000000 → (∀ x ∈ g, x ∈ ns) → g.length + k = as.length → ∃ s3' s4', forL (gT [(gN 3), (gN 4)]) L0_first_numbers (((g.map D.str).zipIdx k).map fun q => .tup [.int (q.2 : Nat), q.1]) [x0, .val (tuN as), .own (tdM (mkL nD ns f)), s3, s4] S = .nx [x0, .val (tuN as), .own (tdM (mkL nD ns (f0L g (as.drop k) f))), s3', s4'] S
  | [], k, f, s3, s4, _, _, hk => ⟨s3, s4, by simp [f0L, forL_nil]⟩
  | x :: g, k, f, s3, s4, hl, hx, hk => by
    rw [List.length_cons] at hk
    have lt : k < as.length := by omega
    rw [List.map_cons, List.zipIdx_cons, List.map_cons, forL_cons (ρ' := [x0, .val (tuN as), .own (tdM (mkL nD ns f)), .val (nD k), .val (.str x)]) rfl]
    have st : setIK (.str x) (nD (as.getD k 0)) (tdM (mkL nD ns f)) = some (tdM (mkL nD ns (ups f x (as.getD k 0)))) := by rw [set_td (by rw [mkL_len]; omega), putS_mk (hx x List.mem_cons_self)]
    have i := at_nD (xs := as) lt
    have dr : ∀ ρ S, deref ρ S (.d (tuN as)) = some (.tup (as.map nD)) := fun _ _ => rfl
    have step : L0_first_numbers [x0, .val (tuN as), .own (tdM (mkL nD ns f)), .val (nD k), .val (.str x)] S = .nx [x0, .val (tuN as), .own (tdM (mkL nD ns (ups f x (as.getD k 0)))), .val (nD k), .val (.str x)] S := by
      unfold L0_first_numbers
      simp? [dr, i, st]
    rw [step, lnx]
    obtain ⟨s3', s4', e⟩ := first_loop (x0 := x0) (as := as) g (k + 1) (ups f x (as.getD k 0)) (.val (nD k)) (.val (.str x)) hl (fun y m => hx y (.tail _ m)) (by omega)
    refine ⟨s3', s4', ?_⟩
    rw [e]
    have hd : as.drop k = as.getD k 0 :: as.drop (k + 1) := by
      rw [List.drop_eq_getElem_cons lt]
      congr 1
      rw [List.getD_eq_getElem?_getD, List.getElem?_eq_getElem lt]
      rfl
    rw [hd]
    rfl
end
/-- a program that is not too great, and an input of it -/
structure Run (g t : List Str) (b : List Stm) (as : List Nat) : Prop where
  sz : g.length + t.length + szB b ≤ 1000000
  ln : as.length = g.length
  fit : FitB b (f0 g as)
  bl : b.length ≤ 1000000
section
variable {S : Store} {c : Str} {g t : List Str} {b : List Stm} {as : List Nat}
theorem ns_le (r : Run g t b as) : (nsOf g t b).length ≤ 1000000 := by
  have := nsOf_le (g := g) (t := t) (b := b)
  have := r.sz
  unfold szB at this
  omega
theorem first_numbers_ok (r : Run g t b as) : d_first_numbers [prgD c g t b, tuN as] S = .ok (nmsD (nsOf g t b) (f0 g as), S) := by
  unfold d_first_numbers b_first_numbers
  rw [runD_a (n := 2) rfl]
  have nk := names_ok c g t b r.sz
  have m := mDc_mk (enc := nD) (f := fun _ => 0) (i := iS (eCall d_names (aC (eV 0) aN))) (n := gN 4) (k := eV 4) (e := eC (.int 0)) (vs := [4]) (ρ := [.val (prgD c g t b), .val (tuN as), .no, .no, .no]) (S := S) (S1 := S) (xs := nsOf g t b)
    (by simp? [nk]) (by have := ns_le r; omega) (fun x _ => ⟨_, rfl, rfl, rfl⟩)
  rw [uq_of_nodup (nsOf_nd g t b)] at m
  obtain ⟨s3, s4, e⟩ := first_loop (S := S) (ns := nsOf g t b) (x0 := .val (prgD c g t b)) (as := as) g 0 (fun _ => 0) .no .no (ns_le r) (fun x hx => nsOf_mem.mpr (.inl (.inl hx))) (by have := r.ln; omega)
  rw [List.drop_zero] at e
  simp? [m, f_given, e]
  rfl
theorem statement_done_ok {ns : List Str} {f : Nums} (s : Stm) (hn : ns.Nodup) (hl : ns.length ≤ 1000000) (hs : ∀ x ∈ s.names, x ∈ ns) (hb : ∀ x, f x < 2 ^ 900000) (hz : s.len ≤ 1000000) : d_statement_done [stD s, nmsD ns f] S = .ok (.tup [nD (manyS s f), nmsD ns (doS s f)], S) := by
  unfold d_statement_done b_statement_done
  rw [runD_a (n := 2) rfl]
  have tk := tupK_td (l := mkL nD ns f) (by rw [mkL_len]; omega)
  rw [mkL_names] at tk
  cases s with
  | deed d =>
    obtain ⟨k, xs, e, _, k2, _⟩ := ddD_k d
    have h1 : ∀ d' ∈ [d], ∀ x ∈ d'.names, x ∈ ns := fun d' m x hx => by rw [List.mem_singleton] at m; subst m; exact hs x hx
    have rp := raw_push_ok (S := S) [d] hn hl h1
    have pu := raw_pushed_ok (S := S) (f := f) (p := pDs [d]) hn hl (pin_fold (pin_0 ns) h1)
    rw [ap_Ds] at pu
    have e' : stD (.deed d) = .tup (.str k :: xs) := e
    have e2 : D.tup ([d].map ddD) = .tup [.tup (.str k :: xs)] := by rw [List.map_singleton, e]
    rw [e2] at rp
    rw [e']
    simp? [tk, k2, rp, pu]
    rfl
  | round x ds =>
    have h1 : ∀ d' ∈ ds, ∀ x ∈ d'.names, x ∈ ns := fun d' m y hy => hs y (by simp only [Stm.names, List.mem_cons, List.mem_flatMap]; exact .inr ⟨d', m, hy⟩)
    have hx : x ∈ ns := hs x (by simp [Stm.names])
    have rp := raw_push_ok (S := S) ds hn hl h1
    have pi : PIn ns (pDs ds) := pin_fold (pin_0 ns) h1
    obtain ⟨q, rt, pq, aq⟩ := raw_times_ok (S := S) hn hl pi (f x)
    have pu := raw_pushed_ok (S := S) (f := f) (p := q) hn hl pq
    have gx := getS_mk (enc := nD) (f := f) hx
    have e' : stD (.round x ds) = .tup [.str "round", .str x, .tup (ds.map ddD)] := rfl
    have ml := mulN (b := ds.length) (hb x) hz
    have ln : (((ds.map ddD).length : Nat) : Int) = (ds.length : Nat) := by rw [List.length_map]
    have ap1 : ap q f = doS (.round x ds) f := by
      rw [aq]
      show iter (ap (pDs ds)) (f x) f = iter (doDs ds) (f x) f
      congr 1
      funext h
      exact ap_Ds ds h
    rw [ap1] at pu
    rw [e']
    simp? [tk, kn_rr, gx, rp, rt, ln, ml, pu]
    rfl
theorem parts_loop {ns : List Str} {x0 x1 : Slot} (hn : ns.Nodup) (hl : ns.length ≤ 1000000) : ∀ (b : List Stm) (acc : List D) (k : Nat) (f : Nums) (s3 s4 s5 s6 s7 : Slot), (∀ s ∈ b, ∀ x ∈ s.names, x ∈ ns) → FitB b f → acc.length + b.length ≤ 2000000 →
    ∃ acc' s3' s4' s5' s6' s7', forL (gN 3) L0_parts (b.map stD) [x0, x1, .own (.lst (acc ++ [.tup [nD k, nmsD ns f]])), s3, s4, s5, s6, s7] S = .nx [x0, x1, .own (.lst (acc' ++ [.tup [nD (k + cntB b f), nmsD ns (runB b f)]])), s3', s4', s5', s6', s7'] S
  | [], acc, k, f, s3, s4, s5, s6, s7, _, _, _ => ⟨acc, s3, s4, s5, s6, s7, rfl⟩
  | s :: b, acc, k, f, s3, s4, s5, s6, s7, hs, hf, ha => by
    rw [List.length_cons] at ha
    obtain ⟨h1, h2, h3⟩ := hf
    rw [List.map_cons, forL_cons (ρ' := [x0, x1, .own (.lst (acc ++ [.tup [nD k, nmsD ns f]])), .val (stD s), s4, s5, s6, s7]) rfl]
    have sd := statement_done_ok (S := S) s hn hl (hs s List.mem_cons_self) h1 h2
    have la := atI_last acc (.tup [nD k, nmsD ns f])
    have ap := app_l (xs := acc ++ [.tup [nD k, nmsD ns f]]) (d := .tup [.int ((k : Nat) + (manyS s f : Nat)), nmsD ns (doS s f)]) (by rw [List.length_append, List.length_singleton]; omega)
    have step : L0_parts [x0, x1, .own (.lst (acc ++ [.tup [nD k, nmsD ns f]])), .val (stD s), s4, s5, s6, s7] S = .nx [x0, x1, .own (.lst (acc ++ [.tup [nD k, nmsD ns f]] ++ [.tup [.int ((k : Nat) + (manyS s f : Nat)), nmsD ns (doS s f)]])), .val (stD s), .val (nD k), .val (nmsD ns f), .val (nD (manyS s f)), .val (nmsD ns (doS s f))] S := by
      unfold L0_parts
      simp? [la, sd, ap]
    rw [step, lnx]
    obtain ⟨acc', a3, a4, a5, a6, a7, e⟩ := parts_loop (x0 := x0) (x1 := x1) hn hl b (acc ++ [.tup [nD k, nmsD ns f]]) (k + manyS s f) (doS s f) (.val (stD s)) (.val (nD k)) (.val (nmsD ns f)) (.val (nD (manyS s f))) (.val (nmsD ns (doS s f))) (fun e m => hs e (.tail _ m)) h3 (by rw [List.length_append, List.length_singleton]; omega)
    refine ⟨acc', a3, a4, a5, a6, a7, ?_⟩
    have en : nD (k + manyS s f) = .int ((k : Nat) + (manyS s f : Nat)) := by
      show D.int ((k + manyS s f : Nat) : Int) = _
      rw [Int.natCast_add]
    rw [en] at e
    rw [e]
    show _ = SOut.nx [x0, x1, .own (.lst (acc' ++ [.tup [nD (k + (manyS s f + cntB b (doS s f))), nmsD ns (runB b (doS s f))]])), a3, a4, a5, a6, a7] S
    rw [Nat.add_assoc]
theorem parts_ok (r : Run g t b as) : ∃ acc, d_parts [prgD c g t b, tuN as] S = .ok (.lst (acc ++ [.tup [nD (cntB b (f0 g as)), nmsD (nsOf g t b) (runB b (f0 g as))]]), S) := by
  obtain ⟨acc', a3, a4, a5, a6, a7, e⟩ := parts_loop (S := S) (x0 := .val (prgD c g t b)) (x1 := .val (tuN as)) (nsOf_nd g t b) (ns_le r) b [] 0 (f0 g as) .no .no .no .no .no (fun s hs x hx => nsOf_mem.mpr (.inr ⟨s, hs, hx⟩)) r.fit (by have := r.bl; simp; omega)
  rw [Nat.zero_add, List.nil_append] at e
  refine ⟨acc', ?_⟩
  unfold d_parts b_parts
  rw [runD_a (n := 2) rfl]
  have fn := first_numbers_ok (S := S) (c := c) r
  simp? [fn, f_blk]
  rw [show nD 0 = D.int 0 from rfl] at e
  simp? [e]
theorem raw_last_ok (r : Run g t b as) : d_raw_last [prgD c g t b, tuN as] S = .ok (nmsD (nsOf g t b) (runB b (f0 g as)), S) := by
  obtain ⟨acc, e⟩ := parts_ok (S := S) (c := c) r
  unfold d_raw_last b_raw_last
  rw [runD_a (n := 2) rfl]
  have la := atI_last acc (.tup [nD (cntB b (f0 g as)), nmsD (nsOf g t b) (runB b (f0 g as))])
  simp? [e, la]
theorem raw_results_ok (r : Run g t b as) : d_raw_results [prgD c g t b, tuN as] S = .ok (tuN (t.map (runB b (f0 g as))), S) := by
  unfold d_raw_results b_raw_results
  rw [runD_a (n := 2) rfl]
  have rl := raw_last_ok (S := S) (c := c) r
  have lo : ∀ S, lcL (gN 3) bTrue (eHB (hV 2) (eV 3) idxD) (t.map D.str) [.val (prgD c g t b), .val (tuN as), .val (nmsD (nsOf g t b) (runB b (f0 g as))), .no] S = .ok (t.map fun x => nD (runB b (f0 g as) x), S) := fun S =>
    lcL_map fun x hx => ⟨_, rfl, by
      have gx := getS_mk (enc := nD) (f := runB b (f0 g as)) (show x ∈ nsOf g t b from nsOf_mem.mpr (.inl (.inr hx)))
      simp? [gx]⟩
  simp? [rl, f_told, lo]
  unfold tuN
  rw [List.map_map]
  rfl
theorem check_input_ok (h : as.length = g.length) : d_check_input [tuN as, .int (g.length : Nat)] S = .ok (.non, S) := by
  unfold d_check_input b_check_input
  rw [runD_a (n := 2) rfl]
  have e := are_numbers_ok (tame1_tuN as) g.length S
  rw [isNums_tuN, decide_eq_true (by omega)] at e
  simp? [e]
theorem results_ok (r : Run g t b as) : d_results [prgD c g t b, tuN as] S = .ok (tuN (t.map (runB b (f0 g as))), S) := by
  unfold d_results b_results
  rw [runD_a (n := 2) rfl]
  have ci := check_input_ok (S := S) (g := g) r.ln
  have rr := raw_results_ok (S := S) (c := c) r
  simp? [f_given, List.length_map, ci, rr]
end
end LW
end

section
set_option linter.all false
set_option maxRecDepth 100000
namespace LW
open PySem L2 GG
local macro_rules
  | `(tactic| simp? [$a,*] $[$l:location]?) => `(tactic| simp only [eC_a, eV_a, hE_a, hV_a, eH_a, eHB_a, eBin_a, eUn_a, eAnd_a, eOr_a, eNot_a, eIf_a, eCmp_a, eChain_a, aN_a, aC_a, eTup_a, eLst_a, eCall_a, eB_a, eFz_a, eAl_a, mLst_a, mLc_a, mLc2_a, mMk_a, mDic0_a, mList_a, eMeth_a, eIsi1_a, eIsi_a, eInH_a, eSl_a, oX_none, oX_some, bV_a, bT_a, bAnd_a, bOr_a, bNot_a, bTrue_a, iS_a, iEn_a, iZ_a, iR1_a, iR2_a, iR3_a, sSeq_a, sNil_a, sExpr_a, sRet_a, sRetN_a, sIf_a, sBrk_a, sCnt_a, sSet_a, sOwn_a, sFz_a, sFor_a, sMt_a, sFld_a, sAsg_a, sRaise_a, sTry_a, sMethO_a, endD_rt, endD_nx, endD_ex, bok, bex, oso, sok, sxc, cok, qnx, qrt, qbk, qct, qex, lnx, lct, lbk, lrt, lxc, oss, okk, obs, oms, add_i, sub_i, neg_i, lt_i, le_i, gt_i, ge_i, len_l, len_t, len_f, len_d, idx_l, idx_t, idx_f, walk_l, walk_t, walk_f, seq_l, seq_t, tuple_l, tuple_t, int_i, atI_0, atI_1, atI_2, dr_n, dr_b, dr_i, dr_s, dr_l, dr_t, dr_k, dr_f, dr_d, dr_o, dr_p, dr_w, now_l, now_d, now_o, frz_l, frz_d, frz_o, isL_l, frzAt, cu_p, cu_w, pu_p, pu_w, startD, startO, List.map_cons, List.map_nil, List.replicate, List.cons_append, List.nil_append, List.length_cons, List.length_nil, Nat.zero_add, Nat.reduceAdd, List.getElem?_cons_zero, List.getElem?_cons_succ, List.set_cons_zero, List.set_cons_succ, if_true, if_false, reduceIte, Bool.false_eq_true, bD_b, tru_n, tru_b, tru_l, tru_t, gN_a, gT_t, gAll_n, gAll_c, wipeD, ite_and, ite_or, ite_andB, ite_orB, szOk_0, szOk_1, szOk_2, szOk_3, szOk_4, Bool.not_true, Bool.not_false, Bool.true_and, Bool.and_true, Bool.false_and, Bool.and_false, Bool.true_or, Bool.or_true, Bool.false_or, Bool.or_false, decide_true, decide_false, tT, tAll, tN, tI, setI, sTry0_a, mSrt_a, mSrtTx_a, eEqO_a, tIK_a, now_td, frz_td, dr_td, idx_td, in_td, srt_td, $a,*] $[$l:location]?)
/-! ### a program's parts are right -/
def base8 : List Str := ["a", "b", "c", "d", "e", "x", "yy", "half"]
def isN (z : Str) : Prop := isNm (.str z) = true ∧ z.length ≤ 8
theorem base8_nm : ∀ z ∈ base8, isN z := by
  intro z hz
  simp only [base8, List.mem_cons, List.not_mem_nil, or_false] at hz
  unfold isN
  rcases hz with rfl | rfl | rfl | rfl | rfl | rfl | rfl | rfl <;> decide +kernel
theorem isN_name {z : Str} (h : isN z) (S : Store) : d_is_name [.str z] S = .ok (.bl true, S) := by
  have e := is_name_ok (d := .str z) ⟨rfl, fun y e => by cases e; have := h.2; omega⟩ S
  rw [h.1] at e
  exact e
theorem isi_tup (xs : List D) (S : Store) : ((typN S (.tup xs)).bind fun u => isOne ctab u (.ty "tuple")) = some true := isi_tame (d := .tup xs) rfl (by decide) S
theorem isi_str (z : Str) (S : Store) : ((typN S (.str z)).bind fun u => isOne ctab u (.ty "str")) = some true := isi_tame (d := .str z) rfl (by decide) S
theorem all_true {α : Type} (xs : List α) : allD (.lst (xs.map fun _ => D.bl true)) = some (.bl true) := by
  rw [allD_map (fun _ => true)]
  congr 2
  simp
theorem names_all {ρ : LEnv} {S : Store} {i : Nat} (hi : i < ρ.length) {xs : List Str} (h : ∀ x ∈ xs, isN x) : lcL (gN i) bTrue (eCall d_is_name (aC (eV i) aN)) (xs.map D.str) ρ S = .ok (xs.map fun _ => .bl true, S) := by
  refine lcL_map fun x hx => ⟨_, rfl, ?_⟩
  have g : (ρ.set i (.val (.str x)))[i]? = some (.val (.str x)) := List.getElem?_set_self hi
  have n := isN_name (h x hx)
  simp? [g, n]
theorem in_zm : inD (.str "zero") (.tup [.str "zero", .str "more"]) = some true := by decide +kernel
theorem in_mm : inD (.str "more") (.tup [.str "zero", .str "more"]) = some true := by decide +kernel
theorem ok_tup (xs : List D) (h : xs.length ≤ 16777216) : szOk xs.length = true := szOk_t h
theorem lt22 : decide (((2 : Nat) : Int) < 2) = false := by decide
theorem lt32 : decide (((3 : Nat) : Int) < 2) = false := by decide
theorem eq22 : eqD (.int ((2 : Nat) : Int)) (.int 2) = some true := by rw [eqD_i]; rfl
theorem eq33 : eqD (.int ((3 : Nat) : Int)) (.int 3) = some true := by rw [eqD_i]; rfl
theorem ne23 : neD (.int ((2 : Nat) : Int)) (.int 3) = some true := by rw [neD_i]; rfl
theorem ne33 : neD (.int ((3 : Nat) : Int)) (.int 3) = some false := by rw [neD_i]; rfl
theorem is_deed_ok {d : Dd} (h : ∀ x ∈ d.names, isN x) (S : Store) : d_is_deed [ddD d] S = .ok (.bl true, S) := by
  unfold d_is_deed b_is_deed
  rw [runD_a (n := 1) rfl]
  have na := fun (ρ : LEnv) (hi : 1 < ρ.length) => names_all (S := S) hi h
  have at1 := all_true d.names
  cases d with
  | zero x =>
    have e : ddD (.zero x) = .tup [.str "zero", .str x] := rfl
    have nm : Dd.names (.zero x) = [x] := rfl
    rw [nm] at na at1
    have na := na [.val (.tup [.str "zero", .str x]), .no] (Nat.lt_succ_self 1)
    rw [e]
    simp? [List.map_cons, List.map_nil] at na at1 ⊢
    simp? [isi_tup, isi_str, lt22, sl_from, na, at1, kq_zc, in_zm, eq22]
  | copy x y =>
    have e : ddD (.copy x y) = .tup [.str "copy", .str x, .str y] := rfl
    have nm : Dd.names (.copy x y) = [x, y] := rfl
    rw [nm] at na at1
    have na := na [.val (.tup [.str "copy", .str x, .str y]), .no] (Nat.lt_succ_self 1)
    rw [e]
    simp? [List.map_cons, List.map_nil] at na at1 ⊢
    simp? [isi_tup, isi_str, lt32, sl_from, na, at1, kq_cc, eq33]
  | more x =>
    have e : ddD (.more x) = .tup [.str "more", .str x] := rfl
    have nm : Dd.names (.more x) = [x] := rfl
    rw [nm] at na at1
    have na := na [.val (.tup [.str "more", .str x]), .no] (Nat.lt_succ_self 1)
    rw [e]
    simp? [List.map_cons, List.map_nil] at na at1 ⊢
    simp? [isi_tup, isi_str, lt22, sl_from, na, at1, kq_mc, in_mm, eq22]
theorem is_round_no (d : Dd) (S : Store) : d_is_round [ddD d] S = .ok (.bl false, S) := by
  unfold d_is_round b_is_round
  rw [runD_a (n := 1) rfl]
  cases d with
  | zero x =>
    have e : ddD (.zero x) = .tup [.str "zero", .str x] := rfl
    rw [e]
    simp? [isi_tup, ne23]
  | copy x y =>
    have e : ddD (.copy x y) = .tup [.str "copy", .str x, .str y] := rfl
    rw [e]
    simp? [isi_tup, isi_str, ne33, kn_cr]
  | more x =>
    have e : ddD (.more x) = .tup [.str "more", .str x] := rfl
    rw [e]
    simp? [isi_tup, ne23]
theorem is_round_yes {x : Str} (h : isN x) (ds : List Dd) (S : Store) : d_is_round [stD (.round x ds)] S = .ok (.bl true, S) := by
  unfold d_is_round b_is_round
  rw [runD_a (n := 1) rfl]
  have e : stD (.round x ds) = .tup [.str "round", .str x, .tup (ds.map ddD)] := rfl
  have nm := isN_name h
  rw [e]
  simp? [isi_tup, isi_str, ne33, kn_rr, nm]
def stOk (s : Stm) : Prop := ∀ x ∈ s.names, isN x
theorem wrong_in {x0 s1 s2 : Slot} {S : Store} : ∀ (ds : List Dd) (k : Nat) (s3 s4 : Slot), (∀ d ∈ ds, ∀ x ∈ d.names, isN x) → ∃ s3' s4', forL (gT [(gN 3), (gN 4)]) L0_wrong_place (((ds.map ddD).zipIdx k).map fun q => .tup [.int (q.2 : Nat), q.1]) [x0, s1, s2, s3, s4] S = .nx [x0, s1, s2, s3', s4'] S
  | [], _, s3, s4, _ => ⟨s3, s4, rfl⟩
  | d :: ds, k, s3, s4, h => by
    rw [List.map_cons, List.zipIdx_cons, List.map_cons, forL_cons (ρ' := [x0, s1, s2, .val (nD k), .val (ddD d)]) rfl]
    have e := is_deed_ok (h d List.mem_cons_self) S
    have st : L0_wrong_place [x0, s1, s2, .val (nD k), .val (ddD d)] S = .nx [x0, s1, s2, .val (nD k), .val (ddD d)] S := by
      unfold L0_wrong_place
      simp? [e]
    rw [st, lnx]
    exact wrong_in ds (k + 1) _ _ fun e m => h e (.tail _ m)
theorem wrong_out {x0 : Slot} {S : Store} : ∀ (b : List Stm) (k : Nat) (s1 s2 s3 s4 : Slot), (∀ s ∈ b, stOk s) → ∃ s1' s2' s3' s4', forL (gT [(gN 1), (gN 2)]) L1_wrong_place (((b.map stD).zipIdx k).map fun q => .tup [.int (q.2 : Nat), q.1]) [x0, s1, s2, s3, s4] S = .nx [x0, s1', s2', s3', s4'] S
  | [], _, s1, s2, s3, s4, _ => ⟨s1, s2, s3, s4, rfl⟩
  | s :: b, k, s1, s2, s3, s4, h => by
    rw [List.map_cons, List.zipIdx_cons, List.map_cons, forL_cons (ρ' := [x0, .val (nD k), .val (stD s), s3, s4]) rfl]
    have hs := h s List.mem_cons_self
    have st : ∃ s3' s4', L1_wrong_place [x0, .val (nD k), .val (stD s), s3, s4] S = .nx [x0, .val (nD k), .val (stD s), s3', s4'] S := by
      unfold L1_wrong_place
      cases s with
      | deed d =>
        have e1 : d_is_round [stD (.deed d)] S = _ := is_round_no d S
        have e2 : d_is_deed [stD (.deed d)] S = _ := is_deed_ok (d := d) (fun x hx => hs x hx) S
        exact ⟨s3, s4, by simp? [e1, e2]⟩
      | round x ds =>
        have e1 := is_round_yes (hs x (by simp [Stm.names])) ds S
        obtain ⟨a3, a4, e2⟩ := wrong_in (x0 := x0) (s1 := .val (nD k)) (s2 := .val (stD (.round x ds))) (S := S) ds 0 s3 s4 fun d m y hy => hs y (by simp only [Stm.names, List.mem_cons, List.mem_flatMap]; exact .inr ⟨d, m, hy⟩)
        have e : stD (.round x ds) = .tup [.str "round", .str x, .tup (ds.map ddD)] := rfl
        rw [e] at e1 e2 ⊢
        exact ⟨a3, a4, by simp? [e1, e2]⟩
    obtain ⟨a3, a4, st⟩ := st
    rw [st, lnx]
    exact wrong_out b (k + 1) _ _ _ _ fun e m => h e (.tail _ m)
theorem wrong_place_ok {b : List Stm} (h : ∀ s ∈ b, stOk s) (S : Store) : d_wrong_place [blkD b] S = .ok (.non, S) := by
  unfold d_wrong_place b_wrong_place
  rw [runD_a (n := 1) rfl]
  obtain ⟨a1, a2, a3, a4, e⟩ := wrong_out (x0 := .val (blkD b)) (S := S) b 0 .no .no .no .no h
  simp? [e]
def sizeB (b : List Stm) : Nat := (b.map fun s => 1 + s.len).sum
theorem sum_nat {α : Type} (f : α → Nat) (xs : List α) : (xs.map fun x => ((f x : Nat) : Int)).sum = ((xs.map f).sum : Nat) := by
  induction xs with
  | nil => rfl
  | cons x xs ih => rw [List.map_cons, List.sum_cons, List.map_cons, List.sum_cons, ih]; omega
theorem size_of_ok (b : List Stm) (S : Store) : d_size_of [blkD b] S = .ok (nD (sizeB b), S) := by
  unfold d_size_of b_size_of
  rw [runD_a (n := 1) rfl]
  have lo : ∀ S, lcL (gN 1) bTrue (eBin addD (eC (.int 1)) (eIf (bV (eCmp eqD (eHB (hV 1) (eC (.int 0)) idxD) (eC (.str "round")))) (eH (hE (eHB (hV 1) (eC (.int 2)) idxD)) lenD) (eC (.int 0)))) (b.map stD) [.val (blkD b), .no] S = .ok (b.map fun s => D.int ((1 + s.len : Nat) : Int), S) := fun S =>
    lcL_map fun s _ => ⟨_, rfl, by
      cases s with
      | deed d =>
        obtain ⟨k, xs, e, k1, _, _⟩ := ddD_k d
        have e' : stD (.deed d) = .tup (.str k :: xs) := e
        rw [e']
        simp? [k1]
        rfl
      | round x ds =>
        have e' : stD (.round x ds) = .tup [.str "round", .str x, .tup (ds.map ddD)] := rfl
        rw [e']
        simp? [kq_rr, List.length_map]
        rfl⟩
  have sm := sumD_map (fun s : Stm => ((1 + s.len : Nat) : Int)) b
  simp? [lo, sm]
  rw [sum_nat (fun s : Stm => 1 + s.len)]
  rfl
theorem isNms_of {xs : List Str} {lo hi : Nat} (h : ∀ x ∈ xs, isN x) (hn : xs.Nodup) (h1 : lo ≤ xs.length) (h2 : xs.length ≤ hi) : isNms (strsT xs) lo hi = true := by
  show (decide ((lo : Int) ≤ (xs.map D.str).length) && decide (((xs.map D.str).length : Int) ≤ hi) && (xs.map D.str).all isNm && decide ((xs.map D.str).map strOf).Nodup) = true
  have e : (xs.map D.str).map strOf = xs := by
    rw [List.map_map]
    exact List.map_id' xs
  rw [e, List.length_map, decide_eq_true (by omega), decide_eq_true (by omega), decide_eq_true hn, List.all_map]
  simp only [Bool.true_and, Bool.and_true]
  rw [List.all_eq_true]
  exact fun x hx => (h x hx).1
theorem tame1_strs {xs : List Str} (h : ∀ x ∈ xs, isN x) : tame1 (strsT xs) := ⟨rfl, fun ys e y m => by
  rcases e with e | e
  · cases e
    obtain ⟨x, hx, rfl⟩ := List.mem_map.mp m
    exact ⟨rfl, fun z e => by cases e; have := (h x hx).2; omega⟩
  · cases e⟩
/-- a right program -/
structure POk (g t : List Str) (b : List Stm) : Prop where
  gs : ∀ x ∈ g, isN x
  gn : g.Nodup
  gl : g.length ≤ 2
  ts : ∀ x ∈ t, isN x
  tn : t.Nodup
  t1 : 1 ≤ t.length
  t4 : t.length ≤ 4
  bs : ∀ s ∈ b, stOk s
  bz : sizeB b ≤ 5000
theorem prog_init_ok {g t : List Str} {b : List Stm} (h : POk g t b) (S : Store) : d_Program___init__ (.ins "Program" [] []) [strsT g, strsT t, blkD b] S = .ok (.ins "Program" ["given", "told", "block"] [strsT g, strsT t, blkD b], S) := by
  unfold d_Program___init__ b_Program___init__
  rw [runO_a (n := 3) rfl]
  have a1 := are_names_ok (tame1_strs h.gs) 0 2 (by decide)
  have a2 := are_names_ok (tame1_strs h.ts) 1 4 (by decide)
  have i1 : isNms (strsT g) 0 2 = true := isNms_of (lo := 0) (hi := 2) h.gs h.gn (Nat.zero_le _) h.gl
  have i2 : isNms (strsT t) 1 4 = true := isNms_of (lo := 1) (hi := 4) h.ts h.tn h.t1 h.t4
  rw [i1] at a1
  rw [i2] at a2
  have wp := wrong_place_ok h.bs
  have so := size_of_ok b
  have nn : notD .non .non = some false := rfl
  have gt : decide ((5000 : Int) < (sizeB b : Nat)) = false := decide_eq_false (by have := h.bz; omega)
  simp? [a1, a2, isi_tup, wp, nn, so, gt]
  rfl
end LW
end

section
set_option linter.all false
set_option maxRecDepth 100000
namespace LW
open PySem L2 GG
local macro_rules
  | `(tactic| simp? [$a,*] $[$l:location]?) => `(tactic| simp only [eC_a, eV_a, hE_a, hV_a, eH_a, eHB_a, eBin_a, eUn_a, eAnd_a, eOr_a, eNot_a, eIf_a, eCmp_a, eChain_a, aN_a, aC_a, eTup_a, eLst_a, eCall_a, eB_a, eFz_a, eAl_a, mLst_a, mLc_a, mLc2_a, mMk_a, mDic0_a, mList_a, eMeth_a, eIsi1_a, eIsi_a, eInH_a, eSl_a, oX_none, oX_some, bV_a, bT_a, bAnd_a, bOr_a, bNot_a, bTrue_a, iS_a, iEn_a, iZ_a, iR1_a, iR2_a, iR3_a, sSeq_a, sNil_a, sExpr_a, sRet_a, sRetN_a, sIf_a, sBrk_a, sCnt_a, sSet_a, sOwn_a, sFz_a, sFor_a, sMt_a, sFld_a, sAsg_a, sRaise_a, sTry_a, sMethO_a, endD_rt, endD_nx, endD_ex, bok, bex, oso, sok, sxc, cok, qnx, qrt, qbk, qct, qex, lnx, lct, lbk, lrt, lxc, oss, okk, obs, oms, add_i, sub_i, neg_i, lt_i, le_i, gt_i, ge_i, len_l, len_t, len_f, len_d, idx_l, idx_t, idx_f, walk_l, walk_t, walk_f, seq_l, seq_t, tuple_l, tuple_t, int_i, atI_0, atI_1, atI_2, dr_n, dr_b, dr_i, dr_s, dr_l, dr_t, dr_k, dr_f, dr_d, dr_o, dr_p, dr_w, now_l, now_d, now_o, frz_l, frz_d, frz_o, isL_l, frzAt, cu_p, cu_w, pu_p, pu_w, startD, startO, List.map_cons, List.map_nil, List.replicate, List.cons_append, List.nil_append, List.length_cons, List.length_nil, Nat.zero_add, Nat.reduceAdd, List.getElem?_cons_zero, List.getElem?_cons_succ, List.set_cons_zero, List.set_cons_succ, if_true, if_false, reduceIte, Bool.false_eq_true, bD_b, tru_n, tru_b, tru_l, tru_t, gN_a, gT_t, gAll_n, gAll_c, wipeD, ite_and, ite_or, ite_andB, ite_orB, szOk_0, szOk_1, szOk_2, szOk_3, szOk_4, Bool.not_true, Bool.not_false, Bool.true_and, Bool.and_true, Bool.false_and, Bool.and_false, Bool.true_or, Bool.or_true, Bool.false_or, Bool.or_false, decide_true, decide_false, tT, tAll, tN, tI, setI, sTry0_a, mSrt_a, mSrtTx_a, eEqO_a, tIK_a, now_td, frz_td, dr_td, idx_td, in_td, srt_td, $a,*] $[$l:location]?)
/-- the pot at p: its numbers, fuel for so many draws -/
structure Pot (S : Store) (p fuel : Nat) : Prop where
  ex : ∃ (q : Nat) (gs ss : List Int) (tr sm : Int), S[p]? = some (.lst [.ptr q, .lst (ss.map .int), .int tr, .int sm]) ∧ S[q]? = some (.lst (gs.map .int)) ∧ p ≠ q ∧ ss ≠ [] ∧ ss.length ≤ 64 ∧
    (∀ g ∈ gs, 0 ≤ g) ∧ (∀ z ∈ ss, 0 ≤ z ∧ z < 1000000007) ∧ 0 ≤ tr ∧ tr + fuel < 1000000 ∧ 0 ≤ sm ∧ sm < 999983
theorem mul_small {i j : Int} (h1 : 0 ≤ i) (h2 : i < 2 ^ 200) (h3 : 0 ≤ j) (h4 : j < 2 ^ 200) : mulOk i j = true := by
  have z : ∀ {i : Int}, 0 ≤ i → i < 2 ^ 200 → i.natAbs.log2 ≤ 200 := fun {i} h1 h2 => by
    have a : i.natAbs < 2 ^ 200 := by
      have : ((i.natAbs : Nat) : Int) = i := Int.natAbs_of_nonneg h1
      have h2' : ((i.natAbs : Nat) : Int) < ((2 ^ 200 : Nat) : Int) := by rw [this]; exact_mod_cast h2
      exact_mod_cast h2'
    by_cases e : i.natAbs = 0
    · rw [e]; decide
    · exact Nat.le_of_lt ((Nat.log2_lt e).mpr a)
  have a := z h1 h2
  have b := z h3 h4
  unfold mulOk
  exact decide_eq_true (by omega)
theorem at_int {ss : List Int} {i : Int} (h0 : 0 ≤ i) (h1 : i < ss.length) : ∃ z, atI (ss.map D.int) i = some (.int z) ∧ z ∈ ss := by
  have lt : i.toNat < ss.length := by omega
  refine ⟨ss[i.toNat], ?_, List.getElem_mem lt⟩
  unfold atI
  rw [ix_at h0 (by rw [List.length_map]; exact h1)]
  simp [lt]
theorem draw_big {S : Store} {p fuel : Nat} {n : Int} (P : Pot S p (fuel + 1)) (h1 : 1 ≤ n) (h2 : n.natAbs.log2 < 9000) : ∃ r S', 0 ≤ r ∧ r < n ∧ d__law_draw [.ptr p, .int n] S = .ok (.int r, S') ∧ Pot S' p fuel ∧ S'.length = S.length := by
  obtain ⟨q, gs, ss, tr, sm, hp, hq, hpq, hne, hl, hg, hs, t0, t1, m0, m1⟩ := P.ex
  have lp : p < S.length := (List.getElem?_eq_some_iff.mp hp).1
  have lq : q < S.length := (List.getElem?_eq_some_iff.mp hq).1
  have a2 : ∀ a b c d : D, atI [a, b, c, d] 2 = some c := fun _ _ _ _ => rfl
  have a0 : ∀ a b c d : D, atI [a, b, c, d] 0 = some a := fun _ _ _ _ => rfl
  have a1 : ∀ a b c d : D, atI [a, b, c, d] 1 = some b := fun _ _ _ _ => rfl
  have a3 : ∀ a b c d : D, atI [a, b, c, d] 3 = some d := fun _ _ _ _ => rfl
  have i2 : ixN 4 2 = some 2 := rfl
  have hp1 : (S.set p (.lst [.ptr q, .lst (ss.map .int), .int (tr + 1), .int sm]))[p]? = some (.lst [.ptr q, .lst (ss.map .int), .int (tr + 1), .int sm]) := List.getElem?_set_self lp
  have hq1 : (S.set p (.lst [.ptr q, .lst (ss.map .int), .int (tr + 1), .int sm]))[q]? = some (.lst (gs.map .int)) := by rw [List.getElem?_set_ne hpq]; exact hq
  have ln : (S.set p (.lst [.ptr q, .lst (ss.map .int), .int (tr + 1), .int sm])).length = S.length := List.length_set ..
  unfold d__law_draw runD b__law_draw
  simp only [startD, List.map_cons, List.map_nil, List.replicate, List.cons_append, List.nil_append, List.length_cons, List.length_nil, if_true, if_false, reduceIte, sSeq, sSet, eHB, hV, hE, eC, eV, eBin, eH, List.getElem?_cons_zero, List.getElem?_cons_succ, Out.bind_ok, Out.opt, deref, MO.now, Option.map_some, Option.bind_some, idxD, Out.st_ok, List.set_cons_zero, List.set_cons_succ, SOut.seq_nx, SOut.seq_rt, sAsg, tI, okO, curH, putO, setI, addD, subD, optS, sIf, bV, eCmp, lenD, bD, sNil, sRet, mulD, modD, fdivD, endD_rt, endD_nx, intD, sMt, aC, aN, eCall, MO.isL, gtD, ltD, hp, hq, a0, a1, a2, a3, i2, Nat.reduceAdd]
  generalize S.set p (.lst [.ptr q, .lst (ss.map .int), .int (tr + 1), .int sm]) = S1 at hp1 hq1 ln
  have big : (2 : Int) ^ 200 = 1606938044258990275541962092341162602522202993782792835301376 := by decide
  cases gs with
  | nil =>
    simp only [startD, List.map_cons, List.map_nil, List.replicate, List.cons_append, List.nil_append, List.length_cons, List.length_nil, if_true, if_false, reduceIte, sSeq, sSet, eHB, hV, hE, eC, eV, eBin, eH, List.getElem?_cons_zero, List.getElem?_cons_succ, Out.bind_ok, Out.opt, deref, MO.now, Option.map_some, Option.bind_some, idxD, Out.st_ok, List.set_cons_zero, List.set_cons_succ, SOut.seq_nx, SOut.seq_rt, sAsg, tI, okO, curH, putO, setI, addD, subD, optS, sIf, bV, eCmp, lenD, bD, sNil, sRet, mulD, modD, fdivD, endD_rt, endD_nx, intD, sMt, aC, aN, eCall, MO.isL, gtD, ltD, hp1, hq1, a0, a1, a2, a3, i2]
    rw [if_neg (by simp)]
    have lpos : (0 : Int) < ss.length := by cases ss with
      | nil => exact absurd rfl hne
      | cons a b => simp
    obtain ⟨z, ez, mz⟩ := at_int (ss := ss) (i := tr % (ss.length : Nat)) (Int.emod_nonneg _ (by omega)) (Int.emod_lt_of_pos _ lpos)
    obtain ⟨z0, z1⟩ := hs z mz
    have k1 : mulOk z 7919 = true := mul_small z0 (by rw [big]; omega) (by decide) (by decide)
    have k2 : mulOk 104729 tr = true := mul_small (by decide) (by decide) t0 (by rw [big]; omega)
    have k3 : mulOk sm 31 = true := mul_small m0 (by rw [big]; omega) (by decide) (by decide)
    have d1 : divOk 1009 = true := by decide +kernel
    have d2 : divOk 2003 = true := by decide +kernel
    have d3 : divOk 64 = true := by decide +kernel
    have w0 : (0 : Int) < 2147483647 := by decide
    have w1 : (0 : Int) < 2147483629 := by decide
    have w2 : (0 : Int) < 2147483399 := by decide
    have w3 : (0 : Int) < n := by omega
    simp only [startD, List.map_cons, List.map_nil, List.replicate, List.cons_append, List.nil_append, List.length_cons, List.length_nil, if_true, if_false, reduceIte, sSeq, sSet, eHB, hV, hE, eC, eV, eBin, eH, List.getElem?_cons_zero, List.getElem?_cons_succ, Out.bind_ok, Out.opt, deref, MO.now, Option.map_some, Option.bind_some, idxD, Out.st_ok, List.set_cons_zero, List.set_cons_succ, SOut.seq_nx, SOut.seq_rt, sAsg, tI, okO, curH, putO, setI, addD, subD, optS, sIf, bV, eCmp, lenD, bD, sNil, sRet, mulD, modD, fdivD, endD_rt, endD_nx, intD, sMt, aC, aN, eCall, MO.isL, gtD, ltD, hp1, hq1, a0, a1, a2, a3, i2, List.length_map, modD, lpos, ez, mulD, k1, k2, k3]
    generalize hx : z * 7919 + 104729 * tr + sm * 31 = x
    have x0 : 0 ≤ x := by omega
    have x1 : x < 10 ^ 15 := by omega
    have k4 : mulOk x 48271 = true := mul_small x0 (by rw [big]; omega) (by decide) (by decide)
    simp only [startD, List.map_cons, List.map_nil, List.replicate, List.cons_append, List.nil_append, List.length_cons, List.length_nil, if_true, if_false, reduceIte, sSeq, sSet, eHB, hV, hE, eC, eV, eBin, eH, List.getElem?_cons_zero, List.getElem?_cons_succ, Out.bind_ok, Out.opt, deref, MO.now, Option.map_some, Option.bind_some, idxD, Out.st_ok, List.set_cons_zero, List.set_cons_succ, SOut.seq_nx, SOut.seq_rt, sAsg, tI, okO, curH, putO, setI, addD, subD, optS, sIf, bV, eCmp, lenD, bD, sNil, sRet, mulD, modD, fdivD, endD_rt, endD_nx, intD, sMt, aC, aN, eCall, MO.isL, gtD, ltD, k4, w0]
    generalize hy : (x * 48271 + 11) % 2147483647 = y
    have y0 : 0 ≤ y := by rw [← hy]; exact Int.emod_nonneg _ (by decide)
    have y1 : y < 2147483647 := by rw [← hy]; exact Int.emod_lt_of_pos _ (by decide)
    have k5 : mulOk y (y / 1009 + 69621) = true := mul_small y0 (by rw [big]; omega) (by omega) (by rw [big]; omega)
    simp only [startD, List.map_cons, List.map_nil, List.replicate, List.cons_append, List.nil_append, List.length_cons, List.length_nil, if_true, if_false, reduceIte, sSeq, sSet, eHB, hV, hE, eC, eV, eBin, eH, List.getElem?_cons_zero, List.getElem?_cons_succ, Out.bind_ok, Out.opt, deref, MO.now, Option.map_some, Option.bind_some, idxD, Out.st_ok, List.set_cons_zero, List.set_cons_succ, SOut.seq_nx, SOut.seq_rt, sAsg, tI, okO, curH, putO, setI, addD, subD, optS, sIf, bV, eCmp, lenD, bD, sNil, sRet, mulD, modD, fdivD, endD_rt, endD_nx, intD, sMt, aC, aN, eCall, MO.isL, gtD, ltD, fdivD, d1, k5, w1]
    generalize hv : (y * (y / 1009 + 69621)) % 2147483629 = v
    have v0 : 0 ≤ v := by rw [← hv]; exact Int.emod_nonneg _ (by decide)
    have v1 : v < 2147483629 := by rw [← hv]; exact Int.emod_lt_of_pos _ (by decide)
    have k6 : mulOk v (v / 2003 + 40692) = true := mul_small v0 (by rw [big]; omega) (by omega) (by rw [big]; omega)
    simp only [startD, List.map_cons, List.map_nil, List.replicate, List.cons_append, List.nil_append, List.length_cons, List.length_nil, if_true, if_false, reduceIte, sSeq, sSet, eHB, hV, hE, eC, eV, eBin, eH, List.getElem?_cons_zero, List.getElem?_cons_succ, Out.bind_ok, Out.opt, deref, MO.now, Option.map_some, Option.bind_some, idxD, Out.st_ok, List.set_cons_zero, List.set_cons_succ, SOut.seq_nx, SOut.seq_rt, sAsg, tI, okO, curH, putO, setI, addD, subD, optS, sIf, bV, eCmp, lenD, bD, sNil, sRet, mulD, modD, fdivD, endD_rt, endD_nx, intD, sMt, aC, aN, eCall, MO.isL, gtD, ltD, fdivD, modD, mulD, d2, k6, w2, d3, w3]
    refine ⟨_, S1, Int.emod_nonneg _ (by omega), Int.emod_lt_of_pos _ (by omega), rfl, ⟨q, [], ss, tr + 1, sm, hp1, hq1, hpq, hne, hl, hg, hs, by omega, by omega, m0, m1⟩, ln⟩
  | cons g gs =>
    simp only [startD, List.map_cons, List.map_nil, List.replicate, List.cons_append, List.nil_append, List.length_cons, List.length_nil, if_true, if_false, reduceIte, sSeq, sSet, eHB, hV, hE, eC, eV, eBin, eH, List.getElem?_cons_zero, List.getElem?_cons_succ, Out.bind_ok, Out.opt, deref, MO.now, Option.map_some, Option.bind_some, idxD, Out.st_ok, List.set_cons_zero, List.set_cons_succ, SOut.seq_nx, SOut.seq_rt, sAsg, tI, okO, curH, putO, setI, addD, subD, optS, sIf, bV, eCmp, lenD, bD, sNil, sRet, mulD, modD, fdivD, endD_rt, endD_nx, intD, sMt, aC, aN, eCall, MO.isL, gtD, ltD, hp1, hq1, a0, a1, a2, a3, i2]
    rw [if_pos (by simp)]
    have b0 : atI (D.int g :: List.map D.int gs) 0 = some (D.int g) := by
      unfold atI
      rw [ix_at (Int.le_refl 0) (by rw [List.length_cons]; omega)]
      rfl
    have dn : divOk n = true := by
      unfold divOk
      rw [decide_eq_true (by omega), decide_eq_true h2]
      rfl
    have i0 : ixN ((List.map D.int gs).length + 1) 0 = some 0 := ix_at (Int.le_refl 0) (by omega)
    have g0 : 0 ≤ g := hg g List.mem_cons_self
    have w3 : (0 : Int) < n := by omega
    simp only [startD, List.map_cons, List.map_nil, List.replicate, List.cons_append, List.nil_append, List.length_cons, List.length_nil, if_true, if_false, reduceIte, sSeq, sSet, eHB, hV, hE, eC, eV, eBin, eH, List.getElem?_cons_zero, List.getElem?_cons_succ, Out.bind_ok, Out.opt, deref, MO.now, Option.map_some, Option.bind_some, idxD, Out.st_ok, List.set_cons_zero, List.set_cons_succ, SOut.seq_nx, SOut.seq_rt, sAsg, tI, okO, curH, putO, setI, addD, subD, optS, sIf, bV, eCmp, lenD, bD, sNil, sRet, mulD, modD, fdivD, endD_rt, endD_nx, intD, sMt, aC, aN, eCall, MO.isL, gtD, ltD, hp1, hq1, a0, a1, a2, a3, i2, b0, dn, i0]
    have lq1 : q < S1.length := by omega
    have hp2 : ∀ mo, (S1.set q mo)[p]? = some (.lst [.ptr q, .lst (ss.map .int), .int (tr + 1), .int sm]) := fun mo => by rw [List.getElem?_set_ne (Ne.symm hpq)]; exact hp1
    have hq2 : ∀ mo, (S1.set q mo)[q]? = some mo := fun mo => List.getElem?_set_self lq1
    by_cases hgn : g < n
    · rw [if_pos (by simpa using hgn)]
      have f0 : fitI 0 = true := by decide +kernel
      have s0 : ∀ k : Nat, seqIndex? 0 (k + 1) = some 0 := fun k => by
        have c : (decide ((0 : Int) ≤ 0) && decide ((0 : Int) < ((k + 1 : Nat) : Int))) = true := by
          rw [decide_eq_true (Int.le_refl 0), decide_eq_true (by omega)]
          rfl
        show (if (decide ((0 : Int) ≤ 0) && decide ((0 : Int) < ((k + 1 : Nat) : Int))) = true then some (0 : Int).toNat else none) = some 0
        rw [if_pos c]
        rfl
      have hp3 : ∀ mo mo', ((S1.set q mo).set q mo')[p]? = some (.lst [.ptr q, .lst (ss.map .int), .int (tr + 1), .int sm]) := fun mo mo' => by rw [List.getElem?_set_ne (Ne.symm hpq)]; exact hp2 mo
      have hq3 : ∀ mo mo', ((S1.set q mo).set q mo')[q]? = some mo' := fun mo mo' => List.getElem?_set_self (by rw [List.length_set]; exact lq1)
      simp only [startD, List.map_cons, List.map_nil, List.replicate, List.cons_append, List.nil_append, List.length_cons, List.length_nil, if_true, if_false, reduceIte, sSeq, sSet, eHB, hV, hE, eC, eV, eBin, eH, List.getElem?_cons_zero, List.getElem?_cons_succ, Out.bind_ok, Out.opt, deref, MO.now, Option.map_some, Option.bind_some, idxD, Out.st_ok, List.set_cons_zero, List.set_cons_succ, SOut.seq_nx, SOut.seq_rt, sAsg, tI, okO, curH, putO, setI, addD, subD, optS, sIf, bV, eCmp, lenD, bD, sNil, sRet, mulD, modD, fdivD, endD_rt, endD_nx, intD, sMt, aC, aN, eCall, MO.isL, gtD, ltD, hp2, hq2, a0, a1, a2, a3, i2, popD, f0, s0, Nat.zero_lt_succ, w3, List.eraseIdx_cons_zero]
      refine ⟨_, _, Int.emod_nonneg _ (by omega), Int.emod_lt_of_pos _ (by omega), rfl, ⟨q, gs, ss, tr + 1, sm, hp3 _ _, hq3 _ _, hpq, hne, hl, fun y hy => hg y (.tail _ hy), hs, by omega, by omega, m0, m1⟩, by rw [List.length_set, List.length_set]; exact ln⟩
    · rw [if_neg (by simpa using hgn)]
      simp only [startD, List.map_cons, List.map_nil, List.replicate, List.cons_append, List.nil_append, List.length_cons, List.length_nil, if_true, if_false, reduceIte, sSeq, sSet, eHB, hV, hE, eC, eV, eBin, eH, List.getElem?_cons_zero, List.getElem?_cons_succ, Out.bind_ok, Out.opt, deref, MO.now, Option.map_some, Option.bind_some, idxD, Out.st_ok, List.set_cons_zero, List.set_cons_succ, SOut.seq_nx, SOut.seq_rt, sAsg, tI, okO, curH, putO, setI, addD, subD, optS, sIf, bV, eCmp, lenD, bD, sNil, sRet, mulD, modD, fdivD, endD_rt, endD_nx, intD, sMt, aC, aN, eCall, MO.isL, gtD, ltD, w3]
      refine ⟨_, _, Int.emod_nonneg _ (by omega), Int.emod_lt_of_pos _ (by omega), rfl, ⟨q, (g / n) :: gs, ss, tr + 1, sm, hp2 _, hq2 _, hpq, hne, hl, fun y hy => ?_, hs, by omega, by omega, m0, m1⟩, by rw [List.length_set]; exact ln⟩
      rcases List.mem_cons.mp hy with rfl | hy
      · exact Int.ediv_nonneg g0 (by omega)
      · exact hg y (.tail _ hy)
theorem draw_ok {S : Store} {p fuel : Nat} {n : Int} (P : Pot S p (fuel + 1)) (h1 : 1 ≤ n) (h2 : n ≤ 1000) : ∃ r S', 0 ≤ r ∧ r < n ∧ d__law_draw [.ptr p, .int n] S = .ok (.int r, S') ∧ Pot S' p fuel ∧ S'.length = S.length := by
  refine draw_big P h1 ?_
  have lt : n.natAbs < 2 ^ 10 := by omega
  have ne : n.natAbs ≠ 0 := by omega
  have := (Nat.log2_lt ne).mpr lt
  omega
/-- a comprehension that leaves the store -/
theorem lcL_pure {n : NX} {t : BX} {e : EX} {f : D → D} {b : D → Bool} {ρ : LEnv} {S : Store} : ∀ {ds : List D}, (∀ d ∈ ds, ∃ ρ', n d ρ = some ρ' ∧ t ρ' S = .ok (b d, S) ∧ (b d = true → e ρ' S = .ok (f d, S))) → lcL n t e ds ρ S = .ok ((ds.filter b).map f, S)
  | [], _ => rfl
  | d :: ds, h => by
    obtain ⟨ρ', h1, h2, h3⟩ := h d List.mem_cons_self
    have ih := lcL_pure (ds := ds) fun x m => h x (.tail _ m)
    unfold lcL
    rw [h1]
    simp only [h2, Out.calm_ok, Out.bind_ok]
    cases hb : b d with
    | false =>
      simp only [Bool.false_eq_true, if_false, List.filter_cons, hb]
      exact ih
    | true =>
      simp only [if_true, h3 hb, Out.calm_ok, Out.bind_ok, ih, List.filter_cons, hb, List.map_cons]
theorem walk_lst (xs : List D) : walkD (.lst xs) = some xs := rfl
def absI (z : Int) : Int := if z < 0 then -z else z
def isBig (d : D) : Bool := match d with
  | .int z => decide ((10 : Int) ^ 18 ≤ absI z)
  | _ => false
def absOf (d : D) : D := match d with
  | .int z => .int (absI z)
  | _ => d
def modOf (d : D) : D := match d with
  | .int z => .int (z % 1000000007)
  | _ => d
theorem pow18 : powD (.int 10) (.int 18) = some (.int (10 ^ 18)) := by
  show (if (0 : Int) ≤ 18 ∧ (18 : Int) ≤ 1000000 ∧ (10 : Int).natAbs < 2 ^ 64 then some (D.int ((10 : Int) ^ (18 : Int).toNat)) else none) = _
  rw [if_pos (by decide)]
  rfl
theorem pot_ok (ns : List Int) (hn : ns.length ≤ 63) : ∃ p S, d__law_pot [.frl (ns.map .int)] [] = .ok (.ptr p, S) ∧ Pot S p 900000 := by
  have c1 : cutD (ns.map D.int) none (some 63) = ns.map D.int := by
    have z1 : HT.sIx (ns.map D.int).length (ns.map D.int).length (some 63) = (ns.map D.int).length := by
      have := HT.sIx_nat (ns.map D.int).length (ns.map D.int).length 63
      rw [show (some 63 : Option Int) = some ((63 : Nat) : Int) from rfl, this, List.length_map]
      omega
    unfold cutD
    rw [z1]
    show (List.drop 0 (ns.map D.int)).take ((ns.map D.int).length - 0) = _
    rw [List.drop_zero, Nat.sub_zero, List.take_length]
  have e1 : ∀ (ρ : LEnv) (S : Store), ρ.length = 5 → lcL (gN 4) bTrue (eH (hV 4) intD) (ns.map D.int) ρ S = .ok (ns.map D.int, S) := fun ρ S hρ => by
    rw [lcL_pure (b := fun _ => true) (f := id)]
    · simp
    · intro d hd
      obtain ⟨z, _, rfl⟩ := List.mem_map.mp hd
      refine ⟨_, rfl, rfl, fun _ => ?_⟩
      have g4 : (ρ.set 4 (.val (.int z)))[4]? = some (.val (.int z)) := List.getElem?_set_self (by omega)
      simp only [startD, List.map_cons, List.map_nil, List.replicate, List.cons_append, List.nil_append, List.length_cons, List.length_nil, if_true, if_false, reduceIte, sSeq, sSet, eHB, hV, hE, eC, eV, eBin, eH, List.getElem?_cons_zero, List.getElem?_cons_succ, Out.bind_ok, Out.opt, deref, MO.now, Option.map_some, Option.bind_some, idxD, Out.st_ok, List.set_cons_zero, List.set_cons_succ, SOut.seq_nx, SOut.seq_rt, sAsg, tI, okO, curH, putO, setI, addD, subD, optS, sIf, bV, eCmp, lenD, bD, sNil, sRet, mulD, modD, fdivD, endD_rt, endD_nx, intD, sMt, aC, aN, eCall, MO.isL, gtD, ltD, g4, id]
  have e2 : ∀ (ρ : LEnv) (S : Store), ρ.length = 5 → lcL (gN 4) (bV (eCmp geD (eH (hV 4) absD) (eBin powD (eC (D.int 10)) (eC (D.int 18))))) (eH (hV 4) absD) (ns.map D.int) ρ S = .ok (((ns.map D.int).filter isBig).map absOf, S) := fun ρ S hρ => by
    refine lcL_pure fun d hd => ?_
    obtain ⟨z, _, rfl⟩ := List.mem_map.mp hd
    have g4 : (ρ.set 4 (.val (.int z)))[4]? = some (.val (.int z)) := List.getElem?_set_self (by omega)
    refine ⟨_, rfl, ?_, fun _ => ?_⟩
    · simp only [startD, List.map_cons, List.map_nil, List.replicate, List.cons_append, List.nil_append, List.length_cons, List.length_nil, if_true, if_false, reduceIte, sSeq, sSet, eHB, hV, hE, eC, eV, eBin, eH, List.getElem?_cons_zero, List.getElem?_cons_succ, Out.bind_ok, Out.opt, deref, MO.now, Option.map_some, Option.bind_some, idxD, Out.st_ok, List.set_cons_zero, List.set_cons_succ, SOut.seq_nx, SOut.seq_rt, sAsg, tI, okO, curH, putO, setI, addD, subD, optS, sIf, bV, eCmp, lenD, bD, sNil, sRet, mulD, modD, fdivD, endD_rt, endD_nx, intD, sMt, aC, aN, eCall, MO.isL, gtD, ltD, g4, absD, pow18, geD]
      rfl
    · simp only [startD, List.map_cons, List.map_nil, List.replicate, List.cons_append, List.nil_append, List.length_cons, List.length_nil, if_true, if_false, reduceIte, sSeq, sSet, eHB, hV, hE, eC, eV, eBin, eH, List.getElem?_cons_zero, List.getElem?_cons_succ, Out.bind_ok, Out.opt, deref, MO.now, Option.map_some, Option.bind_some, idxD, Out.st_ok, List.set_cons_zero, List.set_cons_succ, SOut.seq_nx, SOut.seq_rt, sAsg, tI, okO, curH, putO, setI, addD, subD, optS, sIf, bV, eCmp, lenD, bD, sNil, sRet, mulD, modD, fdivD, endD_rt, endD_nx, intD, sMt, aC, aN, eCall, MO.isL, gtD, ltD, g4, absD]
      rfl
  have e3 : ∀ (ρ : LEnv) (S : Store), ρ.length = 5 → lcL (gN 4) (bV (eCmp ltD (eH (hV 4) absD) (eBin powD (eC (D.int 10)) (eC (D.int 18))))) (eBin modD (eH (hV 4) intD) (eC (D.int 1000000007))) (ns.map D.int) ρ S = .ok (((ns.map D.int).filter fun d => !isBig d).map modOf, S) := fun ρ S hρ => by
    refine lcL_pure fun d hd => ?_
    obtain ⟨z, _, rfl⟩ := List.mem_map.mp hd
    have g4 : (ρ.set 4 (.val (.int z)))[4]? = some (.val (.int z)) := List.getElem?_set_self (by omega)
    refine ⟨_, rfl, ?_, fun _ => ?_⟩
    · simp only [startD, List.map_cons, List.map_nil, List.replicate, List.cons_append, List.nil_append, List.length_cons, List.length_nil, if_true, if_false, reduceIte, sSeq, sSet, eHB, hV, hE, eC, eV, eBin, eH, List.getElem?_cons_zero, List.getElem?_cons_succ, Out.bind_ok, Out.opt, deref, MO.now, Option.map_some, Option.bind_some, idxD, Out.st_ok, List.set_cons_zero, List.set_cons_succ, SOut.seq_nx, SOut.seq_rt, sAsg, tI, okO, curH, putO, setI, addD, subD, optS, sIf, bV, eCmp, lenD, bD, sNil, sRet, mulD, modD, fdivD, endD_rt, endD_nx, intD, sMt, aC, aN, eCall, MO.isL, gtD, ltD, g4, absD, pow18]
      show Out.ok (decide (absI z < 10 ^ 18), S) = Out.ok (!decide ((10 : Int) ^ 18 ≤ absI z), S)
      by_cases h : absI z < 10 ^ 18
      · rw [decide_eq_true h, decide_eq_false (by omega)]
        rfl
      · rw [decide_eq_false h, decide_eq_true (by omega)]
        rfl
    · have w : (0 : Int) < 1000000007 := by decide
      simp only [startD, List.map_cons, List.map_nil, List.replicate, List.cons_append, List.nil_append, List.length_cons, List.length_nil, if_true, if_false, reduceIte, sSeq, sSet, eHB, hV, hE, eC, eV, eBin, eH, List.getElem?_cons_zero, List.getElem?_cons_succ, Out.bind_ok, Out.opt, deref, MO.now, Option.map_some, Option.bind_some, idxD, Out.st_ok, List.set_cons_zero, List.set_cons_succ, SOut.seq_nx, SOut.seq_rt, sAsg, tI, okO, curH, putO, setI, addD, subD, optS, sIf, bV, eCmp, lenD, bD, sNil, sRet, mulD, modD, fdivD, endD_rt, endD_nx, intD, sMt, aC, aN, eCall, MO.isL, gtD, ltD, g4, w]
      rfl
  unfold d__law_pot runD b__law_pot
  simp only [startD, List.map_cons, List.map_nil, List.replicate, List.cons_append, List.nil_append, List.length_cons, List.length_nil, if_true, if_false, reduceIte, sSeq, sSet, eHB, hV, hE, eC, eV, eBin, eH, List.getElem?_cons_zero, List.getElem?_cons_succ, Out.bind_ok, Out.opt, deref, MO.now, Option.map_some, Option.bind_some, idxD, Out.st_ok, List.set_cons_zero, List.set_cons_succ, SOut.seq_nx, SOut.seq_rt, sAsg, tI, okO, curH, putO, setI, addD, subD, optS, sIf, bV, eCmp, lenD, bD, sNil, sRet, mulD, modD, fdivD, endD_rt, endD_nx, intD, sMt, aC, aN, eCall, MO.isL, gtD, ltD, Nat.reduceAdd, eFz, mLc, iS, eSl, oX, sliceD, c1, walk_lst]
  have len5 : ∀ a b c d e : Slot, [a, b, c, d, e].length = 5 := fun _ _ _ _ _ => rfl
  simp only [wipeD, List.set_cons_zero, List.set_cons_succ]
  rw [e1 _ _ rfl]
  simp only [startD, List.map_cons, List.map_nil, List.replicate, List.cons_append, List.nil_append, List.length_cons, List.length_nil, if_true, if_false, reduceIte, sSeq, sSet, eHB, hV, hE, eC, eV, eBin, eH, List.getElem?_cons_zero, List.getElem?_cons_succ, Out.bind_ok, Out.opt, deref, MO.now, Option.map_some, Option.bind_some, idxD, Out.st_ok, List.set_cons_zero, List.set_cons_succ, SOut.seq_nx, SOut.seq_rt, sAsg, tI, okO, curH, putO, setI, addD, subD, optS, sIf, bV, eCmp, lenD, bD, sNil, sRet, mulD, modD, fdivD, endD_rt, endD_nx, intD, sMt, aC, aN, eCall, MO.isL, gtD, ltD, MO.frz, eAl, mLc, iS, eFz, wipeD, walk_lst]
  rw [e2 _ _ rfl]
  simp only [startD, List.map_cons, List.map_nil, List.replicate, List.cons_append, List.nil_append, List.length_cons, List.length_nil, if_true, if_false, reduceIte, sSeq, sSet, eHB, hV, hE, eC, eV, eBin, eH, List.getElem?_cons_zero, List.getElem?_cons_succ, Out.bind_ok, Out.opt, deref, MO.now, Option.map_some, Option.bind_some, idxD, Out.st_ok, List.set_cons_zero, List.set_cons_succ, SOut.seq_nx, SOut.seq_rt, sAsg, tI, okO, curH, putO, setI, addD, subD, optS, sIf, bV, eCmp, lenD, bD, sNil, sRet, mulD, modD, fdivD, endD_rt, endD_nx, intD, sMt, aC, aN, eCall, MO.isL, gtD, ltD, MO.frz, eAl, mLc, iS, eFz, wipeD, walk_lst]
  rw [e3 _ _ rfl]
  simp only [startD, List.map_cons, List.map_nil, List.replicate, List.cons_append, List.nil_append, List.length_cons, List.length_nil, if_true, if_false, reduceIte, sSeq, sSet, eHB, hV, hE, eC, eV, eBin, eH, List.getElem?_cons_zero, List.getElem?_cons_succ, Out.bind_ok, Out.opt, deref, MO.now, Option.map_some, Option.bind_some, idxD, Out.st_ok, List.set_cons_zero, List.set_cons_succ, SOut.seq_nx, SOut.seq_rt, sAsg, tI, okO, curH, putO, setI, addD, subD, optS, sIf, bV, eCmp, lenD, bD, sNil, sRet, mulD, modD, fdivD, endD_rt, endD_nx, intD, sMt, aC, aN, eCall, MO.isL, gtD, ltD, MO.frz, eAl, mLst, szOk]
  have q1 : ((ns.map D.int).filter isBig).map absOf = ((ns.filter fun z => decide ((10 : Int) ^ 18 ≤ absI z)).map absI).map D.int := by
    rw [List.filter_map, List.map_map, List.map_map]
    rfl
  have q2 : (((ns.map D.int).filter fun d => !isBig d).map modOf) ++ [D.int ((ns.length : Nat) + 1)] = (((ns.filter fun z => !decide ((10 : Int) ^ 18 ≤ absI z)).map fun z => z % 1000000007) ++ [(ns.length : Int) + 1]).map D.int := by
    rw [List.filter_map, List.map_map, List.map_append, List.map_map]
    rfl
  have l2 : (ns.filter fun z => !decide ((10 : Int) ^ 18 ≤ absI z)).length ≤ 63 := Nat.le_trans (List.length_filter_le _ _) hn
  have zz : 1000 ≤ PySem.sizeLine := by decide +kernel
  generalize hgs : (ns.filter fun z => decide ((10 : Int) ^ 18 ≤ absI z)).map absI = gs at q1
  generalize hss : ((ns.filter fun z => !decide ((10 : Int) ^ 18 ≤ absI z)).map fun z => z % 1000000007) ++ [(ns.length : Int) + 1] = ss at q2
  have ls : ss.length ≤ 64 := by rw [← hss, List.length_append, List.length_map, List.length_singleton]; omega
  have lf : (((ns.map D.int).filter fun d => !isBig d).map modOf).length + 1 ≤ PySem.sizeLine := by
    have := congrArg List.length q2
    simp only [List.length_append, List.length_map, List.length_singleton] at this
    rw [List.length_map]
    omega
  have i1 : ∀ l : List Int, intsOf (l.map D.int) = some l := fun l => by
    induction l with
    | nil => rfl
    | cons a l ih => rw [List.map_cons]; unfold intsOf; rw [ih]; rfl
  have d1 : decide (0 + 1 ≤ PySem.sizeLine) = true := decide_eq_true (by omega)
  have d4 : decide (0 + 1 + 1 + 1 + 1 ≤ PySem.sizeLine) = true := decide_eq_true (by omega)
  have w : (0 : Int) < 999983 := by decide
  simp only [d1, startD, List.map_cons, List.map_nil, List.replicate, List.cons_append, List.nil_append, List.length_cons, List.length_nil, if_true, if_false, reduceIte, sSeq, sSet, eHB, hV, hE, eC, eV, eBin, eH, List.getElem?_cons_zero, List.getElem?_cons_succ, Out.bind_ok, Out.opt, deref, MO.now, Option.map_some, Option.bind_some, idxD, Out.st_ok, List.set_cons_zero, List.set_cons_succ, SOut.seq_nx, SOut.seq_rt, sAsg, tI, okO, curH, putO, setI, addD, subD, optS, sIf, bV, eCmp, lenD, bD, sNil, sRet, mulD, modD, fdivD, endD_rt, endD_nx, intD, sMt, aC, aN, eCall, MO.isL, gtD, ltD, List.length_map, lf]
  rw [if_pos (by simpa using lf), q2, q1]
  have z0 : (0 : Int) < 999983 := by decide
  simp only [startD, List.map_cons, List.map_nil, List.replicate, List.cons_append, List.nil_append, List.length_cons, List.length_nil, if_true, if_false, reduceIte, sSeq, sSet, eHB, hV, hE, eC, eV, eBin, eH, List.getElem?_cons_zero, List.getElem?_cons_succ, Out.bind_ok, Out.opt, deref, MO.now, Option.map_some, Option.bind_some, idxD, Out.st_ok, List.set_cons_zero, List.set_cons_succ, SOut.seq_nx, SOut.seq_rt, sAsg, tI, okO, curH, putO, setI, addD, subD, optS, sIf, bV, eCmp, lenD, bD, sNil, sRet, mulD, modD, fdivD, endD_rt, endD_nx, intD, sMt, aC, aN, eCall, MO.isL, gtD, ltD, eAl, mLst, szOk, sumD, i1, d4, z0]
  refine ⟨_, _, rfl, ⟨0, gs, ss, 0, ss.sum % 999983, rfl, rfl, by decide, fun e => ?_, ls, fun g hg => ?_, fun z hz => ?_, Int.le_refl _, by decide, Int.emod_nonneg _ (by decide), Int.emod_lt_of_pos _ (by decide)⟩⟩
  · rw [← hss] at e
    simp at e
  · rw [← hgs] at hg
    obtain ⟨y, _, rfl⟩ := List.mem_map.mp hg
    unfold absI
    split <;> omega
  · rw [← hss] at hz
    rcases List.mem_append.mp hz with h | h
    · obtain ⟨y, _, rfl⟩ := List.mem_map.mp h
      exact ⟨Int.emod_nonneg _ (by decide), Int.emod_lt_of_pos _ (by decide)⟩
    · rw [List.mem_singleton] at h
      omega
theorem get_perm {α : Type} : ∀ {l : List α} {i : Nat} {a : α}, l[i]? = some a → (a :: l.eraseIdx i).Perm l
  | [], _, _, h => by cases h
  | x :: l, 0, a, h => by cases h; exact .refl _
  | x :: l, i + 1, a, h => by
    have h : l[i]? = some a := h
    exact (List.Perm.swap x a _).trans ((get_perm h).cons x)
theorem set_perm {α : Type} : ∀ {l : List α} {i : Nat} {a b : α}, l[i]? = some a → (l.set i b).Perm (b :: l.eraseIdx i)
  | [], _, _, _, h => by cases h
  | x :: l, 0, a, b, h => .refl _
  | x :: l, i + 1, a, b, h => by
    have h : l[i]? = some a := h
    exact ((set_perm h).cons x).trans (List.Perm.swap b x _)
theorem swap_perm {α : Type} (xs : List α) (i j : Nat) (a b : α) (hi : xs[i]? = some a) (hj : xs[j]? = some b) : ((xs.set i b).set j a).Perm xs := by
  have eb : (xs.set i b)[j]? = some b := by
    by_cases e : i = j
    · subst e
      exact List.getElem?_set_self (List.getElem?_eq_some_iff.mp hi).1
    · rw [List.getElem?_set_ne e]
      exact hj
  have p4 := (List.perm_cons b).mp ((get_perm eb).trans (set_perm (b := b) hi))
  exact (set_perm eb).trans ((p4.cons a).trans (get_perm hi))
theorem mixed_loop {p : Nat} {n : Nat} (hn : 1 ≤ n) (hn2 : n ≤ 100) (x1 : D) : ∀ (k fuel : Nat) (S : Store) (ys : List D) (s3 s4 : Slot) (lo : Nat), lo + k = n → ys.length = n → Pot S p (fuel + k) →
    ∃ ys' s3' s4' S', forL (gN 3) L0__law_mixed
      ((List.range' lo k).map fun i => .int (i : Nat)) [.val (.ptr p), .val x1, .own (.lst ys), s3, s4] S = .nx [.val (.ptr p), .val x1, .own (.lst ys'), s3', s4'] S' ∧ ys'.Perm ys ∧ Pot S' p fuel ∧ S'.length = S.length := by
  intro k
  induction k with
  | zero => intro fuel S ys s3 s4 lo _ _ P; exact ⟨ys, s3, s4, S, rfl, .refl _, P, rfl⟩
  | succ k ih =>
    intro fuel S ys s3 s4 lo hlo hl P
    have P' : Pot S p ((fuel + k) + 1) := P
    obtain ⟨r, S1, r0, r1, ed, P1, l1⟩ := draw_ok (n := (n : Nat)) P' (by omega) (by omega)
    rw [List.range'_succ, List.map_cons]
    unfold forL L0__law_mixed
    have lr : r.toNat < ys.length := by omega
    have ll : lo < ys.length := by omega
    have ir : ixN n r = some r.toNat := ix_at r0 (by omega)
    have il : ixN n (lo : Nat) = some lo := by rw [ix_at (by omega) (by omega)]; rfl
    have ar : atI ys r = some ys[r.toNat] := by unfold atI; rw [hl, ir]; exact List.getElem?_eq_getElem lr
    have al : atI ys (lo : Nat) = some ys[lo] := by unfold atI; rw [hl, il]; exact List.getElem?_eq_getElem ll
    have two : decide (0 + 1 + 1 ≤ PySem.sizeLine) = true := by decide +kernel
    simp only [gN, startD, List.map_cons, List.map_nil, List.replicate, List.cons_append, List.nil_append, List.length_cons, List.length_nil, if_true, if_false, reduceIte, sSeq, sSet, eHB, hV, hE, eC, eV, eBin, eH, List.getElem?_cons_zero, List.getElem?_cons_succ, Out.bind_ok, Out.opt, deref, MO.now, Option.map_some, Option.bind_some, idxD, Out.st_ok, List.set_cons_zero, List.set_cons_succ, SOut.seq_nx, SOut.seq_rt, sAsg, tI, okO, curH, putO, setI, addD, subD, optS, sIf, bV, eCmp, lenD, bD, sNil, sRet, mulD, modD, fdivD, endD_rt, endD_nx, intD, sMt, aC, aN, eCall, MO.isL, gtD, ltD, hl, ed, eTup, tT, tAll, ar, al, ir, il, szOk, two, List.length_set, SOut.loop_nx]
    obtain ⟨ys', s3', s4', S', e, pm, P2, l2⟩ := ih fuel S1 ((ys.set lo ys[r.toNat]).set r.toNat ys[lo]) _ _ (lo + 1) (by omega) (by rw [List.length_set, List.length_set]; exact hl) P1
    exact ⟨ys', s3', s4', S', e, pm.trans (swap_perm ys lo r.toNat _ _ (List.getElem?_eq_getElem ll) (List.getElem?_eq_getElem lr)), P2, l2.trans l1⟩
theorem rng0 (n : Nat) (h : n ≤ 1000) : rngD1 [.int (n : Nat)] = some ((List.range' 0 n).map fun i => D.int (i : Nat)) := by
  rw [rng1 n (by omega), List.range_eq_range']
theorem mixed_e1 {S : Store} {p : Nat} {xs : List D} : sOwn 2 (mList (hV 1)) (startD 3 [.ptr p, .lst xs]) S = .nx [.val (.ptr p), .val (.lst xs), .own (.lst xs), .no, .no] S := rfl
theorem mixed_e2 {S : Store} {p : Nat} {xs : List D} (h3 : xs.length ≤ 1000) : iR1 (aC (eH (hV 2) lenD) aN) [.val (.ptr p), .val (.lst xs), .own (.lst xs), .no, .no] S = .ok ((List.range' 0 xs.length).map fun i => .int (i : Nat), S) := by
  have r := rng0 _ h3
  simp? [r]
theorem mixed_ok {S : Store} {p fuel : Nat} {xs : List D} (h1 : 1 ≤ xs.length) (h2 : xs.length ≤ 100) (P : Pot S p (fuel + xs.length)) :
    ∃ ys S', d__law_mixed [.ptr p, .lst xs] S = .ok (.lst ys, S') ∧ ys.Perm xs ∧ Pot S' p fuel ∧ S'.length = S.length := by
  obtain ⟨ys, s3, s4, S', e, pm, P2, l2⟩ := mixed_loop h1 h2 (.lst xs) xs.length fuel S xs .no .no 0 (by omega) rfl P
  refine ⟨ys, S', ?_, pm, P2, l2⟩
  have h3 : xs.length ≤ 1000 := by omega
  unfold d__law_mixed b__law_mixed
  rw [runD_a (n := 2) rfl, seq_nx mixed_e1, seq_nx ((for_run (mixed_e2 h3)).trans e)]
  rfl
/-! ### draws -/
theorem draw_nat {S : Store} {p fuel n : Nat} (P : Pot S p (fuel + 1)) (h1 : 1 ≤ n) (h2 : n ≤ 1000) : ∃ (r : Nat) (S' : Store), r < n ∧ d__law_draw [.ptr p, nD n] S = .ok (nD r, S') ∧ Pot S' p fuel ∧ S'.length = S.length := by
  obtain ⟨r, S', r0, r1, e, P', l⟩ := draw_ok (n := (n : Nat)) P (by omega) (by omega)
  refine ⟨r.toNat, S', by omega, ?_, P', l⟩
  rw [e]
  congr 3
  omega
theorem draws_l {Q : Nat → Prop} {ρ : LEnv} {n : NX} {e : EX} {p : Nat} : ∀ (ds : List D), (∀ d ∈ ds, ∃ ρ', n d ρ = some ρ' ∧ ∀ S fuel, Pot S p (fuel + 1) → ∃ (r : Nat) (S' : Store), Q r ∧ e ρ' S = .ok (nD r, S') ∧ Pot S' p fuel ∧ S'.length = S.length) → ∀ fuel S, Pot S p (fuel + ds.length) →
    ∃ (ns : List Nat) (S' : Store), lcL n bTrue e ds ρ S = .ok (ns.map nD, S') ∧ ns.length = ds.length ∧ (∀ x ∈ ns, Q x) ∧ Pot S' p fuel ∧ S'.length = S.length
  | [], _, fuel, S, P => ⟨[], S, rfl, rfl, by simp, P, rfl⟩
  | d :: ds, h, fuel, S, P => by
    obtain ⟨ρ', h1, h2⟩ := h d List.mem_cons_self
    obtain ⟨r, S1, q, e1, P1, l1⟩ := h2 S (fuel + ds.length) P
    obtain ⟨ns, S2, e2, l2, q2, P2, l3⟩ := draws_l ds (fun d hd => h d (.tail _ hd)) fuel S1 P1
    refine ⟨r :: ns, S2, ?_, by rw [List.length_cons, List.length_cons, l2], fun x hx => ?_, P2, l3.trans l1⟩
    · rw [lcL_cons h1]
      simp? [e1, e2]
    · rcases List.mem_cons.mp hx with rfl | hx
      · exact q
      · exact q2 x hx
theorem Pot.less {S : Store} {p f k : Nat} (P : Pot S p f) (h : k ≤ f) : Pot S p k := by
  obtain ⟨q, gs, ss, tr, sm, h1, h2, h3, h4, h5, h6, h7, h8, h9, h10⟩ := P.ex
  exact ⟨q, gs, ss, tr, sm, h1, h2, h3, h4, h5, h6, h7, h8, by omega, h10⟩
/-- a drawn order of names -/
theorem mixed_strs {S : Store} {p fuel : Nat} {ns : List Str} (h1 : 1 ≤ ns.length) (h2 : ns.length ≤ 100) (P : Pot S p (fuel + ns.length)) :
    ∃ (ss : List Str) (S' : Store), d__law_mixed [.ptr p, .lst (ns.map .str)] S = .ok (.lst (ss.map .str), S') ∧ ss.Perm ns ∧ Pot S' p fuel ∧ S'.length = S.length := by
  obtain ⟨ys, S', e, pm, P', l⟩ := mixed_ok (xs := ns.map D.str) (by rw [List.length_map]; exact h1) (by rw [List.length_map]; exact h2) (by rw [List.length_map]; exact P)
  have hy : ∀ y ∈ ys, y = .str (strOf y) := fun y hy => by
    obtain ⟨z, _, rfl⟩ := List.mem_map.mp (pm.mem_iff.mp hy)
    rfl
  have ey : (ys.map strOf).map D.str = ys := by
    rw [List.map_map]
    have : ys.map (D.str ∘ strOf) = ys.map id := List.map_congr_left fun y h => (hy y h).symm
    rw [this, List.map_id]
  refine ⟨ys.map strOf, S', by rw [ey]; exact e, ?_, P', l⟩
  have := pm.map strOf
  rw [List.map_map] at this
  have e2 : ns.map (strOf ∘ D.str) = ns.map id := List.map_congr_left fun _ _ => rfl
  rw [e2, List.map_id] at this
  exact this
end LW
end

section
set_option linter.all false
set_option maxRecDepth 100000
namespace LW
open PySem L2 GG
local macro_rules
  | `(tactic| simp? [$a,*] $[$l:location]?) => `(tactic| simp only [eC_a, eV_a, hE_a, hV_a, eH_a, eHB_a, eBin_a, eUn_a, eAnd_a, eOr_a, eNot_a, eIf_a, eCmp_a, eChain_a, aN_a, aC_a, eTup_a, eLst_a, eCall_a, eB_a, eFz_a, eAl_a, mLst_a, mLc_a, mLc2_a, mMk_a, mDic0_a, mList_a, eMeth_a, eIsi1_a, eIsi_a, eInH_a, eSl_a, oX_none, oX_some, bV_a, bT_a, bAnd_a, bOr_a, bNot_a, bTrue_a, iS_a, iEn_a, iZ_a, iR1_a, iR2_a, iR3_a, sSeq_a, sNil_a, sExpr_a, sRet_a, sRetN_a, sIf_a, sBrk_a, sCnt_a, sSet_a, sOwn_a, sFz_a, sFor_a, sMt_a, sFld_a, sAsg_a, sRaise_a, sTry_a, sMethO_a, endD_rt, endD_nx, endD_ex, bok, bex, oso, sok, sxc, cok, qnx, qrt, qbk, qct, qex, lnx, lct, lbk, lrt, lxc, oss, okk, obs, oms, add_i, sub_i, neg_i, lt_i, le_i, gt_i, ge_i, len_l, len_t, len_f, len_d, idx_l, idx_t, idx_f, walk_l, walk_t, walk_f, seq_l, seq_t, tuple_l, tuple_t, int_i, atI_0, atI_1, atI_2, dr_n, dr_b, dr_i, dr_s, dr_l, dr_t, dr_k, dr_f, dr_d, dr_o, dr_p, dr_w, now_l, now_d, now_o, frz_l, frz_d, frz_o, isL_l, frzAt, cu_p, cu_w, pu_p, pu_w, startD, startO, List.map_cons, List.map_nil, List.replicate, List.cons_append, List.nil_append, List.length_cons, List.length_nil, Nat.zero_add, Nat.reduceAdd, List.getElem?_cons_zero, List.getElem?_cons_succ, List.set_cons_zero, List.set_cons_succ, if_true, if_false, reduceIte, Bool.false_eq_true, bD_b, tru_n, tru_b, tru_l, tru_t, gN_a, gT_t, gAll_n, gAll_c, wipeD, ite_and, ite_or, ite_andB, ite_orB, szOk_0, szOk_1, szOk_2, szOk_3, szOk_4, Bool.not_true, Bool.not_false, Bool.true_and, Bool.and_true, Bool.false_and, Bool.and_false, Bool.true_or, Bool.or_true, Bool.false_or, Bool.or_false, decide_true, decide_false, tT, tAll, tN, tI, setI, sTry0_a, mSrt_a, mSrtTx_a, eEqO_a, tIK_a, now_td, frz_td, dr_td, idx_td, in_td, srt_td, $a,*] $[$l:location]?)
/-! ### drawn programs -/
theorem any_l {S : Store} {p fuel : Nat} {xs : List Str} (h : xs ≠ []) (hl : xs.length ≤ 1000) (P : Pot S p (fuel + 1)) : ∃ (x : Str) (S' : Store), d__law_any [.ptr p, .lst (xs.map D.str)] S = .ok (.str x, S') ∧ x ∈ xs ∧ Pot S' p fuel ∧ S'.length = S.length := by
  have l0 : 0 < xs.length := List.length_pos_iff.mpr h
  obtain ⟨r, S', lt, e, P', l⟩ := draw_nat (n := xs.length) P l0 hl
  refine ⟨xs[r], S', ?_, List.getElem_mem lt, P', l⟩
  have i := at_map (f := D.str) (List.getElem?_eq_getElem lt)
  unfold d__law_any b__law_any
  rw [runD_a (n := 2) rfl]
  simp? [List.length_map, e, i]
theorem any_t {S : Store} {p fuel : Nat} {xs : List Str} (h : xs ≠ []) (hl : xs.length ≤ 1000) (P : Pot S p (fuel + 1)) : ∃ (x : Str) (S' : Store), d__law_any [.ptr p, strsT xs] S = .ok (.str x, S') ∧ x ∈ xs ∧ Pot S' p fuel ∧ S'.length = S.length := by
  have l0 : 0 < xs.length := List.length_pos_iff.mpr h
  obtain ⟨r, S', lt, e, P', l⟩ := draw_nat (n := xs.length) P l0 hl
  refine ⟨xs[r], S', ?_, List.getElem_mem lt, P', l⟩
  have i := at_map (f := D.str) (List.getElem?_eq_getElem lt)
  unfold d__law_any b__law_any
  rw [runD_a (n := 2) rfl]
  simp? [List.length_map, e, i]
theorem law_deed_ok {S : Store} {p fuel : Nat} {xs : List Str} (h : xs ≠ []) (hl : xs.length ≤ 1000) (P : Pot S p (fuel + 3)) : ∃ (d : Dd) (S' : Store), d__law_deed [.ptr p, .lst (xs.map D.str)] S = .ok (ddD d, S') ∧ (∀ x ∈ d.names, x ∈ xs) ∧ Pot S' p fuel ∧ S'.length = S.length := by
  obtain ⟨k, S1, lt, e1, P1, l1⟩ := draw_nat (n := 5) P (by decide) (by decide)
  obtain ⟨x, S2, e2, hx, P2, l2⟩ := any_l h hl P1
  have q0 := eqD_i (k : Nat) 0
  unfold d__law_deed b__law_deed
  rw [runD_a (n := 2) rfl]
  have e1' : d__law_draw [.ptr p, .int 5] S = .ok (nD k, S1) := e1
  by_cases k0 : k = 0
  · rw [decide_eq_true (by omega)] at q0
    refine ⟨.zero x, S2, ?_, fun y hy => ?_, P2.less (Nat.le_succ _), l2.trans l1⟩
    · simp? [e1', e2, q0]
      rfl
    · simp only [Dd.names, List.mem_singleton] at hy
      rw [hy]; exact hx
  · rw [decide_eq_false (by omega)] at q0
    by_cases k3 : k < 3
    · have c : decide (((k : Nat) : Int) < 3) = true := decide_eq_true (by omega)
      obtain ⟨y, S3, e3, hy, P3, l3⟩ := any_l h hl P2
      refine ⟨.copy x y, S3, ?_, fun z hz => ?_, P3, l3.trans (l2.trans l1)⟩
      · simp? [e1', e2, q0, c, e3]
        rfl
      · simp only [Dd.names, List.mem_cons, List.not_mem_nil, or_false] at hz
        rcases hz with rfl | rfl
        · exact hx
        · exact hy
    · have c : decide (((k : Nat) : Int) < 3) = false := decide_eq_false (by omega)
      refine ⟨.more x, S2, ?_, fun y hy => ?_, P2.less (Nat.le_succ _), l2.trans l1⟩
      · simp? [e1', e2, q0, c]
        rfl
      · simp only [Dd.names, List.mem_singleton] at hy
        rw [hy]; exact hx
theorem sl_to (xs : List D) (k : Nat) : sliceD none (some (k : Int)) (.lst xs) = some (.lst (xs.take k)) := by
  show some (D.lst (cutD xs none (some (k : Int)))) = _
  rw [cut_to]
theorem at_m1_3 (a b c : D) : atI [a, b, c] (-1) = some c := rfl
theorem at_m2_3 (a b c : D) : atI [a, b, c] (-2) = some b := rfl
theorem at_m1_4 (a b c d : D) : atI [a, b, c, d] (-1) = some d := rfl
theorem at_m2_4 (a b c d : D) : atI [a, b, c, d] (-2) = some c := rfl
theorem rng3_1 : rngD3 [.int 1, .int 0, .int (-1)] = some [.int 1] := by
  show (if ((-1 : Int) == -1 && fitI 1 && fitI 0 && szOk ((1 : Int) - 0).toNat) = true then some (rngL 1 (-1) ((1 : Int) - 0).toNat) else none) = _
  rw [if_pos (by decide +kernel)]
  rfl
theorem rng3_2 : rngD3 [.int 2, .int 0, .int (-1)] = some [.int 2, .int 1] := by
  show (if ((-1 : Int) == -1 && fitI 2 && fitI 0 && szOk ((2 : Int) - 0).toNat) = true then some (rngL 2 (-1) ((2 : Int) - 0).toNat) else none) = _
  rw [if_pos (by decide +kernel)]
  rfl
theorem take_34 {ss : List Str} {r : Nat} (h : 3 ≤ ss.length) (hr : r < 2) : (∃ a b c, ss.take (3 + r) = [a, b, c]) ∨ ∃ a b c d, ss.take (3 + r) = [a, b, c, d] := by
  match ss, h with
  | [a, b, c], _ =>
    have : r = 0 ∨ r = 1 := by omega
    rcases this with rfl | rfl <;> exact .inl ⟨a, b, c, rfl⟩
  | a :: b :: c :: d :: r', _ =>
    have : r = 0 ∨ r = 1 := by omega
    rcases this with rfl | rfl
    · exact .inl ⟨a, b, c, rfl⟩
    · exact .inr ⟨a, b, c, d, rfl⟩
def wheel3 (a b c x : Str) : List Dd := [.copy c b, .copy b a, .copy a c, .more x]
def wheel4 (a b c d x : Str) : List Dd := [.copy d c, .copy c b, .copy b a, .copy a d, .more x]
theorem add_LL (x y : List D) (h : x.length + y.length ≤ 16777216) : addD (.lst x) (.lst y) = some (.lst (x ++ y)) := add_l h
theorem law_wheel_ok {S : Store} {p fuel : Nat} {xs : List Str} (h : 3 ≤ xs.length) (hl : xs.length ≤ 100) (P : Pot S p (fuel + 2 + xs.length)) : ∃ (ds : List Dd) (S' : Store), d__law_wheel [.ptr p, .lst (xs.map D.str)] S = .ok (.tup (ds.map ddD), S') ∧ (∀ d ∈ ds, ∀ x ∈ d.names, x ∈ xs) ∧ ds.length ≤ 5 ∧ Pot S' p fuel ∧ S'.length = S.length := by
  obtain ⟨ss, S1, e1, pm, P1, l1⟩ := mixed_strs (p := p) (fuel := fuel + 2) (ns := xs) (by omega) hl P
  obtain ⟨r, S2, lr, e2, P2, l2⟩ := draw_nat (n := 2) P1 (by decide) (by decide)
  have e2' : d__law_draw [.ptr p, .int 2] S1 = .ok (nD r, S2) := e2
  have sl := sl_to (ss.map D.str) (3 + r)
  have cs : (((3 + r : Nat) : Int)) = 3 + (r : Nat) := by omega
  rw [cs, ← List.map_take] at sl
  have sub : ∀ x ∈ ss.take (3 + r), x ∈ xs := fun x hx => pm.mem_iff.mp (List.mem_of_mem_take hx)
  unfold d__law_wheel b__law_wheel
  rw [runD_a (n := 2) rfl]
  rcases take_34 (ss := ss) (r := r) (by rw [pm.length_eq]; exact h) lr with ⟨a, b, c, et⟩ | ⟨a, b, c, d, et⟩
  · rw [et] at sl sub
    obtain ⟨k, S3, lk, e3, P3, l3⟩ := draw_nat (n := 2) P2 (by decide) (by decide)
    have e3' : d__law_draw [.ptr p, .int 2] S2 = .ok (nD k, S3) := e3
    have ek : ∃ x, atI [D.str a, .str b, .str c] ((k : Nat) : Int) = some (.str x) ∧ x ∈ [a, b, c] := by
      have : k = 0 ∨ k = 1 := by omega
      rcases this with rfl | rfl
      · exact ⟨a, rfl, by simp⟩
      · exact ⟨b, rfl, by simp⟩
    obtain ⟨x, ek, hx⟩ := ek
    refine ⟨wheel3 a b c x, S3, ?_, fun dd hd y hy => ?_, by simp [wheel3], P3, l3.trans (l2.trans l1)⟩
    · have lp : forL (gN 4) L0__law_wheel [D.int 1] [.val (.ptr p), .val (.lst (xs.map D.str)), .val (.lst [.str a, .str b, .str c]), .own (.lst [.tup [.str "copy", .str c, .str b]]), .no] S2 = .nx [.val (.ptr p), .val (.lst (xs.map D.str)), .val (.lst [.str a, .str b, .str c]), .own (.lst [.tup [.str "copy", .str c, .str b], .tup [.str "copy", .str b, .str a]]), .val (.int 1)] S2 := by
        rw [forL_cons (ρ' := [.val (.ptr p), .val (.lst (xs.map D.str)), .val (.lst [.str a, .str b, .str c]), .own (.lst [.tup [.str "copy", .str c, .str b]]), .val (.int 1)]) rfl]
        have ap := app_l (xs := [D.tup [.str "copy", .str c, .str b]]) (d := .tup [.str "copy", .str b, .str a]) (by simp only [List.length_cons, List.length_nil]; decide)
        unfold L0__law_wheel
        simp? [Int.reduceSub, ap]
        rfl
      have n2 : ((3 : Nat) : Int) - 2 = 1 := by decide
      have n1 : ((3 : Nat) : Int) - 1 = 2 := by decide
      have m1 := at_m1_3 (.str a) (.str b) (.str c)
      have m2 := at_m2_3 (.str a) (.str b) (.str c)
      simp only [List.map_cons, List.map_nil] at sl
      have aL := add_LL [.tup [.str "copy", .str c, .str b], .tup [.str "copy", .str b, .str a]] [.tup [.str "copy", .str a, .str c], .tup [.str "more", .str x]] (by simp only [List.length_cons, List.length_nil]; decide)
      simp? [e1, e2', sl, m1, m2, n1, n2, rng3_1, lp, e3', ek, aL]
      rfl
    · refine sub y ?_
      simp only [wheel3, List.mem_cons, List.not_mem_nil, or_false] at hd hx
      rcases hd with rfl | rfl | rfl | rfl <;> simp [Dd.names] at hy <;> (try rcases hy with rfl | rfl) <;> simp
      rcases hx with rfl | rfl | rfl <;> simp
  · rw [et] at sl sub
    obtain ⟨k, S3, lk, e3, P3, l3⟩ := draw_nat (n := 3) P2 (by decide) (by decide)
    have e3' : d__law_draw [.ptr p, .int 3] S2 = .ok (nD k, S3) := e3
    have ek : ∃ x, atI [D.str a, .str b, .str c, .str d] ((k : Nat) : Int) = some (.str x) ∧ x ∈ [a, b, c, d] := by
      have : k = 0 ∨ k = 1 ∨ k = 2 := by omega
      rcases this with rfl | rfl | rfl
      · exact ⟨a, rfl, by simp⟩
      · exact ⟨b, rfl, by simp⟩
      · exact ⟨c, rfl, by simp⟩
    obtain ⟨x, ek, hx⟩ := ek
    refine ⟨wheel4 a b c d x, S3, ?_, fun dd hd y hy => ?_, by simp [wheel4], P3, l3.trans (l2.trans l1)⟩
    · have lp : forL (gN 4) L0__law_wheel [D.int 2, .int 1] [.val (.ptr p), .val (.lst (xs.map D.str)), .val (.lst [.str a, .str b, .str c, .str d]), .own (.lst [.tup [.str "copy", .str d, .str c]]), .no] S2 = .nx [.val (.ptr p), .val (.lst (xs.map D.str)), .val (.lst [.str a, .str b, .str c, .str d]), .own (.lst [.tup [.str "copy", .str d, .str c], .tup [.str "copy", .str c, .str b], .tup [.str "copy", .str b, .str a]]), .val (.int 1)] S2 := by
        rw [forL_cons (ρ' := [.val (.ptr p), .val (.lst (xs.map D.str)), .val (.lst [.str a, .str b, .str c, .str d]), .own (.lst [.tup [.str "copy", .str d, .str c]]), .val (.int 2)]) rfl]
        have ap := app_l (xs := [D.tup [.str "copy", .str d, .str c]]) (d := .tup [.str "copy", .str c, .str b]) (by simp only [List.length_cons, List.length_nil]; decide)
        have st : L0__law_wheel [.val (.ptr p), .val (.lst (xs.map D.str)), .val (.lst [.str a, .str b, .str c, .str d]), .own (.lst [.tup [.str "copy", .str d, .str c]]), .val (.int 2)] S2 = .nx [.val (.ptr p), .val (.lst (xs.map D.str)), .val (.lst [.str a, .str b, .str c, .str d]), .own (.lst [.tup [.str "copy", .str d, .str c], .tup [.str "copy", .str c, .str b]]), .val (.int 2)] S2 := by
          unfold L0__law_wheel
          simp? [Int.reduceSub, ap]
        rw [st, lnx, forL_cons (ρ' := [.val (.ptr p), .val (.lst (xs.map D.str)), .val (.lst [.str a, .str b, .str c, .str d]), .own (.lst [.tup [.str "copy", .str d, .str c], .tup [.str "copy", .str c, .str b]]), .val (.int 1)]) rfl]
        have ap2 := app_l (xs := [D.tup [.str "copy", .str d, .str c], .tup [.str "copy", .str c, .str b]]) (d := .tup [.str "copy", .str b, .str a]) (by simp only [List.length_cons, List.length_nil]; decide)
        unfold L0__law_wheel
        simp? [Int.reduceSub, ap2]
        rfl
      have n2 : ((4 : Nat) : Int) - 2 = 2 := by decide
      have n1 : ((4 : Nat) : Int) - 1 = 3 := by decide
      have m1 := at_m1_4 (.str a) (.str b) (.str c) (.str d)
      have m2 := at_m2_4 (.str a) (.str b) (.str c) (.str d)
      simp only [List.map_cons, List.map_nil] at sl
      have aL := add_LL [.tup [.str "copy", .str d, .str c], .tup [.str "copy", .str c, .str b], .tup [.str "copy", .str b, .str a]] [.tup [.str "copy", .str a, .str d], .tup [.str "more", .str x]] (by simp only [List.length_cons, List.length_nil]; decide)
      simp? [e1, e2', sl, m1, m2, n1, n2, rng3_2, lp, e3', ek, aL]
      rfl
    · refine sub y ?_
      simp only [wheel4, List.mem_cons, List.not_mem_nil, or_false] at hd hx
      rcases hd with rfl | rfl | rfl | rfl | rfl <;> simp [Dd.names] at hy <;> (try rcases hy with rfl | rfl) <;> simp
      rcases hx with rfl | rfl | rfl | rfl <;> simp
end LW
end

section
set_option linter.all false
set_option maxRecDepth 100000
namespace LW
open PySem L2 GG
local macro_rules
  | `(tactic| simp? [$a,*] $[$l:location]?) => `(tactic| simp only [eC_a, eV_a, hE_a, hV_a, eH_a, eHB_a, eBin_a, eUn_a, eAnd_a, eOr_a, eNot_a, eIf_a, eCmp_a, eChain_a, aN_a, aC_a, eTup_a, eLst_a, eCall_a, eB_a, eFz_a, eAl_a, mLst_a, mLc_a, mLc2_a, mMk_a, mDic0_a, mList_a, eMeth_a, eIsi1_a, eIsi_a, eInH_a, eSl_a, oX_none, oX_some, bV_a, bT_a, bAnd_a, bOr_a, bNot_a, bTrue_a, iS_a, iEn_a, iZ_a, iR1_a, iR2_a, iR3_a, sSeq_a, sNil_a, sExpr_a, sRet_a, sRetN_a, sIf_a, sBrk_a, sCnt_a, sSet_a, sOwn_a, sFz_a, sFor_a, sMt_a, sFld_a, sAsg_a, sRaise_a, sTry_a, sMethO_a, endD_rt, endD_nx, endD_ex, bok, bex, oso, sok, sxc, cok, qnx, qrt, qbk, qct, qex, lnx, lct, lbk, lrt, lxc, oss, okk, obs, oms, add_i, sub_i, neg_i, lt_i, le_i, gt_i, ge_i, len_l, len_t, len_f, len_d, idx_l, idx_t, idx_f, walk_l, walk_t, walk_f, seq_l, seq_t, tuple_l, tuple_t, int_i, atI_0, atI_1, atI_2, dr_n, dr_b, dr_i, dr_s, dr_l, dr_t, dr_k, dr_f, dr_d, dr_o, dr_p, dr_w, now_l, now_d, now_o, frz_l, frz_d, frz_o, isL_l, frzAt, cu_p, cu_w, pu_p, pu_w, startD, startO, List.map_cons, List.map_nil, List.replicate, List.cons_append, List.nil_append, List.length_cons, List.length_nil, Nat.zero_add, Nat.reduceAdd, List.getElem?_cons_zero, List.getElem?_cons_succ, List.set_cons_zero, List.set_cons_succ, if_true, if_false, reduceIte, Bool.false_eq_true, bD_b, tru_n, tru_b, tru_l, tru_t, gN_a, gT_t, gAll_n, gAll_c, wipeD, ite_and, ite_or, ite_andB, ite_orB, szOk_0, szOk_1, szOk_2, szOk_3, szOk_4, Bool.not_true, Bool.not_false, Bool.true_and, Bool.and_true, Bool.false_and, Bool.and_false, Bool.true_or, Bool.or_true, Bool.false_or, Bool.or_false, decide_true, decide_false, tT, tAll, tN, tI, setI, sTry0_a, mSrt_a, mSrtTx_a, eEqO_a, tIK_a, now_td, frz_td, dr_td, idx_td, in_td, srt_td, $a,*] $[$l:location]?)
theorem deeds_l {p : Nat} {ns : List Str} (h : ns ≠ []) (hl : ns.length ≤ 1000) {ρ : LEnv} (h0 : ρ[0]? = some (.val (.ptr p))) (h4 : ρ[4]? = some (.val (.lst (ns.map D.str)))) : ∀ (items : List D) (fuel : Nat) (S : Store), Pot S p (fuel + 3 * items.length) →
    ∃ (ds : List Dd) (S' : Store), lcL (gN 12) bTrue (eCall d__law_deed (aC (eV 0) (aC (eV 4) aN))) items ρ S = .ok (ds.map ddD, S') ∧ ds.length = items.length ∧ (∀ d ∈ ds, ∀ x ∈ d.names, x ∈ ns) ∧ Pot S' p fuel ∧ S'.length = S.length
  | [], fuel, S, P => ⟨[], S, rfl, rfl, by simp, P, rfl⟩
  | d :: items, fuel, S, P => by
    rw [List.length_cons] at P
    obtain ⟨d1, S1, e1, n1, P1, l1⟩ := law_deed_ok (fuel := fuel + 3 * items.length) h hl (by rw [show fuel + 3 * items.length + 3 = fuel + 3 * (items.length + 1) from by omega]; exact P)
    obtain ⟨ds, S2, e2, l2, n2, P2, l3⟩ := deeds_l h hl h0 h4 items fuel S1 P1
    refine ⟨d1 :: ds, S2, ?_, by rw [List.length_cons, List.length_cons, l2], fun x hx => ?_, P2, l3.trans l1⟩
    · rw [lcL_cons (ρ' := ρ.set 12 (.val d)) rfl]
      have g0 : (ρ.set 12 (.val d))[0]? = some (.val (.ptr p)) := by rw [List.getElem?_set_ne (by decide)]; exact h0
      have g4 : (ρ.set 12 (.val d))[4]? = some (.val (.lst (ns.map D.str))) := by rw [List.getElem?_set_ne (by decide)]; exact h4
      simp? [g0, g4, e1, e2]
    · rcases List.mem_cons.mp hx with rfl | hx
      · exact n1
      · exact n2 x hx
theorem name_sel {S : Store} {p fuel : Nat} {ns g : List Str} (h : ns ≠ []) (hl : ns.length ≤ 1000) (hg : ∀ x ∈ g, x ∈ ns) (gl : g.length ≤ 1000) {ρ : LEnv} (h0 : ρ[0]? = some (.val (.ptr p))) (h4 : ρ[4]? = some (.val (.lst (ns.map D.str)))) (h5 : ρ[5]? = some (.val (strsT g))) (P : Pot S p (fuel + 2)) :
    ∃ (x : Str) (S' : Store), eIf (bAnd (bV (eCmp gtD (eH (hV 5) lenD) (eC (.int 0)))) (bV (eCmp eqD (eCall d__law_draw (aC (eV 0) (aC (eC (.int 2)) aN))) (eC (.int 0))))) (eCall d__law_any (aC (eV 0) (aC (eV 5) aN))) (eCall d__law_any (aC (eV 0) (aC (eV 4) aN))) ρ S = .ok (.str x, S') ∧ x ∈ ns ∧ Pot S' p fuel ∧ S'.length = S.length := by
  by_cases hg0 : g = []
  · obtain ⟨x, S1, e1, hx, P1, l1⟩ := any_l h hl (P.less (show fuel + 1 ≤ fuel + 2 by omega))
    refine ⟨x, S1, ?_, hx, P1, l1⟩
    subst hg0
    have c : decide ((0 : Int) < ((0 : Nat) : Int)) = false := by decide
    simp? [h5, h4, h0, c, e1]
  · have c : decide ((0 : Int) < ((g.map D.str).length : Nat)) = true := decide_eq_true (by rw [List.length_map]; have := List.length_pos_iff.mpr hg0; omega)
    obtain ⟨k, S1, lk, e1, P1, l1⟩ := draw_nat (n := 2) P (by decide) (by decide)
    have e1' : d__law_draw [.ptr p, .int 2] S = .ok (nD k, S1) := e1
    have q0 := eqD_i (k : Nat) 0
    by_cases k0 : k = 0
    · rw [decide_eq_true (by omega)] at q0
      obtain ⟨x, S2, e2, hx, P2, l2⟩ := any_t hg0 gl P1
      refine ⟨x, S2, ?_, hg x hx, P2, l2.trans l1⟩
      simp? [h5, h4, h0, c, e1', q0, e2]
    · rw [decide_eq_false (by omega)] at q0
      obtain ⟨x, S2, e2, hx, P2, l2⟩ := any_l h hl P1
      refine ⟨x, S2, ?_, hx, P2, l2.trans l1⟩
      simp? [h5, h4, h0, c, e1', q0, e2]
theorem two_of {α : Type} : ∀ {ss : List α}, 2 ≤ ss.length → ∃ u v rest, ss = u :: v :: rest
  | u :: v :: rest, _ => ⟨u, v, rest, rfl⟩
  | [], h => absurd h (by simp)
  | [_], h => absurd h (by simp)
/-- a statement within names -/
def stIn (ns : List Str) (s : Stm) : Prop := (∀ x ∈ s.names, x ∈ ns) ∧ s.len ≤ 5
theorem spec_step {S : Store} {p fuel : Nat} {ns g : List Str} {b : List Stm} {x1 x2 x3 s7 s8 s9 s10 s11 s12 : Slot} (h : 3 ≤ ns.length) (hl : ns.length ≤ 10) (hg : ∀ x ∈ g, x ∈ ns) (gl : g.length ≤ 1000) (bl : b.length ≤ 1000) (P : Pot S p (fuel + 20)) :
    ∃ (s : Stm) (S' : Store) (t8 t9 t10 t11 : Slot), L0__law_spec [.val (.ptr p), x1, x2, x3, .val (.lst (ns.map D.str)), .val (strsT g), .own (.lst (b.map stD)), s7, s8, s9, s10, s11, s12] S =
      .nx [.val (.ptr p), x1, x2, x3, .val (.lst (ns.map D.str)), .val (strsT g), .own (.lst ((b ++ [s]).map stD)), s7, t8, t9, t10, t11, s12] S' ∧ stIn ns s ∧ Pot S' p fuel ∧ S'.length = S.length := by
  have hne : ns ≠ [] := fun e => by rw [e] at h; simp at h
  have hl1 : ns.length ≤ 1000 := by omega
  obtain ⟨k, S1, lk, e1, P1, l1⟩ := draw_nat (n := 5) (fuel := fuel + 19) P (by decide) (by decide)
  have e1' : d__law_draw [.ptr p, .int 5] S = .ok (nD k, S1) := e1
  obtain ⟨x, S2, e2, hx, P2, l2⟩ := name_sel (S := S1) (p := p) (fuel := fuel + 17) (ρ := [.val (.ptr p), x1, x2, x3, .val (.lst (ns.map D.str)), .val (strsT g), .own (.lst (b.map stD)), s7, .val (nD k), s9, s10, s11, s12]) hne hl1 hg gl rfl rfl rfl P1
  have ap : ∀ s, appD [stD s] (.lst (b.map stD)) = some (.lst ((b ++ [s]).map stD)) := fun s => by
    rw [app_l (by rw [List.length_map]; omega), List.map_append]
    rfl
  have q0 := eqD_i (k : Nat) 0
  have q3 := eqD_i (k : Nat) 3
  unfold L0__law_spec
  rw [seq_nx (ρ' := [.val (.ptr p), x1, x2, x3, .val (.lst (ns.map D.str)), .val (strsT g), .own (.lst (b.map stD)), s7, .val (nD k), s9, s10, s11, s12]) (S' := S1) (by simp? [e1'])]
  rw [seq_nx (ρ' := [.val (.ptr p), x1, x2, x3, .val (.lst (ns.map D.str)), .val (strsT g), .own (.lst (b.map stD)), s7, .val (nD k), .val (.str x), s10, s11, s12]) (S' := S2) (by rw [sSet_a, e2]; simp? [])]
  by_cases k0 : k = 0
  · rw [decide_eq_true (by omega)] at q0
    obtain ⟨d, S3, e3, n3, P3, l3⟩ := law_deed_ok (fuel := fuel) hne hl1 (P2.less (show fuel + 3 ≤ fuel + 17 by omega))
    refine ⟨.deed d, S3, .val (nD k), .val (.str x), s10, s11, ?_, ⟨n3, Nat.zero_le _⟩, P3, l3.trans (l2.trans l1)⟩
    have ap := ap (.deed d)
    have e : stD (.deed d) = ddD d := rfl
    rw [e] at ap
    simp? [q0, e3, ap]
  · rw [decide_eq_false (by omega)] at q0
    by_cases k3 : k < 3
    · have c3 : decide (((k : Nat) : Int) < 3) = true := decide_eq_true (by omega)
      obtain ⟨r, S3, lr, e3, P3, l3⟩ := draw_nat (n := 5) (fuel := fuel + 16) P2 (by decide) (by decide)
      have e3' : d__law_draw [.ptr p, .int 5] S2 = .ok (nD r, S3) := e3
      have rg := rng1 r (by omega)
      obtain ⟨ds, S4, e4, l4, n4, P4, l5⟩ := deeds_l (p := p) (ns := ns) hne hl1 (ρ := [.val (.ptr p), x1, x2, x3, .val (.lst (ns.map D.str)), .val (strsT g), .own (.lst (b.map stD)), s7, .val (nD k), .val (.str x), s10, s11, .no]) rfl rfl ((List.range r).map fun i => D.int (i : Nat)) fuel S3 (P3.less (by rw [List.length_map, List.length_range]; omega))
      rw [List.length_map, List.length_range] at l4
      refine ⟨.round x ds, S4, .val (nD k), .val (.str x), s10, s11, ?_, ⟨fun y hy => ?_, by show ds.length ≤ 5; omega⟩, P4, l5.trans (l3.trans (l2.trans l1))⟩
      · have ap := ap (.round x ds)
        have e : stD (.round x ds) = .tup [.str "round", .str x, .tup (ds.map ddD)] := rfl
        rw [e] at ap
        simp? [q0, c3, e3', rg, e4, ap]
      · simp only [Stm.names, List.mem_cons, List.mem_flatMap] at hy
        rcases hy with rfl | ⟨d, hd, hy⟩
        · exact hx
        · exact n4 d hd y hy
    · have c3 : decide (((k : Nat) : Int) < 3) = false := decide_eq_false (by omega)
      by_cases k4 : k = 3
      · rw [decide_eq_true (by omega)] at q3
        obtain ⟨ds, S3, e3, n3, dl, P3, l3⟩ := law_wheel_ok (fuel := fuel) h (by omega) (P2.less (show fuel + 2 + ns.length ≤ fuel + 17 by omega))
        refine ⟨.round x ds, S3, .val (nD k), .val (.str x), s10, s11, ?_, ⟨fun y hy => ?_, dl⟩, P3, l3.trans (l2.trans l1)⟩
        · have ap := ap (.round x ds)
          have e : stD (.round x ds) = .tup [.str "round", .str x, .tup (ds.map ddD)] := rfl
          rw [e] at ap
          simp? [q0, c3, q3, e3, ap]
        · simp only [Stm.names, List.mem_cons, List.mem_flatMap] at hy
          rcases hy with rfl | ⟨d, hd, hy⟩
          · exact hx
          · exact n3 d hd y hy
      · rw [decide_eq_false (by omega)] at q3
        obtain ⟨ss, S3, e3, pm, P3, l3⟩ := mixed_strs (p := p) (fuel := fuel) (ns := ns) (by omega) (by omega) (P2.less (show fuel + ns.length ≤ fuel + 17 by omega))
        have hs : 2 ≤ ss.length := by rw [pm.length_eq]; omega
        obtain ⟨u, v, rest, rfl⟩ := two_of hs
        have sl := sl_to ((u :: v :: rest).map D.str) 2
        have sl : sliceD none (some 2) (.lst (.str u :: .str v :: rest.map D.str)) = some (.lst [.str u, .str v]) := sl
        have hu : u ∈ ns := pm.mem_iff.mp (by simp)
        have hv : v ∈ ns := pm.mem_iff.mp (by simp)
        refine ⟨.round x [.copy u v, .more v], S3, .val (nD k), .val (.str x), .val (.str u), .val (.str v), ?_, ⟨fun y hy => ?_, by simp [Stm.len]⟩, P3, l3.trans (l2.trans l1)⟩
        · have ap := ap (.round x [.copy u v, .more v])
          have e : stD (.round x [.copy u v, .more v]) = .tup [.str "round", .str x, .tup [.tup [.str "copy", .str u, .str v], .tup [.str "more", .str v]]] := rfl
          rw [e] at ap
          have gl : ∀ ρ : LEnv, gL [gN 10, gN 11] (.lst [.str u, .str v]) ρ = some ((ρ.set 10 (.val (.str u))).set 11 (.val (.str v))) := fun ρ => rfl
          simp? [q0, c3, q3, e3, sl, gl, ap]
        · simp only [Stm.names, Dd.names, List.flatMap_cons, List.flatMap_nil, List.mem_cons, List.mem_append, List.not_mem_nil, or_false] at hy
          rcases hy with rfl | (rfl | rfl) | rfl
          · exact hx
          · exact hu
          · exact hv
          · exact hv
theorem spec_loop {p : Nat} {ns g : List Str} {x1 x2 x3 s12 : Slot} (h : 3 ≤ ns.length) (hl : ns.length ≤ 10) (hg : ∀ x ∈ g, x ∈ ns) (gl : g.length ≤ 1000) : ∀ (items : List D) (fuel : Nat) (S : Store) (b : List Stm) (s7 s8 s9 s10 s11 : Slot), b.length + items.length ≤ 1000 → (∀ s ∈ b, stIn ns s) → Pot S p (fuel + 20 * items.length) →
    ∃ (b' : List Stm) (S' : Store) (t7 t8 t9 t10 t11 : Slot), forL (gN 7) L0__law_spec items [.val (.ptr p), x1, x2, x3, .val (.lst (ns.map D.str)), .val (strsT g), .own (.lst (b.map stD)), s7, s8, s9, s10, s11, s12] S =
      .nx [.val (.ptr p), x1, x2, x3, .val (.lst (ns.map D.str)), .val (strsT g), .own (.lst (b'.map stD)), t7, t8, t9, t10, t11, s12] S' ∧ (∀ s ∈ b', stIn ns s) ∧ b'.length = b.length + items.length ∧ Pot S' p fuel ∧ S'.length = S.length
  | [], fuel, S, b, s7, s8, s9, s10, s11, _, hb, P => ⟨b, S, s7, s8, s9, s10, s11, rfl, hb, rfl, P, rfl⟩
  | d :: items, fuel, S, b, s7, s8, s9, s10, s11, bl, hb, P => by
    rw [List.length_cons] at P bl
    rw [forL_cons (ρ' := [.val (.ptr p), x1, x2, x3, .val (.lst (ns.map D.str)), .val (strsT g), .own (.lst (b.map stD)), .val d, s8, s9, s10, s11, s12]) rfl]
    obtain ⟨s, S1, t8, t9, t10, t11, e, hs, P1, l1⟩ := spec_step (fuel := fuel + 20 * items.length) (x1 := x1) (x2 := x2) (x3 := x3) (s7 := .val d) (s8 := s8) (s9 := s9) (s10 := s10) (s11 := s11) (s12 := s12) (b := b) h hl hg gl (by omega) (by rw [show fuel + 20 * items.length + 20 = fuel + 20 * (items.length + 1) from by omega]; exact P)
    rw [e, lnx]
    obtain ⟨b', S2, u7, u8, u9, u10, u11, e2, hb2, l2, P2, l3⟩ := spec_loop (x1 := x1) (x2 := x2) (x3 := x3) (s12 := s12) h hl hg gl items fuel S1 (b ++ [s]) (.val d) t8 t9 t10 t11 (by rw [List.length_append, List.length_singleton]; omega) (fun z hz => by
      rcases List.mem_append.mp hz with hz | hz
      · exact hb z hz
      · rw [List.mem_singleton.mp hz]; exact hs) P1
    exact ⟨b', S2, u7, u8, u9, u10, u11, e2, hb2, by rw [l2, List.length_append, List.length_singleton, List.length_cons]; omega, P2, l3.trans l1⟩
/-- a drawn program -/
structure Spc (mg ms : Nat) (g t : List Str) (b : List Stm) : Prop where
  gs : ∀ x ∈ g, x ∈ base8
  gn : g.Nodup
  gl : g.length ≤ mg
  ts : ∀ x ∈ t, x ∈ base8
  tn : t.Nodup
  t1 : 1 ≤ t.length
  t3 : t.length ≤ 3
  bs : ∀ s ∈ b, stIn base8 s
  b1 : 1 ≤ b.length
  bl : b.length ≤ ms
abbrev spD (g t : List Str) (b : List Stm) : D := .tup [strsT g, strsT t, blkD b]
theorem base8_nd : base8.Nodup := by decide +kernel
theorem law_spec_ok {S : Store} {p fuel mg mn ms : Nat} (hg : mg ≤ 10) (h3 : 3 ≤ mn) (h8 : mn ≤ 8) (m1 : 1 ≤ ms) (hm : ms ≤ 10) (P : Pot S p (fuel + 30 + 20 * ms)) :
    ∃ (g t : List Str) (b : List Stm) (S' : Store), d__law_spec [.ptr p, nD mg, nD mn, nD ms] S = .ok (spD g t b, S') ∧ Spc mg ms g t b ∧ Pot S' p fuel ∧ S'.length = S.length := by
  obtain ⟨ss, S1, e1, pm, P1, l1⟩ := mixed_strs (S := S) (p := p) (fuel := fuel + 20 + 20 * ms) (ns := base8) (by decide) (by decide) (P.less (by show fuel + 20 + 20 * ms + 8 ≤ _; omega))
  have e1' : d__law_mixed [.ptr p, .lst [.str "a", .str "b", .str "c", .str "d", .str "e", .str "x", .str "yy", .str "half"]] S = .ok (.lst (ss.map D.str), S1) := e1
  have sl8 : ss.length = 8 := pm.length_eq
  obtain ⟨r, S2, lr, e2, P2, l2⟩ := draw_nat (n := mn - 2) (fuel := fuel + 19 + 20 * ms) (P1.less (by omega)) (by omega) (by omega)
  have n2 : ((mn : Nat) : Int) - 2 = ((mn - 2 : Nat) : Int) := by omega
  have e2' : d__law_draw [.ptr p, .int (((mn : Nat) : Int) - 2)] S1 = .ok (nD r, S2) := by rw [n2]; exact e2
  have cs : (((3 + r : Nat) : Int)) = 3 + (r : Nat) := by omega
  have sla := sl_to (ss.map D.str) (3 + r)
  rw [cs, ← List.map_take] at sla
  obtain ⟨ns, hns⟩ : ∃ ns, ns = ss.take (3 + r) := ⟨_, rfl⟩
  rw [← hns] at sla
  have nl : ns.length = 3 + r := by rw [hns, List.length_take, sl8]; omega
  have nsub : ∀ x ∈ ns, x ∈ base8 := fun x hx => pm.mem_iff.mp (List.mem_of_mem_take (by rw [← hns]; exact hx))
  have nnd : ns.Nodup := by rw [hns]; exact (pm.nodup_iff.mpr base8_nd).sublist (List.take_sublist _ _)
  obtain ⟨q, S3, lq, e3, P3, l3⟩ := draw_nat (n := mg + 1) (fuel := fuel + 18 + 20 * ms) (P2.less (by omega)) (by omega) (by omega)
  have n3 : ((mg : Nat) : Int) + 1 = ((mg + 1 : Nat) : Int) := by omega
  have e3' : d__law_draw [.ptr p, .int (((mg : Nat) : Int) + 1)] S2 = .ok (nD q, S3) := by rw [n3]; exact e3
  have slb := sl_to (ns.map D.str) q
  rw [← List.map_take] at slb
  obtain ⟨u, S4, lu, e4, P4, l4⟩ := draw_nat (n := ms) (fuel := fuel + 17 + 20 * ms) (P3.less (by omega)) (by omega) (by omega)
  have rg := rng1 (1 + u) (by omega)
  have n4 : ((1 + u : Nat) : Int) = 1 + (u : Nat) := by omega
  rw [n4] at rg
  obtain ⟨b, S5, t7, t8, t9, t10, t11, e5, hb, bl, P5, l5⟩ := spec_loop (p := p) (ns := ns) (g := ns.take q) (x1 := .val (nD mg)) (x2 := .val (nD mn)) (x3 := .val (nD ms)) (s12 := .no) (by omega) (by omega) (fun x hx => List.mem_of_mem_take hx) (by rw [List.length_take]; omega) ((List.range (1 + u)).map fun i => D.int (i : Nat)) (fuel + 17) S4 [] .no .no .no .no .no (by simp; omega) (by simp) (P4.less (by rw [List.length_map, List.length_range]; omega))
  rw [List.length_map, List.length_range, List.length_nil, Nat.zero_add] at bl
  obtain ⟨s2, S6, e6, pm2, P6, l6⟩ := mixed_strs (S := S5) (p := p) (fuel := fuel + 6) (ns := ns) (by omega) (by omega) (P5.less (by omega))
  obtain ⟨v, S7, lv, e7, P7, l7⟩ := draw_nat (n := 3) (fuel := fuel + 5) (P6.less (by omega)) (by decide) (by decide)
  have e7' : d__law_draw [.ptr p, .int 3] S6 = .ok (nD v, S7) := e7
  have slc := sl_to (s2.map D.str) (1 + v)
  have n7 : ((1 + v : Nat) : Int) = 1 + (v : Nat) := by omega
  rw [n7, ← List.map_take] at slc
  refine ⟨ns.take q, s2.take (1 + v), b, S7, ?_, ⟨fun x hx => nsub x (List.mem_of_mem_take hx), nnd.sublist (List.take_sublist _ _), by rw [List.length_take]; omega, fun x hx => nsub x (pm2.mem_iff.mp (List.mem_of_mem_take hx)), (pm2.nodup_iff.mpr nnd).sublist (List.take_sublist _ _), by rw [List.length_take, pm2.length_eq]; omega, by rw [List.length_take]; omega, fun s hs => ⟨fun x hx => nsub x ((hb s hs).1 x hx), (hb s hs).2⟩, by omega, by omega⟩, P7.less (by omega), l7.trans (l6.trans (l5.trans (l4.trans (l3.trans (l2.trans l1)))))⟩
  unfold d__law_spec b__law_spec
  rw [runD_a (n := 4) rfl]
  have e0 : D.lst (([] : List Stm).map stD) = .lst [] := rfl
  rw [show (([] : List Stm).map stD) = [] from rfl] at e5
  have z8 : szOk 8 = true := szOk_t (by decide)
  simp? [z8, e1', e2', sla, e3', slb, e4, rg, e5, e6, e7', slc]
end LW
end

section
set_option linter.all false
set_option maxRecDepth 100000
namespace LW
open PySem L2 GG
local macro_rules
  | `(tactic| simp? [$a,*] $[$l:location]?) => `(tactic| simp only [eC_a, eV_a, hE_a, hV_a, eH_a, eHB_a, eBin_a, eUn_a, eAnd_a, eOr_a, eNot_a, eIf_a, eCmp_a, eChain_a, aN_a, aC_a, eTup_a, eLst_a, eCall_a, eB_a, eFz_a, eAl_a, mLst_a, mLc_a, mLc2_a, mMk_a, mDic0_a, mList_a, eMeth_a, eIsi1_a, eIsi_a, eInH_a, eSl_a, oX_none, oX_some, bV_a, bT_a, bAnd_a, bOr_a, bNot_a, bTrue_a, iS_a, iEn_a, iZ_a, iR1_a, iR2_a, iR3_a, sSeq_a, sNil_a, sExpr_a, sRet_a, sRetN_a, sIf_a, sBrk_a, sCnt_a, sSet_a, sOwn_a, sFz_a, sFor_a, sMt_a, sFld_a, sAsg_a, sRaise_a, sTry_a, sMethO_a, endD_rt, endD_nx, endD_ex, bok, bex, oso, sok, sxc, cok, qnx, qrt, qbk, qct, qex, lnx, lct, lbk, lrt, lxc, oss, okk, obs, oms, add_i, sub_i, neg_i, lt_i, le_i, gt_i, ge_i, len_l, len_t, len_f, len_d, idx_l, idx_t, idx_f, walk_l, walk_t, walk_f, seq_l, seq_t, tuple_l, tuple_t, int_i, atI_0, atI_1, atI_2, dr_n, dr_b, dr_i, dr_s, dr_l, dr_t, dr_k, dr_f, dr_d, dr_o, dr_p, dr_w, now_l, now_d, now_o, frz_l, frz_d, frz_o, isL_l, frzAt, cu_p, cu_w, pu_p, pu_w, startD, startO, List.map_cons, List.map_nil, List.replicate, List.cons_append, List.nil_append, List.length_cons, List.length_nil, Nat.zero_add, Nat.reduceAdd, List.getElem?_cons_zero, List.getElem?_cons_succ, List.set_cons_zero, List.set_cons_succ, if_true, if_false, reduceIte, Bool.false_eq_true, bD_b, tru_n, tru_b, tru_l, tru_t, gN_a, gT_t, gAll_n, gAll_c, wipeD, ite_and, ite_or, ite_andB, ite_orB, szOk_0, szOk_1, szOk_2, szOk_3, szOk_4, Bool.not_true, Bool.not_false, Bool.true_and, Bool.and_true, Bool.false_and, Bool.and_false, Bool.true_or, Bool.or_true, Bool.false_or, Bool.or_false, decide_true, decide_false, tT, tAll, tN, tI, setI, sTry0_a, mSrt_a, mSrtTx_a, eEqO_a, tIK_a, now_td, frz_td, dr_td, idx_td, in_td, srt_td, $a,*] $[$l:location]?)
/-! ### the law's own runs -/
theorem Pot.keep {S S' : Store} {p f : Nat} (P : Pot S p f) (h : ∀ i, i < S.length → S'[i]? = S[i]?) : Pot S' p f := by
  obtain ⟨q, gs, ss, tr, sm, hp, hq, hx⟩ := P.ex
  exact ⟨q, gs, ss, tr, sm, by rw [h _ (List.getElem?_eq_some_iff.mp hp).1]; exact hp, by rw [h _ (List.getElem?_eq_some_iff.mp hq).1]; exact hq, hx⟩
theorem Pot.app {S : Store} {p f : Nat} (P : Pot S p f) (m : Store) : Pot (S ++ m) p f := P.keep fun i h => List.getElem?_append_left h
/-- all names, by the law -/
def lnsL (g t : List Str) (b : List Stm) : List Str := g ++ t ++ b.flatMap Stm.names
def lnsOf (g t : List Str) (b : List Stm) : List Str := srtS (uq (lnsL g t b))
theorem lnsOf_nd (g t : List Str) (b : List Stm) : (lnsOf g t b).Nodup := (srtS_perm _).nodup_iff.mpr (fold_nd (lnsL g t b) (ns := []) List.nodup_nil)
theorem lnsOf_mem {g t : List Str} {b : List Stm} {y : Str} : y ∈ lnsOf g t b ↔ (y ∈ g ∨ y ∈ t) ∨ ∃ s ∈ b, y ∈ s.names := by
  unfold lnsOf lnsL
  rw [(srtS_perm _).mem_iff, ← uq_fold, addS_mem, List.mem_append, List.mem_append, List.mem_flatMap]
  simp
theorem lnsOf_le (g t : List Str) (b : List Stm) : (lnsOf g t b).length ≤ (lnsL g t b).length := by
  unfold lnsOf
  rw [(srtS_perm _).length_eq]
  exact GG.uq_le _ _ rfl
section
variable {S : Store}
theorem ln_in {x0 s2 : Slot} : ∀ (ds : List Dd) (acc : List Str) (s3 : Slot), acc.length + (ds.flatMap Dd.names).length ≤ 1000000 → ∃ s3', forL (gN 3) L0__law_names (ds.map ddD) [x0, .own (.lst (acc.map D.str)), s2, s3] S = .nx [x0, .own (.lst ((acc ++ ds.flatMap Dd.names).map D.str)), s2, s3'] S
  | [], acc, s3, _ => ⟨s3, by rw [List.flatMap_nil, List.append_nil]; rfl⟩
  | d :: ds, acc, s3, h => by
    rw [List.flatMap_cons, List.length_append] at h
    rw [List.map_cons, forL_cons (ρ' := [x0, .own (.lst (acc.map D.str)), s2, .val (ddD d)]) rfl]
    have st : L0__law_names [x0, .own (.lst (acc.map D.str)), s2, .val (ddD d)] S = .nx [x0, .own (.lst ((acc ++ d.names).map D.str)), s2, .val (ddD d)] S := by
      obtain ⟨k, xs, e, _, _, e2⟩ := ddD_k d
      have ex : extTD [.tup xs] (.lst (acc.map D.str)) = some (.lst ((acc ++ d.names).map D.str)) := by
        rw [e2, extT_l (by rw [List.length_map, List.length_map]; omega), List.map_append]
      rw [e]
      unfold L0__law_names
      simp? [sl_from, ex]
    rw [st, lnx]
    obtain ⟨s3', e⟩ := ln_in (x0 := x0) (s2 := s2) ds (acc ++ d.names) (.val (ddD d)) (by rw [List.length_append]; omega)
    refine ⟨s3', ?_⟩
    rw [e, List.flatMap_cons, List.append_assoc]
theorem ln_out {x0 : Slot} : ∀ (b : List Stm) (acc : List Str) (s2 s3 : Slot), acc.length + (b.flatMap Stm.names).length ≤ 1000000 → ∃ s2' s3', forL (gN 2) L1__law_names (b.map stD) [x0, .own (.lst (acc.map D.str)), s2, s3] S = .nx [x0, .own (.lst ((acc ++ b.flatMap Stm.names).map D.str)), s2', s3'] S
  | [], acc, s2, s3, _ => ⟨s2, s3, by rw [List.flatMap_nil, List.append_nil]; rfl⟩
  | s :: b, acc, s2, s3, h => by
    rw [List.flatMap_cons, List.length_append] at h
    rw [List.map_cons, forL_cons (ρ' := [x0, .own (.lst (acc.map D.str)), .val (stD s), s3]) rfl]
    have st : ∃ s3', L1__law_names [x0, .own (.lst (acc.map D.str)), .val (stD s), s3] S = .nx [x0, .own (.lst ((acc ++ s.names).map D.str)), .val (stD s), s3'] S := by
      cases s with
      | deed d =>
        obtain ⟨k, xs, e, k1, _, e2⟩ := ddD_k d
        have ex : extTD [.tup xs] (.lst (acc.map D.str)) = some (.lst ((acc ++ d.names).map D.str)) := by
          rw [e2, extT_l (by rw [List.length_map, List.length_map]; simp only [Stm.names] at h; omega), List.map_append]
        have e' : stD (.deed d) = .tup (.str k :: xs) := e
        rw [e']
        refine ⟨s3, ?_⟩
        unfold L1__law_names
        simp? [k1, sl_from, ex]
        rfl
      | round x ds =>
        have e' : stD (.round x ds) = .tup [.str "round", .str x, .tup (ds.map ddD)] := rfl
        rw [e']
        simp only [Stm.names, List.length_cons] at h
        have ap : appD [.str x] (.lst (acc.map D.str)) = some (.lst ((acc ++ [x]).map D.str)) := by
          rw [app_l (by rw [List.length_map]; omega), List.map_append]
          rfl
        obtain ⟨s3', e⟩ := ln_in (S := S) (x0 := x0) (s2 := .val (.tup [.str "round", .str x, .tup (ds.map ddD)])) ds (acc ++ [x]) s3 (by rw [List.length_append, List.length_singleton]; omega)
        refine ⟨s3', ?_⟩
        unfold L1__law_names
        simp? [kq_rr, ap, e]
        rw [List.append_assoc]
        rfl
    obtain ⟨a3, st⟩ := st
    rw [st, lnx]
    obtain ⟨s2', s3', e⟩ := ln_out (x0 := x0) b (acc ++ s.names) (.val (stD s)) a3 (by rw [List.length_append]; omega)
    refine ⟨s2', s3', ?_⟩
    rw [e, List.flatMap_cons, List.append_assoc]
theorem strsD_strs (xs : List Str) : strsD (xs.map D.str) = some xs := by
  have := strsD_map (fun x : Str => x) xs
  rw [List.map_id'] at this
  exact this
theorem law_names_ok {g t : List Str} {b : List Stm} (h : (lnsL g t b).length ≤ 4000) : d__law_names [spD g t b] S = .ok (strsT (lnsOf g t b), S) := by
  have hl : (lnsL g t b).length = g.length + t.length + (b.flatMap Stm.names).length := by unfold lnsL; rw [List.length_append, List.length_append]
  have ad : addD (.tup (g.map D.str)) (.tup (t.map D.str)) = some (strsT (g ++ t)) := by
    rw [add_t (by rw [List.length_map, List.length_map]; omega), ← List.map_append]
  obtain ⟨s2, s3, e⟩ := ln_out (S := S) (x0 := .val (spD g t b)) b (g ++ t) .no .no (by rw [List.length_append]; omega)
  have st : srtTxD (.lst ((g ++ t ++ b.flatMap Stm.names).map D.str)) = some (lnsOf g t b) := by
    show (strsD ((g ++ t ++ b.flatMap Stm.names).map D.str)).bind _ = _
    rw [strsD_strs]
    show (if (g ++ t ++ b.flatMap Stm.names).length + 1 < scanBound then _ else none) = _
    have c9 : scanBound = 4096 := rfl
    rw [if_pos (by rw [c9]; unfold lnsL at h; omega)]
    rfl
  unfold d__law_names b__law_names
  rw [runD_a (n := 1) rfl]
  simp? [ad, e, st]
theorem app_at (m : MO) : (S ++ [m])[S.length]? = some m := by
  rw [List.getElem?_append_right (Nat.le_refl _), Nat.sub_self]
  rfl
theorem app_set (m m' : MO) : (S ++ [m]).set S.length m' = S ++ [m'] := by
  rw [List.set_append_right _ _ (Nat.le_refl _), Nat.sub_self]
  rfl
end
section
variable {S : Store} {ns : List Str}
theorem lf0 {x0 x1 s4 : Slot} : ∀ (xs seen : List Str) (s3 : Slot), seen.length + xs.length ≤ 1000000 → ∃ s3', forL (gN 3) L0__law_first (xs.map D.str) [x0, x1, .val (.ptr S.length), s3, s4] (S ++ [tdM (mkL nD seen fun _ => 0)]) = .nx [x0, x1, .val (.ptr S.length), s3', s4] (S ++ [tdM (mkL nD (xs.foldl addS seen) fun _ => 0)])
  | [], seen, s3, _ => ⟨s3, rfl⟩
  | x :: xs, seen, s3, h => by
    rw [List.length_cons] at h
    rw [List.map_cons, forL_cons (ρ' := [x0, x1, .val (.ptr S.length), .val (.str x), s4]) rfl]
    have st : setIK (.str x) (.int 0) (tdM (mkL nD seen fun _ => 0)) = some (tdM (mkL nD (addS seen x) fun _ => 0)) := by
      rw [set_td (by rw [mkL_len]; omega)]
      exact congrArg (fun l => some (tdM l)) (putS_add (enc := nD) (f := fun _ => 0) x)
    have step : L0__law_first [x0, x1, .val (.ptr S.length), .val (.str x), s4] (S ++ [tdM (mkL nD seen fun _ => 0)]) = .nx [x0, x1, .val (.ptr S.length), .val (.str x), s4] (S ++ [tdM (mkL nD (addS seen x) fun _ => 0)]) := by
      unfold L0__law_first
      simp? [app_at, st, app_set]
    rw [step, lnx]
    exact lf0 xs (addS seen x) _ (by have := addS_le seen x; omega)
theorem lf1 {x0 x1 : Slot} : ∀ (qs : List (Str × Nat)) (f : Nums) (s3 s4 : Slot), ns.length ≤ 1000000 → (∀ q ∈ qs, q.1 ∈ ns) → ∃ s3' s4', forL (gT [(gN 3), (gN 4)]) L1__law_first (qs.map fun q => .tup [.str q.1, nD q.2]) [x0, x1, .val (.ptr S.length), s3, s4] (S ++ [tdM (mkL nD ns f)]) = .nx [x0, x1, .val (.ptr S.length), s3', s4'] (S ++ [tdM (mkL nD ns (qs.foldl (fun f q => ups f q.1 q.2) f))])
  | [], f, s3, s4, _, _ => ⟨s3, s4, rfl⟩
  | q :: qs, f, s3, s4, hl, h => by
    rw [List.map_cons, forL_cons (ρ' := [x0, x1, .val (.ptr S.length), .val (.str q.1), .val (nD q.2)]) rfl]
    have st : setIK (.str q.1) (nD q.2) (tdM (mkL nD ns f)) = some (tdM (mkL nD ns (ups f q.1 q.2))) := by rw [set_td (by rw [mkL_len]; omega), putS_mk (h q List.mem_cons_self)]
    have step : L1__law_first [x0, x1, .val (.ptr S.length), .val (.str q.1), .val (nD q.2)] (S ++ [tdM (mkL nD ns f)]) = .nx [x0, x1, .val (.ptr S.length), .val (.str q.1), .val (nD q.2)] (S ++ [tdM (mkL nD ns (ups f q.1 q.2))]) := by
      unfold L1__law_first
      simp? [app_at, st, app_set]
    rw [step, lnx]
    exact lf1 qs (ups f q.1 q.2) _ _ hl fun r m => h r (.tail _ m)
end
theorem zip_sn : ∀ (g : List Str) (as : List Nat), ((g.map D.str).zip (as.map nD)).map (fun q => D.tup [q.1, q.2]) = (g.zip as).map fun q => .tup [.str q.1, nD q.2]
  | [], _ => rfl
  | _ :: _, [] => rfl
  | x :: g, a :: as => by
    rw [List.map_cons, List.map_cons, List.zip_cons_cons, List.map_cons, zip_sn g as]
    rfl
def FitK (K : Nat) : List Stm → Nums → Prop
  | [], _ => True
  | s :: b, f => (∀ x, f x ≤ K) ∧ FitK K b (doS s f)
theorem fitK_of (K : Nat) : ∀ (b : List Stm) {f : Nums} {M L : Nat}, Bd f M → (∀ s ∈ b, s.len ≤ L) → (M + 1) * (L + 2) ^ b.length ≤ K + 1 → FitK K b f
  | [], _, _, _, _, _, _ => trivial
  | s :: b, f, M, L, h, hs, hM => by
    have p1 : 1 ≤ (L + 2) ^ (s :: b).length := Nat.one_le_pow _ _ (by omega)
    have p2 : M + 1 ≤ K + 1 := Nat.le_trans (Nat.le_mul_of_pos_right _ p1) hM
    have ls := hs s List.mem_cons_self
    refine ⟨fun x => Nat.le_trans (h x) (by omega), fitK_of K b (bd_S s ls h) (fun e m => hs e (.tail _ m)) ?_⟩
    refine Nat.le_trans ?_ hM
    rw [List.length_cons, Nat.pow_succ, Nat.mul_comm ((L + 2) ^ b.length) (L + 2), ← Nat.mul_assoc]
    refine Nat.mul_le_mul_right _ ?_
    rw [Nat.mul_add (M + 1) (L + 1) 1, Nat.mul_one]
    omega
section
variable {S : Store} {ns : List Str}
theorem law_do_ok {f : Nums} {d : Dd} (hl : ns.length ≤ 1000000) (hd : ∀ x ∈ d.names, x ∈ ns) : d__law_do [.ptr S.length, ddD d] (S ++ [tdM (mkL nD ns f)]) = .ok (.non, S ++ [tdM (mkL nD ns (doD d f))]) := by
  have st : ∀ x v, x ∈ ns → setIK (.str x) (nD v) (tdM (mkL nD ns f)) = some (tdM (mkL nD ns (ups f x v))) := fun x v hx => by rw [set_td (by rw [mkL_len]; omega), putS_mk hx]
  unfold d__law_do b__law_do
  rw [runD_a (n := 2) rfl]
  cases d with
  | zero x =>
    have e : ddD (.zero x) = .tup [.str "zero", .str x] := rfl
    have s1 := st x 0 (hd x (by simp [Dd.names]))
    rw [show nD 0 = D.int 0 from rfl] at s1
    rw [e]
    simp? [kq_zz, app_at, s1, app_set]
    rfl
  | copy x y =>
    have e : ddD (.copy x y) = .tup [.str "copy", .str x, .str y] := rfl
    have s1 := st x (f y) (hd x (by simp [Dd.names]))
    have g1 := getS_mk (enc := nD) (f := f) (hd y (by simp [Dd.names]))
    rw [e]
    simp? [kq_cz, kq_cc, app_at, g1, s1, app_set]
    rfl
  | more x =>
    have e : ddD (.more x) = .tup [.str "more", .str x] := rfl
    have s1 := st x (f x + 1) (hd x (by simp [Dd.names]))
    rw [show nD (f x + 1) = D.int ((f x : Nat) + 1) from rfl] at s1
    have g1 := getS_mk (enc := nD) (f := f) (hd x (by simp [Dd.names]))
    rw [e]
    simp? [kq_mz, kq_mc, app_at, g1, s1, app_set]
    rfl
theorem le0 {x0 x1 s3 s4 : Slot} (hl : ns.length ≤ 1000000) : ∀ (ds : List Dd) (f : Nums) (s5 : Slot), (∀ d ∈ ds, ∀ x ∈ d.names, x ∈ ns) → ∃ s5', forL (gN 5) L0__law_end (ds.map ddD) [x0, x1, .val (.ptr S.length), s3, s4, s5] (S ++ [tdM (mkL nD ns f)]) = .nx [x0, x1, .val (.ptr S.length), s3, s4, s5'] (S ++ [tdM (mkL nD ns (doDs ds f))])
  | [], f, s5, _ => ⟨s5, rfl⟩
  | d :: ds, f, s5, h => by
    rw [List.map_cons, forL_cons (ρ' := [x0, x1, .val (.ptr S.length), s3, s4, .val (ddD d)]) rfl]
    have ld := law_do_ok (S := S) (f := f) hl (h d List.mem_cons_self)
    have st : L0__law_end [x0, x1, .val (.ptr S.length), s3, s4, .val (ddD d)] (S ++ [tdM (mkL nD ns f)]) = .nx [x0, x1, .val (.ptr S.length), s3, s4, .val (ddD d)] (S ++ [tdM (mkL nD ns (doD d f))]) := by
      unfold L0__law_end
      simp? [ld]
    rw [st, lnx]
    exact le0 hl ds (doD d f) _ fun e m => h e (.tail _ m)
theorem le1 {x0 x1 : Slot} {x : Str} {ds : List Dd} (hl : ns.length ≤ 1000000) (h : ∀ d ∈ ds, ∀ x ∈ d.names, x ∈ ns) : ∀ (items : List D) (f : Nums) (s4 s5 : Slot), ∃ s4' s5', forL (gN 4) L1__law_end items [x0, x1, .val (.ptr S.length), .val (stD (.round x ds)), s4, s5] (S ++ [tdM (mkL nD ns f)]) = .nx [x0, x1, .val (.ptr S.length), .val (stD (.round x ds)), s4', s5'] (S ++ [tdM (mkL nD ns (iter (doDs ds) items.length f))])
  | [], f, s4, s5 => ⟨s4, s5, rfl⟩
  | i :: items, f, s4, s5 => by
    rw [forL_cons (ρ' := [x0, x1, .val (.ptr S.length), .val (stD (.round x ds)), .val i, s5]) rfl]
    obtain ⟨a5, e⟩ := le0 (S := S) (x0 := x0) (x1 := x1) (s3 := .val (stD (.round x ds))) (s4 := .val i) hl ds f s5 h
    have st : L1__law_end [x0, x1, .val (.ptr S.length), .val (stD (.round x ds)), .val i, s5] (S ++ [tdM (mkL nD ns f)]) = .nx [x0, x1, .val (.ptr S.length), .val (stD (.round x ds)), .val i, a5] (S ++ [tdM (mkL nD ns (doDs ds f))]) := by
      have e' : stD (.round x ds) = .tup [.str "round", .str x, .tup (ds.map ddD)] := rfl
      rw [e'] at e ⊢
      unfold L1__law_end
      simp? [e]
    rw [st, lnx]
    exact le1 hl h items (doDs ds f) _ _
theorem le2 {x0 x1 : Slot} (hl : ns.length ≤ 1000000) : ∀ (b : List Stm) (f : Nums) (s3 s4 s5 : Slot), (∀ s ∈ b, ∀ x ∈ s.names, x ∈ ns) → FitK 16777216 b f → ∃ s3' s4' s5', forL (gN 3) L2__law_end (b.map stD) [x0, x1, .val (.ptr S.length), s3, s4, s5] (S ++ [tdM (mkL nD ns f)]) = .nx [x0, x1, .val (.ptr S.length), s3', s4', s5'] (S ++ [tdM (mkL nD ns (runB b f))])
  | [], f, s3, s4, s5, _, _ => ⟨s3, s4, s5, rfl⟩
  | s :: b, f, s3, s4, s5, h, hf => by
    rw [List.map_cons, forL_cons (ρ' := [x0, x1, .val (.ptr S.length), .val (stD s), s4, s5]) rfl]
    have hs := h s List.mem_cons_self
    have st : ∃ s4' s5', L2__law_end [x0, x1, .val (.ptr S.length), .val (stD s), s4, s5] (S ++ [tdM (mkL nD ns f)]) = .nx [x0, x1, .val (.ptr S.length), .val (stD s), s4', s5'] (S ++ [tdM (mkL nD ns (doS s f))]) := by
      cases s with
      | deed d =>
        obtain ⟨k, xs, e, k1, _, _⟩ := ddD_k d
        have ld := law_do_ok (S := S) (f := f) (d := d) hl hs
        have e' : stD (.deed d) = .tup (.str k :: xs) := e
        rw [e] at ld
        rw [e']
        refine ⟨s4, s5, ?_⟩
        unfold L2__law_end
        simp? [k1, ld]
        rfl
      | round x ds =>
        have g1 := getS_mk (enc := nD) (f := f) (hs x (by simp [Stm.names]))
        have rg := rng1 (f x) (hf.1 x)
        obtain ⟨a4, a5, e⟩ := le1 (S := S) (x0 := x0) (x1 := x1) (x := x) (ds := ds) hl (fun d m y hy => hs y (by simp only [Stm.names, List.mem_cons, List.mem_flatMap]; exact .inr ⟨d, m, hy⟩)) ((List.range (f x)).map fun i => D.int (i : Nat)) f s4 s5
        rw [List.length_map, List.length_range] at e
        have e' : stD (.round x ds) = .tup [.str "round", .str x, .tup (ds.map ddD)] := rfl
        rw [e'] at e ⊢
        refine ⟨a4, a5, ?_⟩
        unfold L2__law_end
        simp? [kq_rr, app_at, g1, rg, e]
        rfl
    obtain ⟨a4, a5, st⟩ := st
    rw [st, lnx]
    exact le2 hl b (doS s f) _ _ _ (fun e m => h e (.tail _ m)) hf.2
end
section
variable {S : Store} {g t : List Str} {b : List Stm} {as : List Nat}
theorem law_first_ok (h : (lnsL g t b).length ≤ 4000) : d__law_first [spD g t b, tuN as] S = .ok (.ptr S.length, S ++ [tdM (mkL nD (lnsOf g t b) (f0 g as))]) := by
  have nk := fun S => law_names_ok (S := S) h
  have le := lnsOf_le g t b
  unfold d__law_first b__law_first
  rw [runD_a (n := 2) rfl]
  obtain ⟨a3, e1⟩ := lf0 (S := S) (x0 := .val (spD g t b)) (x1 := .val (tuN as)) (s4 := .no) (lnsOf g t b) [] .no (by simp; omega)
  rw [uq_fold, uq_of_nodup (lnsOf_nd g t b), show tdM (mkL nD [] fun _ => 0) = MO.dic [] [] from rfl] at e1
  obtain ⟨b3, b4, e2⟩ := lf1 (S := S) (ns := lnsOf g t b) (x0 := .val (spD g t b)) (x1 := .val (tuN as)) (g.zip as) (fun _ => 0) a3 .no (by omega) (fun q hq => lnsOf_mem.mpr (.inl (.inl (List.of_mem_zip hq).1)))
  have zs := zip_sn g as
  have sq : seqD (tuN as) = some (as.map nD) := rfl
  simp? [nk, e1, sq, zs, e2]
  rfl
theorem law_end_ok (h : (lnsL g t b).length ≤ 4000) (hf : FitK 16777216 b (f0 g as)) : d__law_end [spD g t b, tuN as] S = .ok (.ptr S.length, S ++ [tdM (mkL nD (lnsOf g t b) (runB b (f0 g as)))]) := by
  have fk := law_first_ok (S := S) (as := as) h
  have le := lnsOf_le g t b
  obtain ⟨a3, a4, a5, e⟩ := le2 (S := S) (ns := lnsOf g t b) (x0 := .val (spD g t b)) (x1 := .val (tuN as)) (by omega) b (f0 g as) .no .no .no (fun s hs x hx => lnsOf_mem.mpr (.inr ⟨s, hs, hx⟩)) hf
  unfold d__law_end b__law_end
  rw [runD_a (n := 2) rfl]
  simp? [fk, e]
theorem law_told_ok (h : (lnsL g t b).length ≤ 4000) (hf : FitK 16777216 b (f0 g as)) : ∃ m, d__law_told [spD g t b, tuN as] S = .ok (tuN (t.map (runB b (f0 g as))), S ++ [m]) := by
  have ek := law_end_ok (S := S) h hf
  refine ⟨tdM (mkL nD (lnsOf g t b) (runB b (f0 g as))), ?_⟩
  unfold d__law_told b__law_told
  rw [runD_a (n := 2) rfl]
  have lo : lcL (gN 3) bTrue (eHB (hV 2) (eV 3) idxD) (t.map D.str) [.val (spD g t b), .val (tuN as), .val (.ptr S.length), .no] (S ++ [tdM (mkL nD (lnsOf g t b) (runB b (f0 g as)))]) = .ok (t.map fun x => nD (runB b (f0 g as) x), S ++ [tdM (mkL nD (lnsOf g t b) (runB b (f0 g as)))]) :=
    lcL_map fun x hx => ⟨_, rfl, by
      have gx := getS_mk (enc := nD) (f := runB b (f0 g as)) (show x ∈ lnsOf g t b from lnsOf_mem.mpr (.inl (.inr hx)))
      simp? [app_at, gx]⟩
  simp? [ek, lo]
  unfold tuN
  rw [List.map_map]
  rfl
end
theorem law_input_ok {S : Store} {p fuel many most : Nat} (hm : many ≤ 1000) (hl : (most + 1).log2 < 9000) (P : Pot S p (fuel + many)) : ∃ (as : List Nat) (S' : Store), d__law_input [.ptr p, nD many, nD most] S = .ok (tuN as, S') ∧ as.length = many ∧ (∀ a ∈ as, a ≤ most) ∧ Pot S' p fuel ∧ S'.length = S.length := by
  obtain ⟨as, S', e, l, q, P', l2⟩ := draws_l (Q := fun a => a ≤ most) (ρ := [.val (.ptr p), .val (nD many), .val (nD most), .no]) (n := gN 3) (e := eCall d__law_draw (aC (eV 0) (aC (eBin addD (eV 2) (eC (.int 1))) aN))) (p := p) ((List.range many).map fun i => D.int (i : Nat)) (fun d _ => ⟨_, rfl, fun S fuel P => by
    have cs : ((most : Nat) : Int) + 1 = ((most + 1 : Nat) : Int) := by omega
    obtain ⟨r, S', r0, r1, e, P', l⟩ := draw_big (n := ((most + 1 : Nat) : Int)) P (by omega) (by rw [Int.natAbs_natCast]; exact hl)
    refine ⟨r.toNat, S', by omega, ?_, P', l⟩
    have er : D.int r = nD r.toNat := by
      show D.int r = D.int ((r.toNat : Nat) : Int)
      rw [Int.toNat_of_nonneg r0]
    rw [er] at e
    simp? [cs, e]⟩) fuel S (by rw [List.length_map, List.length_range]; exact P)
  rw [List.length_map, List.length_range] at l
  refine ⟨as, S', ?_, l, q, P', l2⟩
  unfold d__law_input b__law_input
  rw [runD_a (n := 3) rfl]
  have rg := rng1 many (by omega)
  simp? [rg, e]
  rfl
end LW
end

section
set_option linter.all false
set_option maxRecDepth 100000
namespace LW
open PySem L2 GG
local macro_rules
  | `(tactic| simp? [$a,*] $[$l:location]?) => `(tactic| simp only [eC_a, eV_a, hE_a, hV_a, eH_a, eHB_a, eBin_a, eUn_a, eAnd_a, eOr_a, eNot_a, eIf_a, eCmp_a, eChain_a, aN_a, aC_a, eTup_a, eLst_a, eCall_a, eB_a, eFz_a, eAl_a, mLst_a, mLc_a, mLc2_a, mMk_a, mDic0_a, mList_a, eMeth_a, eIsi1_a, eIsi_a, eInH_a, eSl_a, oX_none, oX_some, bV_a, bT_a, bAnd_a, bOr_a, bNot_a, bTrue_a, iS_a, iEn_a, iZ_a, iR1_a, iR2_a, iR3_a, sSeq_a, sNil_a, sExpr_a, sRet_a, sRetN_a, sIf_a, sBrk_a, sCnt_a, sSet_a, sOwn_a, sFz_a, sFor_a, sMt_a, sFld_a, sAsg_a, sRaise_a, sTry_a, sMethO_a, endD_rt, endD_nx, endD_ex, bok, bex, oso, sok, sxc, cok, qnx, qrt, qbk, qct, qex, lnx, lct, lbk, lrt, lxc, oss, okk, obs, oms, add_i, sub_i, neg_i, lt_i, le_i, gt_i, ge_i, len_l, len_t, len_f, len_d, idx_l, idx_t, idx_f, walk_l, walk_t, walk_f, seq_l, seq_t, tuple_l, tuple_t, int_i, atI_0, atI_1, atI_2, dr_n, dr_b, dr_i, dr_s, dr_l, dr_t, dr_k, dr_f, dr_d, dr_o, dr_p, dr_w, now_l, now_d, now_o, frz_l, frz_d, frz_o, isL_l, frzAt, cu_p, cu_w, pu_p, pu_w, startD, startO, List.map_cons, List.map_nil, List.replicate, List.cons_append, List.nil_append, List.length_cons, List.length_nil, Nat.zero_add, Nat.reduceAdd, List.getElem?_cons_zero, List.getElem?_cons_succ, List.set_cons_zero, List.set_cons_succ, if_true, if_false, reduceIte, Bool.false_eq_true, bD_b, tru_n, tru_b, tru_l, tru_t, gN_a, gT_t, gAll_n, gAll_c, wipeD, ite_and, ite_or, ite_andB, ite_orB, szOk_0, szOk_1, szOk_2, szOk_3, szOk_4, Bool.not_true, Bool.not_false, Bool.true_and, Bool.and_true, Bool.false_and, Bool.and_false, Bool.true_or, Bool.or_true, Bool.false_or, Bool.or_false, decide_true, decide_false, tT, tAll, tN, tI, setI, sTry0_a, mSrt_a, mSrtTx_a, eEqO_a, tIK_a, now_td, frz_td, dr_td, idx_td, in_td, srt_td, $a,*] $[$l:location]?)
/-! ### what both sides compare -/
def okS (x : Str) : Prop := PyData.strOk x = true
theorem base8_ok : ∀ z ∈ base8, okS z := by
  intro z hz
  simp only [base8, List.mem_cons, List.not_mem_nil, or_false] at hz
  unfold okS
  rcases hz with rfl | rfl | rfl | rfl | rfl | rfl | rfl | rfl <;> decide +kernel
theorem clean_s {x : Str} (h : okS x) : clean (.str x) = true := h
theorem clean_tup {xs : List D} (h : ∀ x ∈ xs, clean x = true) : clean (.tup xs) = true := by
  show cleanL xs = true
  exact cleanL_iff.mpr h
theorem dep_tup {xs : List D} {k : Nat} (h : ∀ x ∈ xs, dep x ≤ k) : dep (.tup xs) ≤ k + 1 := by
  show depL xs + 1 ≤ k + 1
  have := (depL_le (ds := xs) (k := k)).mpr h
  omega
theorem clean_strs {xs : List Str} (h : ∀ x ∈ xs, okS x) : clean (strsT xs) = true := clean_tup fun d hd => by
  obtain ⟨x, hx, rfl⟩ := List.mem_map.mp hd
  exact h x hx
theorem dep_strs (xs : List Str) : dep (strsT xs) ≤ 1 := dep_tup fun d hd => by
  obtain ⟨x, hx, rfl⟩ := List.mem_map.mp hd
  exact Nat.le_refl _
theorem ok_kinds : okS "zero" ∧ okS "copy" ∧ okS "more" ∧ okS "round" := by unfold okS; decide +kernel
theorem clean_dd {d : Dd} (h : ∀ x ∈ d.names, okS x) : clean (ddD d) = true := by
  cases d with
  | zero x =>
    refine clean_tup fun e he => ?_
    simp only [List.mem_cons, List.not_mem_nil, or_false] at he
    rcases he with rfl | rfl
    · exact ok_kinds.1
    · exact h x (by simp [Dd.names])
  | copy x y =>
    refine clean_tup fun e he => ?_
    simp only [List.mem_cons, List.not_mem_nil, or_false] at he
    rcases he with rfl | rfl | rfl
    · exact ok_kinds.2.1
    · exact h x (by simp [Dd.names])
    · exact h y (by simp [Dd.names])
  | more x =>
    refine clean_tup fun e he => ?_
    simp only [List.mem_cons, List.not_mem_nil, or_false] at he
    rcases he with rfl | rfl
    · exact ok_kinds.2.2.1
    · exact h x (by simp [Dd.names])
theorem dep_dd (d : Dd) : dep (ddD d) ≤ 1 := by cases d <;> simp [ddD, dep, depL]
theorem clean_st {s : Stm} (h : ∀ x ∈ s.names, okS x) : clean (stD s) = true := by
  cases s with
  | deed d => exact clean_dd h
  | round x ds =>
    refine clean_tup fun e he => ?_
    simp only [List.mem_cons, List.not_mem_nil, or_false] at he
    rcases he with rfl | rfl | rfl
    · exact ok_kinds.2.2.2
    · exact h x (by simp [Stm.names])
    · refine clean_tup fun e he => ?_
      obtain ⟨d, hd, rfl⟩ := List.mem_map.mp he
      exact clean_dd fun y hy => h y (by simp only [Stm.names, List.mem_cons, List.mem_flatMap]; exact .inr ⟨d, hd, hy⟩)
theorem dep_st (s : Stm) : dep (stD s) ≤ 3 := by
  cases s with
  | deed d => exact Nat.le_trans (dep_dd d) (by decide)
  | round x ds =>
    refine dep_tup fun e he => ?_
    simp only [List.mem_cons, List.not_mem_nil, or_false] at he
    rcases he with rfl | rfl | rfl
    · exact Nat.zero_le _
    · exact Nat.zero_le _
    · exact dep_tup fun e he => by
        obtain ⟨d, hd, rfl⟩ := List.mem_map.mp he
        exact dep_dd d
theorem clean_blk {b : List Stm} (h : ∀ s ∈ b, ∀ x ∈ s.names, okS x) : clean (blkD b) = true := clean_tup fun e he => by
  obtain ⟨s, hs, rfl⟩ := List.mem_map.mp he
  exact clean_st (h s hs)
theorem dep_blk (b : List Stm) : dep (blkD b) ≤ 4 := dep_tup fun e he => by
  obtain ⟨s, hs, rfl⟩ := List.mem_map.mp he
  exact dep_st s
theorem eq_spD {g t : List Str} {b : List Stm} (hg : ∀ x ∈ g, okS x) (ht : ∀ x ∈ t, okS x) (hb : ∀ s ∈ b, ∀ x ∈ s.names, okS x) : eqD (spD g t b) (spD g t b) = some true := by
  refine eqD_same (clean_tup fun e he => ?_) (Nat.le_trans (dep_tup (k := 4) fun e he => ?_) (by decide))
  all_goals
    simp only [List.mem_cons, List.not_mem_nil, or_false] at he
    rcases he with rfl | rfl | rfl
  · exact clean_strs hg
  · exact clean_strs ht
  · exact clean_blk hb
  · exact Nat.le_trans (dep_strs g) (by decide)
  · exact Nat.le_trans (dep_strs t) (by decide)
  · exact dep_blk b
theorem ne_of_eq {a b : D} (h : eqD a b = some true) : neD a b = some false := by unfold neD; rw [h]; rfl
theorem clean_tuN (ns : List Nat) : clean (tuN ns) = true := clean_tup fun d hd => by
  obtain ⟨x, _, rfl⟩ := List.mem_map.mp hd
  rfl
theorem eq_tuN (ns : List Nat) : eqD (tuN ns) (tuN ns) = some true := eqD_same (clean_tuN ns) (Nat.le_trans (dep_tup (k := 0) fun d hd => by
  obtain ⟨x, _, rfl⟩ := List.mem_map.mp hd
  exact Nat.le_refl _) (by decide))
theorem in_strs (x : Str) (xs : List Str) : inD (.str x) (strsT xs) = some (decide (x ∈ xs)) := by
  have f : (xs.map D.str).all flatD = true := by
    rw [List.all_map, List.all_eq_true]
    exact fun _ _ => rfl
  show (if (flatD (.str x) && (xs.map D.str).all flatD) = true then some ((xs.map D.str).any fun y => eqF y (.str x)) else none) = _
  rw [f]
  show some ((xs.map D.str).any fun y => eqF y (.str x)) = _
  congr 1
  rw [List.any_map]
  by_cases h : x ∈ xs
  · rw [decide_eq_true h, List.any_eq_true]
    exact ⟨x, h, by show (x == x) = true; exact beq_self_eq_true x⟩
  · rw [decide_eq_false h, List.any_eq_false]
    intro y hy e
    have e : (y == x) = true := e
    exact h (by rw [← beq_iff_eq.mp e]; exact hy)
theorem is_raw (S : Store) (fs : List Str) (vs : List D) : ((typN S (.obj "RawProgram" fs vs)).bind fun u => isOne ctab u (.cl "Program")) = some true := by
  show isOne ctab (.inr "RawProgram") (.cl "Program") = some true
  decide +kernel
theorem prog_eq_raw {g t : List Str} {b : List Stm} (h : eqD (spD g t b) (spD g t b) = some true) (S : Store) : d_Program___eq__ [prgD "RawProgram" g t b, prgD "RawProgram" g t b] S = .ok (.bl true, S) := by
  unfold d_Program___eq__ b_Program___eq__
  rw [runD_a (n := 2) rfl]
  simp? [is_raw, f_given, f_told, f_blk, h]
theorem eqO_raw {g t : List Str} {b : List Stm} (h : eqD (spD g t b) (spD g t b) = some true) (neg : Bool) (S : Store) : eqOD eqtab eqnf neg (prgD "RawProgram" g t b) (prgD "RawProgram" g t b) S = .ok (.bl (!neg), S) := by
  have l : eqtab.lookup ("RawProgram" : Str) = some d_Program___eq__ := rfl
  have r : rightOk eqnf "RawProgram" (prgD "RawProgram" g t b) = true := by
    show eqnf.contains ("RawProgram", "RawProgram") = true
    decide +kernel
  have e := prog_eq_raw h S
  show (match eqtab.lookup ("RawProgram" : Str) with
    | some den => if rightOk eqnf "RawProgram" (prgD "RawProgram" g t b) then (den [prgD "RawProgram" g t b, prgD "RawProgram" g t b] S).calm.bind fun p => (Out.opt (bD p.1)).bind fun k => .ok (D.bl (if neg then !k else k), p.2) else .stuck
    | none => .stuck) = _
  rw [l]
  dsimp only
  rw [if_pos r, e]
  cases neg <;> rfl
theorem raw_init_ok (a b c : D) (S : Store) : d_RawProgram___init__ (.ins "RawProgram" [] []) [a, b, c] S = .ok (.ins "RawProgram" ["given", "told", "block"] [a, b, c], S) := by
  unfold d_RawProgram___init__ b_RawProgram___init__
  rw [runO_a (n := 3) rfl]
  rfl
/-! ### a drawn program is right -/
theorem names_S (s : Stm) : s.names.length ≤ 1 + 2 * (1 + s.len) := by
  cases s with
  | deed d => cases d <;> simp [Stm.names, Dd.names, Stm.len]
  | round x ds =>
    have : ∀ ds : List Dd, (ds.flatMap Dd.names).length ≤ 2 * ds.length := by
      intro ds
      induction ds with
      | nil => simp
      | cons d ds ih =>
        rw [List.flatMap_cons, List.length_append, List.length_cons]
        have : d.names.length ≤ 2 := by cases d <;> simp [Dd.names]
        omega
    simp only [Stm.names, List.length_cons, Stm.len]
    have := this ds
    omega
theorem names_B {L : Nat} : ∀ {b : List Stm}, (∀ s ∈ b, s.len ≤ L) → (b.flatMap Stm.names).length ≤ b.length * (3 + 2 * L)
  | [], _ => by simp
  | s :: b, h => by
    have h1 := names_S s
    have h2 := h s List.mem_cons_self
    have h3 := names_B (b := b) fun e m => h e (.tail _ m)
    rw [List.flatMap_cons, List.length_append, List.length_cons, Nat.succ_mul]
    omega
theorem expd_len (s : Stm) : (expd s).length = 1 + s.len := by cases s <;> simp [expd, Stm.len, Nat.add_comm]
theorem nmo_expd (s : Stm) : ((expd s).flatMap nmo).length ≤ 2 * (1 + s.len) := by
  cases s with
  | deed d => cases d <;> simp [expd, nmo, Dd.names, Stm.len]
  | round x ds =>
    have : ∀ ds : List Dd, ((ds.map Stm.deed).flatMap nmo).length ≤ 2 * ds.length := by
      intro ds
      induction ds with
      | nil => simp
      | cons d ds ih =>
        rw [List.map_cons, List.flatMap_cons, List.length_append, List.length_cons]
        have : (nmo (.deed d)).length ≤ 2 := by cases d <;> simp [nmo, Dd.names]
        omega
    simp only [expd, List.flatMap_cons, nmo, List.length_append, List.length_singleton, Stm.len]
    have := this ds
    omega
theorem szB_le {L : Nat} : ∀ {b : List Stm}, (∀ s ∈ b, s.len ≤ L) → szB b ≤ b.length * (3 * (1 + L))
  | [], _ => by simp [szB]
  | s :: b, h => by
    have h2 := h s List.mem_cons_self
    have h3 := szB_le (b := b) fun e m => h e (.tail _ m)
    have h4 := expd_len s
    have h5 := nmo_expd s
    unfold szB at h3 ⊢
    rw [List.flatMap_cons, List.flatMap_append, List.length_append, List.length_append, List.length_cons, Nat.succ_mul]
    omega
theorem sizeB_le {L : Nat} : ∀ {b : List Stm}, (∀ s ∈ b, s.len ≤ L) → sizeB b ≤ b.length * (1 + L)
  | [], _ => by simp [sizeB]
  | s :: b, h => by
    have h2 := h s List.mem_cons_self
    have h3 := sizeB_le (b := b) fun e m => h e (.tail _ m)
    unfold sizeB at h3 ⊢
    rw [List.map_cons, List.sum_cons, List.length_cons, Nat.succ_mul]
    omega
theorem Spc.lens {mg ms : Nat} {g t : List Str} {b : List Stm} (h : Spc mg ms g t b) : ∀ s ∈ b, s.len ≤ 5 := fun s hs => (h.bs s hs).2
theorem Spc.pok {mg ms : Nat} {g t : List Str} {b : List Stm} (h : Spc mg ms g t b) (h1 : mg ≤ 2) (h2 : ms ≤ 10) : POk g t b where
  gs := fun x hx => base8_nm x (h.gs x hx)
  gn := h.gn
  gl := Nat.le_trans h.gl h1
  ts := fun x hx => base8_nm x (h.ts x hx)
  tn := h.tn
  t1 := h.t1
  t4 := Nat.le_trans h.t3 (by decide)
  bs := fun s hs x hx => base8_nm x ((h.bs s hs).1 x hx)
  bz := by
    have := sizeB_le h.lens
    have h3 : b.length * (1 + 5) ≤ 10 * (1 + 5) := Nat.mul_le_mul_right _ (Nat.le_trans h.bl h2)
    omega
theorem Spc.lns {mg ms : Nat} {g t : List Str} {b : List Stm} (h : Spc mg ms g t b) (h1 : mg ≤ 10) (h2 : ms ≤ 10) : (lnsL g t b).length ≤ 4000 := by
  have := names_B h.lens
  have h3 : b.length * (3 + 2 * 5) ≤ 10 * (3 + 2 * 5) := Nat.mul_le_mul_right _ (Nat.le_trans h.bl h2)
  unfold lnsL
  rw [List.length_append, List.length_append]
  have := h.gl
  have := h.t3
  omega
theorem bd_f0L {M : Nat} : ∀ {g : List Str} {as : List Nat} {f : Nums}, Bd f M → (∀ a ∈ as, a ≤ M) → Bd (f0L g as f) M
  | [], _, _, h, _ => h
  | _ :: _, [], _, h, _ => h
  | x :: g, a :: as, f, h, ha => bd_f0L (g := g) (as := as) (bd_up h (ha a List.mem_cons_self)) fun b hb => ha b (.tail _ hb)
theorem bd_f0 {M : Nat} {g : List Str} {as : List Nat} (h : ∀ a ∈ as, a ≤ M) : Bd (f0 g as) M := bd_f0L (fun _ => Nat.zero_le _) h
theorem f0L_out {x : Str} : ∀ {g : List Str} {as : List Nat} {f : Nums}, x ∉ g → f0L g as f x = f x
  | [], _, _, _ => rfl
  | _ :: _, [], _, _ => rfl
  | y :: g, a :: as, f, h => by
    rw [List.mem_cons, not_or] at h
    show f0L g as (ups f y a) x = _
    rw [f0L_out h.2, ups_ne h.1]
theorem f0_out {x : Str} {g : List Str} {as : List Nat} (h : x ∉ g) : f0 g as x = 0 := f0L_out h
theorem pow_small {M : Nat} {n : Nat} (hM : M ≤ 2 ^ 200) (hn : n ≤ 1000) : (M + 1) * (5 + 5 + 2) ^ n ≤ 2 ^ 900000 := by
  have h1 : (5 + 5 + 2) ^ n ≤ (2 ^ 4) ^ n := Nat.pow_le_pow_left (by decide) n
  rw [← Nat.pow_mul] at h1
  have h2 : M + 1 ≤ 2 ^ 201 := by
    have : 2 ^ 201 = 2 * 2 ^ 200 := by rw [Nat.pow_succ, Nat.mul_comm]
    have : 1 ≤ 2 ^ 200 := Nat.one_le_two_pow
    omega
  have h3 := Nat.mul_le_mul h2 h1
  rw [← Nat.pow_add] at h3
  exact Nat.le_trans h3 (Nat.pow_le_pow_right (by decide) (by omega))
theorem Spc.run {mg ms : Nat} {g t : List Str} {b : List Stm} (h : Spc mg ms g t b) (h1 : mg ≤ 10) (h2 : ms ≤ 10) {as : List Nat} (ha : ∀ a ∈ as, a ≤ 2 ^ 200) (hl : as.length = g.length) : Run g t b as where
  sz := by
    have := szB_le h.lens
    have h3 : b.length * (3 * (1 + 5)) ≤ 10 * (3 * (1 + 5)) := Nat.mul_le_mul_right _ (Nat.le_trans h.bl h2)
    have := h.gl
    have := h.t3
    omega
  ln := hl
  fit := fitB_of b (L := 10) (bd_f0 ha) (by decide) (fun s hs => Nat.le_trans (h.lens s hs) (by decide)) (pow_small (Nat.le_refl _) (by have := h.bl; omega))
  bl := by have := h.bl; omega
theorem Spc.fitK {mg ms : Nat} {g t : List Str} {b : List Stm} (h : Spc mg ms g t b) (h2 : ms ≤ 4) {as : List Nat} (ha : ∀ a ∈ as, a ≤ 30) : FitK 16777216 b (f0 g as) := by
  refine fitK_of _ b (bd_f0 ha) h.lens ?_
  have : (5 + 2) ^ b.length ≤ (5 + 2) ^ 4 := Nat.pow_le_pow_right (by decide) (Nat.le_trans h.bl h2)
  have := Nat.mul_le_mul_left 31 this
  omega
end LW
end

section
set_option linter.all false
set_option maxRecDepth 100000
namespace LW
open PySem L2 GG
local macro_rules
  | `(tactic| simp? [$a,*] $[$l:location]?) => `(tactic| simp only [eC_a, eV_a, hE_a, hV_a, eH_a, eHB_a, eBin_a, eUn_a, eAnd_a, eOr_a, eNot_a, eIf_a, eCmp_a, eChain_a, aN_a, aC_a, eTup_a, eLst_a, eCall_a, eB_a, eFz_a, eAl_a, mLst_a, mLc_a, mLc2_a, mMk_a, mDic0_a, mList_a, eMeth_a, eIsi1_a, eIsi_a, eInH_a, eSl_a, oX_none, oX_some, bV_a, bT_a, bAnd_a, bOr_a, bNot_a, bTrue_a, iS_a, iEn_a, iZ_a, iR1_a, iR2_a, iR3_a, sSeq_a, sNil_a, sExpr_a, sRet_a, sRetN_a, sIf_a, sBrk_a, sCnt_a, sSet_a, sOwn_a, sFz_a, sFor_a, sMt_a, sFld_a, sAsg_a, sRaise_a, sTry_a, sMethO_a, endD_rt, endD_nx, endD_ex, bok, bex, oso, sok, sxc, cok, qnx, qrt, qbk, qct, qex, lnx, lct, lbk, lrt, lxc, oss, okk, obs, oms, add_i, sub_i, neg_i, lt_i, le_i, gt_i, ge_i, len_l, len_t, len_f, len_d, idx_l, idx_t, idx_f, walk_l, walk_t, walk_f, seq_l, seq_t, tuple_l, tuple_t, int_i, atI_0, atI_1, atI_2, dr_n, dr_b, dr_i, dr_s, dr_l, dr_t, dr_k, dr_f, dr_d, dr_o, dr_p, dr_w, now_l, now_d, now_o, frz_l, frz_d, frz_o, isL_l, frzAt, cu_p, cu_w, pu_p, pu_w, startD, startO, List.map_cons, List.map_nil, List.replicate, List.cons_append, List.nil_append, List.length_cons, List.length_nil, Nat.zero_add, Nat.reduceAdd, List.getElem?_cons_zero, List.getElem?_cons_succ, List.set_cons_zero, List.set_cons_succ, if_true, if_false, reduceIte, Bool.false_eq_true, bD_b, tru_n, tru_b, tru_l, tru_t, gN_a, gT_t, gAll_n, gAll_c, wipeD, ite_and, ite_or, ite_andB, ite_orB, szOk_0, szOk_1, szOk_2, szOk_3, szOk_4, Bool.not_true, Bool.not_false, Bool.true_and, Bool.and_true, Bool.false_and, Bool.and_false, Bool.true_or, Bool.or_true, Bool.false_or, Bool.or_false, decide_true, decide_false, tT, tAll, tN, tI, setI, sTry0_a, mSrt_a, mSrtTx_a, eEqO_a, tIK_a, now_td, frz_td, dr_td, idx_td, in_td, srt_td, $a,*] $[$l:location]?)
/-! ### the clock: what it does -/
def clkD (z : Str) (ds : List Dd) : List Dd := ds.flatMap fun d => [.more z, d]
def clkS (z : Str) : Stm → List Stm
  | .deed d => [.deed (.more z), .deed d]
  | .round x ds => [.deed (.more z), .round x (clkD z ds)]
def clkB (z : Str) (b : List Stm) : List Stm := b.flatMap (clkS z)
def Rz (z : Str) (f g : Nums) (k : Nat) : Prop := g z = k ∧ ∀ x, x ≠ z → g x = f x
theorem rz_tick {z : Str} {f g : Nums} {k : Nat} (h : Rz z f g k) : Rz z f (doD (.more z) g) (k + 1) := by
  refine ⟨?_, fun x hx => ?_⟩
  · show ups g z (g z + 1) z = _
    rw [ups_self, h.1]
  · show ups g z (g z + 1) x = _
    rw [ups_ne hx, h.2 x hx]
theorem rz_D {z : Str} {f g : Nums} {k : Nat} {d : Dd} (h : Rz z f g k) (hd : z ∉ d.names) : Rz z (doD d f) (doD d g) k := by
  refine ⟨by rw [doD_out hd]; exact h.1, fun x hx => ?_⟩
  cases d with
  | zero y => show (if x = y then _ else _) = (if x = y then _ else _); rw [h.2 x hx]
  | copy y u =>
    have hu : u ≠ z := fun e => hd (by simp [Dd.names, e])
    show (if x = y then _ else _) = (if x = y then _ else _)
    rw [h.2 x hx, h.2 u hu]
  | more y =>
    have hy : y ≠ z := fun e => hd (by simp [Dd.names, e])
    show (if x = y then _ else _) = (if x = y then _ else _)
    rw [h.2 x hx, h.2 y hy]
theorem rz_Ds {z : Str} : ∀ {ds : List Dd} {f g : Nums} {k : Nat}, Rz z f g k → (∀ d ∈ ds, z ∉ d.names) → Rz z (doDs ds f) (doDs (clkD z ds) g) (k + ds.length)
  | [], _, _, _, h, _ => h
  | d :: ds, f, g, k, h, hd => by
    have := rz_Ds (ds := ds) (rz_D (rz_tick h) (hd d List.mem_cons_self)) fun e m => hd e (.tail _ m)
    rw [List.length_cons, show k + (ds.length + 1) = k + 1 + ds.length from by omega]
    exact this
theorem rz_iter {z : Str} {ds : List Dd} (hd : ∀ d ∈ ds, z ∉ d.names) : ∀ (n : Nat) {f g : Nums} {k : Nat}, Rz z f g k → Rz z (iter (doDs ds) n f) (iter (doDs (clkD z ds)) n g) (k + n * ds.length)
  | 0, _, _, k, h => by rw [Nat.zero_mul]; exact h
  | n + 1, f, g, k, h => by
    have := rz_iter hd n (rz_Ds h hd)
    rw [show k + (n + 1) * ds.length = k + ds.length + n * ds.length from by rw [Nat.succ_mul]; omega]
    exact this
theorem rz_S {z : Str} {s : Stm} {f g : Nums} {k : Nat} (h : Rz z f g k) (hs : z ∉ s.names) : Rz z (doS s f) (runB (clkS z s) g) (k + manyS s f) := by
  cases s with
  | deed d => exact rz_D (rz_tick h) hs
  | round x ds =>
    have hx : x ≠ z := fun e => hs (by simp [Stm.names, e])
    have t := rz_tick h
    have := rz_iter (ds := ds) (fun d hd hz => hs (by simp only [Stm.names, List.mem_cons, List.mem_flatMap]; exact .inr ⟨d, hd, hz⟩)) (f x) t
    show Rz z (iter (doDs ds) (f x) f) (iter (doDs (clkD z ds)) (doD (.more z) g x) (doD (.more z) g)) (k + (1 + f x * ds.length))
    rw [t.2 x hx, ← Nat.add_assoc]
    exact this
theorem rz_B {z : Str} : ∀ {b : List Stm} {f g : Nums} {k : Nat}, Rz z f g k → (∀ s ∈ b, z ∉ s.names) → Rz z (runB b f) (runB (clkB z b) g) (k + cntB b f)
  | [], _, _, _, h, _ => h
  | s :: b, f, g, k, h, hs => by
    have := rz_B (b := b) (rz_S h (hs s List.mem_cons_self)) fun e m => hs e (.tail _ m)
    show Rz z (runB b (doS s f)) (runB (clkS z s ++ clkB z b) g) (k + (manyS s f + cntB b (doS s f)))
    rw [runB_app, ← Nat.add_assoc]
    exact this
theorem clk_told {z : Str} {g t : List Str} {b : List Stm} {as : List Nat} (hg : z ∉ g) (ht : z ∉ t) (hb : ∀ s ∈ b, z ∉ s.names) : (t ++ [z]).map (runB (clkB z b) (f0 g as)) = t.map (runB b (f0 g as)) ++ [cntB b (f0 g as)] := by
  have r := rz_B (z := z) (f := f0 g as) (g := f0 g as) (k := 0) ⟨f0_out hg, fun _ _ => rfl⟩ hb
  rw [List.map_append, List.map_singleton, r.1, Nat.zero_add]
  congr 1
  exact List.map_congr_left fun x hx => r.2 x fun e => ht (by rw [← e]; exact hx)
/-! ### the clock, walked -/
theorem add_tup1 (xs : List Str) (z : Str) (h : xs.length ≤ 1000) : addD (.tup (xs.map D.str)) (.tup [.str z]) = some (strsT (xs ++ [z])) := by
  rw [add_t (by rw [List.length_map]; show xs.length + 1 ≤ _; omega)]
  show _ = some (D.tup ((xs ++ [z]).map D.str))
  rw [List.map_append]
  rfl
theorem stD_more (z : Str) : stD (.deed (.more z)) = .tup [.str "more", .str z] := rfl
theorem clk_inner {S : Store} {z : Str} : ∀ (ds : List Dd) (ρ : LEnv), ρ.length = 8 → ρ[2]? = some (.val (.tup [.str "more", .str z])) → lc2L (gN 6) bTrue (iS (eTup (aC (eV 2) (aC (eV 6) aN)))) (gN 7) bTrue (eV 7) [7] (ds.map ddD) ρ S = .ok ((clkD z ds).map ddD, S) := by
  intro ds ρ hl h2
  have := lc2L_map (S := S) (ρ := ρ) (enc := ddD) (n := gN 6) (i1 := iS (eTup (aC (eV 2) (aC (eV 6) aN)))) (n1 := gN 7) (t1 := bTrue) (e := eV 7) (vs1 := [7]) (f := fun d => [ddD (.more z), ddD d]) (xs := ds) fun d _ => ⟨ρ.set 6 (.val (ddD d)), [.tup [.str "more", .str z], ddD d], rfl, by
    have g2 : (ρ.set 6 (.val (ddD d)))[2]? = some (.val (.tup [.str "more", .str z])) := by rw [List.getElem?_set_ne (by decide)]; exact h2
    have g6 : (ρ.set 6 (.val (ddD d)))[6]? = some (.val (ddD d)) := List.getElem?_set_self (by omega)
    simp? [g2, g6], by
    have hw : ∀ y : D, (((ρ.set 6 (.val (ddD d))).set 7 .no).set 7 (.val y))[7]? = some (.val y) := fun y => List.getElem?_set_self (by rw [List.length_set, List.length_set]; omega)
    have st := lcL_map (S := S) (ρ := (ρ.set 6 (.val (ddD d))).set 7 .no) (enc := fun y : D => y) (n := gN 7) (e := eV 7) (f := fun y : D => y) (xs := [D.tup [.str "more", .str z], ddD d]) fun y _ => ⟨_, rfl, by have := hw y; simp? [this]⟩
    simp only [List.map_id'] at st
    exact st⟩
  rw [this]
  unfold clkD
  rw [List.map_flatMap]
  rfl
theorem clkD_len (z : Str) (ds : List Dd) : (clkD z ds).length = 2 * ds.length := by
  unfold clkD
  induction ds with
  | nil => rfl
  | cons d ds ih => rw [List.flatMap_cons, List.length_append, ih, List.length_cons]; simp; omega
theorem clkB_len (z : Str) (b : List Stm) : (clkB z b).length = 2 * b.length := by
  unfold clkB
  induction b with
  | nil => rfl
  | cons s b ih =>
    rw [List.flatMap_cons, List.length_append, ih, List.length_cons]
    cases s <;> simp [clkS] <;> omega
section
variable {S : Store} {z : Str}
theorem clocked_loop {x0 x1 : Slot} : ∀ (b acc : List Stm) (s4 s5 : Slot), acc.length + 2 * b.length ≤ 1000000 → (∀ s ∈ b, s.len ≤ 1000000) → ∃ s4' s5', forL (gN 4) L0_clocked (b.map stD) [x0, x1, .val (.tup [.str "more", .str z]), .own (.lst (acc.map stD)), s4, s5, .no, .no] S = .nx [x0, x1, .val (.tup [.str "more", .str z]), .own (.lst ((acc ++ clkB z b).map stD)), s4', s5', .no, .no] S
  | [], acc, s4, s5, _, _ => ⟨s4, s5, by unfold clkB; rw [List.flatMap_nil, List.append_nil]; rfl⟩
  | s :: b, acc, s4, s5, h, hz => by
    rw [List.length_cons] at h
    rw [List.map_cons, forL_cons (ρ' := [x0, x1, .val (.tup [.str "more", .str z]), .own (.lst (acc.map stD)), .val (stD s), s5, .no, .no]) rfl]
    have a1 : appD [.tup [.str "more", .str z]] (.lst (acc.map stD)) = some (.lst ((acc ++ [Stm.deed (.more z)]).map stD)) := by
      rw [app_l (by rw [List.length_map]; omega), List.map_append]
      rfl
    have a2 : ∀ s, appD [stD s] (.lst ((acc ++ [Stm.deed (.more z)]).map stD)) = some (.lst ((acc ++ [Stm.deed (.more z), s]).map stD)) := fun s => by
      rw [app_l (by rw [List.length_map, List.length_append, List.length_singleton]; omega)]
      show some (MO.lst ((acc ++ [Stm.deed (.more z)]).map stD ++ [s].map stD)) = _
      rw [← List.map_append, List.append_assoc]
      rfl
    have st : ∃ s5', L0_clocked [x0, x1, .val (.tup [.str "more", .str z]), .own (.lst (acc.map stD)), .val (stD s), s5, .no, .no] S = .nx [x0, x1, .val (.tup [.str "more", .str z]), .own (.lst ((acc ++ clkS z s).map stD)), .val (stD s), s5', .no, .no] S := by
      cases s with
      | deed d =>
        obtain ⟨k, xs, e, k1, _, _⟩ := ddD_k d
        have a2 := a2 (.deed d)
        have e' : stD (.deed d) = .tup (.str k :: xs) := e
        rw [e'] at a2 ⊢
        refine ⟨s5, ?_⟩
        unfold L0_clocked
        simp? [a1, k1, a2]
        rfl
      | round x ds =>
        have a2 := a2 (.round x (clkD z ds))
        have e' : stD (.round x ds) = .tup [.str "round", .str x, .tup (ds.map ddD)] := rfl
        have e2 : stD (.round x (clkD z ds)) = .tup [.str "round", .str x, .tup ((clkD z ds).map ddD)] := rfl
        rw [e2] at a2
        rw [e']
        have ci := clk_inner (S := S) (z := z) ds [x0, x1, .val (.tup [.str "more", .str z]), .own (.lst ((acc ++ [Stm.deed (.more z)]).map stD)), .val (.tup [.str "round", .str x, .tup (ds.map ddD)]), s5, .no, .no] rfl rfl
        have le : ∀ xs : List D, xs.length ≤ 16777216 → (lcEnd [] (xs, S) : Out (MO × Store)) = .ok (.lst xs, S) := fun xs h => by
          show (if szOk ([] ++ xs).length then Out.ok (MO.lst ([] ++ xs), S) else .stuck) = _
          rw [List.nil_append, szOk_t h]
          rfl
        have hd : ds.length ≤ 1000000 := hz _ List.mem_cons_self
        have le := le ((clkD z ds).map ddD) (by rw [List.length_map, clkD_len]; omega)
        refine ⟨.val (.tup ((clkD z ds).map ddD)), ?_⟩
        unfold L0_clocked
        simp? [mLc2_a, a1, kq_rr, ci, le, a2]
        rfl
    obtain ⟨a5, st⟩ := st
    rw [st, lnx]
    obtain ⟨s4', s5', e⟩ := clocked_loop b (acc ++ clkS z s) _ a5 (by
      rw [List.length_append]
      have : (clkS z s).length = 2 := by cases s <;> rfl
      omega) (fun e m => hz e (.tail _ m))
    refine ⟨s4', s5', ?_⟩
    rw [e, List.append_assoc]
    rfl
theorem clocked_ok {c : Str} {g t : List Str} {b : List Stm} (ht : t.length ≤ 1000) (hb : b.length ≤ 400000) (hz : ∀ s ∈ b, s.len ≤ 1000000) : d_clocked [prgD c g t b, .str z] S = .ok (prgD "RawProgram" g (t ++ [z]) (clkB z b), S) := by
  unfold d_clocked b_clocked
  rw [runD_a (n := 2) rfl]
  obtain ⟨s4, s5, e⟩ := clocked_loop (S := S) (z := z) (x0 := .val (prgD c g t b)) (x1 := .val (.str z)) b [] .no .no (by simp; omega) hz
  rw [show (([] : List Stm).map stD) = [] from rfl, List.nil_append] at e
  have ad := add_tup1 t z ht
  simp? [f_blk, e, f_given, f_told, ad, raw_init_ok]
theorem with_clock_ok {c : Str} {g t : List Str} {b : List Stm} (hs : g.length + t.length + szB b ≤ 1000000) (ht : t.length ≤ 3) (hb : b.length ≤ 400000) (hz : ∀ s ∈ b, s.len ≤ 1000000) (hn : isN z) (h : z ∉ nsOf g t b) : d_with_clock [prgD c g t b, .str z] S = .ok (prgD "RawProgram" g (t ++ [z]) (clkB z b), S) := by
  unfold d_with_clock b_with_clock
  rw [runD_a (n := 2) rfl]
  have n1 := isN_name hn
  have n2 := names_ok c g t b hs
  have n3 := in_strs z (nsOf g t b)
  rw [decide_eq_false h] at n3
  have q : eqD (.int (t.length : Nat)) (.int 4) = some false := by rw [eqD_i, decide_eq_false (by omega)]
  have k := clocked_ok (S := S) (z := z) (c := c) (g := g) (t := t) (b := b) (by omega) hb hz
  simp? [n1, n2, n3, f_told, List.length_map, q, k]
end
/-! the law's own clock -/
section
variable {S : Store} {z : Str}
theorem lclk_in {x0 x1 s3 s4 : Slot} : ∀ (ds acc : List Dd) (s6 : Slot), acc.length + 2 * ds.length ≤ 1000000 → ∃ s6', forL (gN 6) L0__law_clocked (ds.map ddD) [x0, x1, .val (.tup [.str "more", .str z]), s3, s4, .own (.lst (acc.map ddD)), s6] S = .nx [x0, x1, .val (.tup [.str "more", .str z]), s3, s4, .own (.lst ((acc ++ clkD z ds).map ddD)), s6'] S
  | [], acc, s6, _ => ⟨s6, by unfold clkD; rw [List.flatMap_nil, List.append_nil]; rfl⟩
  | d :: ds, acc, s6, h => by
    rw [List.length_cons] at h
    rw [List.map_cons, forL_cons (ρ' := [x0, x1, .val (.tup [.str "more", .str z]), s3, s4, .own (.lst (acc.map ddD)), .val (ddD d)]) rfl]
    have ex : extD [.lst [.tup [.str "more", .str z], ddD d]] (.lst (acc.map ddD)) = some (.lst ((acc ++ [Dd.more z, d]).map ddD)) := by
      rw [ext_l (by rw [List.length_map]; show acc.length + 2 ≤ _; omega), List.map_append]
      rfl
    have st : L0__law_clocked [x0, x1, .val (.tup [.str "more", .str z]), s3, s4, .own (.lst (acc.map ddD)), .val (ddD d)] S = .nx [x0, x1, .val (.tup [.str "more", .str z]), s3, s4, .own (.lst ((acc ++ [Dd.more z, d]).map ddD)), .val (ddD d)] S := by
      unfold L0__law_clocked
      simp? [ex]
    rw [st, lnx]
    obtain ⟨s6', e⟩ := lclk_in ds (acc ++ [Dd.more z, d]) (.val (ddD d)) (by rw [List.length_append]; show acc.length + 2 + _ ≤ _; omega)
    refine ⟨s6', ?_⟩
    rw [e, List.append_assoc]
    rfl
theorem lclk_out {x0 x1 : Slot} : ∀ (b acc : List Stm) (s4 s5 s6 : Slot), acc.length + 2 * b.length ≤ 1000000 → (∀ s ∈ b, s.len ≤ 100000) → ∃ s4' s5' s6', forL (gN 4) L1__law_clocked (b.map stD) [x0, x1, .val (.tup [.str "more", .str z]), .own (.lst (acc.map stD)), s4, s5, s6] S = .nx [x0, x1, .val (.tup [.str "more", .str z]), .own (.lst ((acc ++ clkB z b).map stD)), s4', s5', s6'] S
  | [], acc, s4, s5, s6, _, _ => ⟨s4, s5, s6, by unfold clkB; rw [List.flatMap_nil, List.append_nil]; rfl⟩
  | s :: b, acc, s4, s5, s6, h, hz => by
    rw [List.length_cons] at h
    rw [List.map_cons, forL_cons (ρ' := [x0, x1, .val (.tup [.str "more", .str z]), .own (.lst (acc.map stD)), .val (stD s), s5, s6]) rfl]
    have a1 : appD [.tup [.str "more", .str z]] (.lst (acc.map stD)) = some (.lst ((acc ++ [Stm.deed (.more z)]).map stD)) := by
      rw [app_l (by rw [List.length_map]; omega), List.map_append]
      rfl
    have a2 : ∀ s, appD [stD s] (.lst ((acc ++ [Stm.deed (.more z)]).map stD)) = some (.lst ((acc ++ [Stm.deed (.more z), s]).map stD)) := fun s => by
      rw [app_l (by rw [List.length_map, List.length_append, List.length_singleton]; omega)]
      show some (MO.lst ((acc ++ [Stm.deed (.more z)]).map stD ++ [s].map stD)) = _
      rw [← List.map_append, List.append_assoc]
      rfl
    have st : ∃ s4' s5' s6', L1__law_clocked [x0, x1, .val (.tup [.str "more", .str z]), .own (.lst (acc.map stD)), .val (stD s), s5, s6] S = .nx [x0, x1, .val (.tup [.str "more", .str z]), .own (.lst ((acc ++ clkS z s).map stD)), s4', s5', s6'] S := by
      cases s with
      | deed d =>
        obtain ⟨k, xs, e, k1, _, _⟩ := ddD_k d
        have a2 := a2 (.deed d)
        have e' : stD (.deed d) = .tup (.str k :: xs) := e
        rw [e'] at a2 ⊢
        refine ⟨.val (.tup (.str k :: xs)), s5, s6, ?_⟩
        unfold L1__law_clocked
        simp? [a1, k1, a2]
        rfl
      | round x ds =>
        have a2 := a2 (.round x (clkD z ds))
        have e' : stD (.round x ds) = .tup [.str "round", .str x, .tup (ds.map ddD)] := rfl
        have e2 : stD (.round x (clkD z ds)) = .tup [.str "round", .str x, .tup ((clkD z ds).map ddD)] := rfl
        rw [e2] at a2
        rw [e']
        have hd : ds.length ≤ 100000 := hz _ List.mem_cons_self
        obtain ⟨a6, ei⟩ := lclk_in (S := S) (z := z) (x0 := x0) (x1 := x1) (s3 := .own (.lst ((acc ++ [Stm.deed (.more z)]).map stD))) (s4 := .val (.tup [.str "round", .str x, .tup (ds.map ddD)])) ds [] s6 (by simp; omega)
        rw [show (([] : List Dd).map ddD) = [] from rfl, List.nil_append] at ei
        refine ⟨.val (.tup [.str "round", .str x, .tup ((clkD z ds).map ddD)]), .own (.lst ((clkD z ds).map ddD)), a6, ?_⟩
        unfold L1__law_clocked
        simp? [a1, kq_rr, ei, a2]
        rfl
    obtain ⟨a4, a5, a6, st⟩ := st
    rw [st, lnx]
    obtain ⟨s4', s5', s6', e⟩ := lclk_out b (acc ++ clkS z s) a4 a5 a6 (by
      rw [List.length_append]
      have : (clkS z s).length = 2 := by cases s <;> rfl
      omega) (fun e m => hz e (.tail _ m))
    refine ⟨s4', s5', s6', ?_⟩
    rw [e, List.append_assoc]
    rfl
theorem law_clocked_ok {g t : List Str} {b : List Stm} (ht : t.length ≤ 1000) (hb : b.length ≤ 400000) (hz : ∀ s ∈ b, s.len ≤ 100000) : d__law_clocked [spD g t b, .str z] S = .ok (spD g (t ++ [z]) (clkB z b), S) := by
  unfold d__law_clocked b__law_clocked
  rw [runD_a (n := 2) rfl]
  obtain ⟨s4, s5, s6, e⟩ := lclk_out (S := S) (z := z) (x0 := .val (spD g t b)) (x1 := .val (.str z)) b [] .no .no .no (by simp; omega) hz
  rw [show (([] : List Stm).map stD) = [] from rfl, List.nil_append] at e
  have ad := add_tup1 t z ht
  simp? [e, ad]
end
/-! how many deeds, by the law -/
section
variable {S : Store} {ns : List Str}
theorem lm0 {x0 x1 s3 s4 s5 : Slot} (hl : ns.length ≤ 1000000) : ∀ (ds : List Dd) (f : Nums) (s6 : Slot), (∀ d ∈ ds, ∀ x ∈ d.names, x ∈ ns) → ∃ s6', forL (gN 6) L0__law_many (ds.map ddD) [x0, x1, .val (.ptr S.length), s3, s4, s5, s6] (S ++ [tdM (mkL nD ns f)]) = .nx [x0, x1, .val (.ptr S.length), s3, s4, s5, s6'] (S ++ [tdM (mkL nD ns (doDs ds f))])
  | [], f, s6, _ => ⟨s6, rfl⟩
  | d :: ds, f, s6, h => by
    rw [List.map_cons, forL_cons (ρ' := [x0, x1, .val (.ptr S.length), s3, s4, s5, .val (ddD d)]) rfl]
    have ld := law_do_ok (S := S) (f := f) hl (h d List.mem_cons_self)
    have st : L0__law_many [x0, x1, .val (.ptr S.length), s3, s4, s5, .val (ddD d)] (S ++ [tdM (mkL nD ns f)]) = .nx [x0, x1, .val (.ptr S.length), s3, s4, s5, .val (ddD d)] (S ++ [tdM (mkL nD ns (doD d f))]) := by
      unfold L0__law_many
      simp? [ld]
    rw [st, lnx]
    exact lm0 hl ds (doD d f) _ fun e m => h e (.tail _ m)
theorem lm1 {x0 x1 : Slot} {x : Str} {ds : List Dd} (hl : ns.length ≤ 1000000) (h : ∀ d ∈ ds, ∀ x ∈ d.names, x ∈ ns) : ∀ (items : List D) (f : Nums) (k : Nat) (s5 s6 : Slot), ∃ s5' s6', forL (gN 5) L1__law_many items [x0, x1, .val (.ptr S.length), .val (nD k), .val (stD (.round x ds)), s5, s6] (S ++ [tdM (mkL nD ns f)]) = .nx [x0, x1, .val (.ptr S.length), .val (nD (k + items.length * ds.length)), .val (stD (.round x ds)), s5', s6'] (S ++ [tdM (mkL nD ns (iter (doDs ds) items.length f))])
  | [], f, k, s5, s6 => ⟨s5, s6, by rw [List.length_nil, Nat.zero_mul]; rfl⟩
  | i :: items, f, k, s5, s6 => by
    rw [forL_cons (ρ' := [x0, x1, .val (.ptr S.length), .val (nD k), .val (stD (.round x ds)), .val i, s6]) rfl]
    obtain ⟨a6, e⟩ := lm0 (S := S) (x0 := x0) (x1 := x1) (s3 := .val (nD (k + ds.length))) (s4 := .val (stD (.round x ds))) (s5 := .val i) hl ds f s6 h
    have st : L1__law_many [x0, x1, .val (.ptr S.length), .val (nD k), .val (stD (.round x ds)), .val i, s6] (S ++ [tdM (mkL nD ns f)]) = .nx [x0, x1, .val (.ptr S.length), .val (nD (k + ds.length)), .val (stD (.round x ds)), .val i, a6] (S ++ [tdM (mkL nD ns (doDs ds f))]) := by
      have e' : stD (.round x ds) = .tup [.str "round", .str x, .tup (ds.map ddD)] := rfl
      rw [show nD (k + ds.length) = D.int ((k : Nat) + (ds.length : Nat)) from by show D.int ((k + ds.length : Nat) : Int) = _; rw [Int.natCast_add]] at e ⊢
      rw [e'] at e ⊢
      unfold L1__law_many
      simp? [List.length_map, e]
    rw [st, lnx]
    obtain ⟨b5, b6, e2⟩ := lm1 hl h items (doDs ds f) (k + ds.length) (.val i) a6
    refine ⟨b5, b6, ?_⟩
    rw [e2, List.length_cons, show k + (items.length + 1) * ds.length = k + ds.length + items.length * ds.length from by rw [Nat.succ_mul]; omega]
    rfl
theorem lm2 {x0 x1 : Slot} (hl : ns.length ≤ 1000000) : ∀ (b : List Stm) (f : Nums) (k : Nat) (s4 s5 s6 : Slot), (∀ s ∈ b, ∀ x ∈ s.names, x ∈ ns) → FitK 16777216 b f → ∃ s4' s5' s6', forL (gN 4) L2__law_many (b.map stD) [x0, x1, .val (.ptr S.length), .val (nD k), s4, s5, s6] (S ++ [tdM (mkL nD ns f)]) = .nx [x0, x1, .val (.ptr S.length), .val (nD (k + cntB b f)), s4', s5', s6'] (S ++ [tdM (mkL nD ns (runB b f))])
  | [], f, k, s4, s5, s6, _, _ => ⟨s4, s5, s6, rfl⟩
  | s :: b, f, k, s4, s5, s6, h, hf => by
    rw [List.map_cons, forL_cons (ρ' := [x0, x1, .val (.ptr S.length), .val (nD k), .val (stD s), s5, s6]) rfl]
    have hs := h s List.mem_cons_self
    have k1 : D.int ((k : Nat) + 1) = nD (k + 1) := by show _ = D.int ((k + 1 : Nat) : Int); rw [Int.natCast_add]; rfl
    have st : ∃ s5' s6', L2__law_many [x0, x1, .val (.ptr S.length), .val (nD k), .val (stD s), s5, s6] (S ++ [tdM (mkL nD ns f)]) = .nx [x0, x1, .val (.ptr S.length), .val (nD (k + manyS s f)), .val (stD s), s5', s6'] (S ++ [tdM (mkL nD ns (doS s f))]) := by
      cases s with
      | deed d =>
        obtain ⟨w, xs, e, w1, _, _⟩ := ddD_k d
        have ld := law_do_ok (S := S) (f := f) (d := d) hl hs
        have e' : stD (.deed d) = .tup (.str w :: xs) := e
        rw [e] at ld
        rw [e']
        refine ⟨s5, s6, ?_⟩
        unfold L2__law_many
        simp? [k1, w1, ld]
        rfl
      | round x ds =>
        have g1 := getS_mk (enc := nD) (f := f) (hs x (by simp [Stm.names]))
        have rg := rng1 (f x) (hf.1 x)
        obtain ⟨a5, a6, e⟩ := lm1 (S := S) (x0 := x0) (x1 := x1) (x := x) (ds := ds) hl (fun d m y hy => hs y (by simp only [Stm.names, List.mem_cons, List.mem_flatMap]; exact .inr ⟨d, m, hy⟩)) ((List.range (f x)).map fun i => D.int (i : Nat)) f (k + 1) s5 s6
        rw [List.length_map, List.length_range, Nat.add_assoc] at e
        have e' : stD (.round x ds) = .tup [.str "round", .str x, .tup (ds.map ddD)] := rfl
        rw [e'] at e ⊢
        refine ⟨a5, a6, ?_⟩
        unfold L2__law_many
        simp? [k1, kq_rr, app_at, g1, rg, e]
        rfl
    obtain ⟨a5, a6, st⟩ := st
    rw [st, lnx]
    obtain ⟨b4, b5, b6, e⟩ := lm2 hl b (doS s f) (k + manyS s f) (.val (stD s)) a5 a6 (fun e m => h e (.tail _ m)) hf.2
    refine ⟨b4, b5, b6, ?_⟩
    rw [e, Nat.add_assoc]
    rfl
end
theorem law_many_ok {S : Store} {g t : List Str} {b : List Stm} {as : List Nat} (h : (lnsL g t b).length ≤ 4000) (hf : FitK 16777216 b (f0 g as)) : ∃ m, d__law_many [spD g t b, tuN as] S = .ok (nD (cntB b (f0 g as)), S ++ [m]) := by
  have fk := law_first_ok (S := S) (as := as) h
  have le := lnsOf_le g t b
  obtain ⟨a4, a5, a6, e⟩ := lm2 (S := S) (ns := lnsOf g t b) (x0 := .val (spD g t b)) (x1 := .val (tuN as)) (by omega) b (f0 g as) 0 .no .no .no (fun s hs x hx => lnsOf_mem.mpr (.inr ⟨s, hs, hx⟩)) hf
  rw [Nat.zero_add] at e
  refine ⟨tdM (mkL nD (lnsOf g t b) (runB b (f0 g as))), ?_⟩
  unfold d__law_many b__law_many
  rw [runD_a (n := 2) rfl]
  rw [show nD 0 = D.int 0 from rfl] at e
  simp? [fk, e]
theorem deeds_ok {S : Store} {c : Str} {g t : List Str} {b : List Stm} {as : List Nat} (r : Run g t b as) : d_deeds [prgD c g t b, tuN as] S = .ok (nD (cntB b (f0 g as)), S) := by
  obtain ⟨acc, e⟩ := parts_ok (S := S) (c := c) r
  unfold d_deeds b_deeds
  rw [runD_a (n := 2) rfl]
  have ci := check_input_ok (S := S) (g := g) r.ln
  have la := atI_last acc (.tup [nD (cntB b (f0 g as)), nmsD (nsOf g t b) (runB b (f0 g as))])
  simp? [f_given, List.length_map, ci, e, la]
end LW
end

section
set_option linter.all false
set_option maxRecDepth 100000
namespace LW
open PySem L2 GG
local macro_rules
  | `(tactic| simp? [$a,*] $[$l:location]?) => `(tactic| simp only [eC_a, eV_a, hE_a, hV_a, eH_a, eHB_a, eBin_a, eUn_a, eAnd_a, eOr_a, eNot_a, eIf_a, eCmp_a, eChain_a, aN_a, aC_a, eTup_a, eLst_a, eCall_a, eB_a, eFz_a, eAl_a, mLst_a, mLc_a, mLc2_a, mMk_a, mDic0_a, mList_a, eMeth_a, eIsi1_a, eIsi_a, eInH_a, eSl_a, oX_none, oX_some, bV_a, bT_a, bAnd_a, bOr_a, bNot_a, bTrue_a, iS_a, iEn_a, iZ_a, iR1_a, iR2_a, iR3_a, sSeq_a, sNil_a, sExpr_a, sRet_a, sRetN_a, sIf_a, sBrk_a, sCnt_a, sSet_a, sOwn_a, sFz_a, sFor_a, sMt_a, sFld_a, sAsg_a, sRaise_a, sTry_a, sMethO_a, endD_rt, endD_nx, endD_ex, bok, bex, oso, sok, sxc, cok, qnx, qrt, qbk, qct, qex, lnx, lct, lbk, lrt, lxc, oss, okk, obs, oms, add_i, sub_i, neg_i, lt_i, le_i, gt_i, ge_i, len_l, len_t, len_f, len_d, idx_l, idx_t, idx_f, walk_l, walk_t, walk_f, seq_l, seq_t, tuple_l, tuple_t, int_i, atI_0, atI_1, atI_2, dr_n, dr_b, dr_i, dr_s, dr_l, dr_t, dr_k, dr_f, dr_d, dr_o, dr_p, dr_w, now_l, now_d, now_o, frz_l, frz_d, frz_o, isL_l, frzAt, cu_p, cu_w, pu_p, pu_w, startD, startO, List.map_cons, List.map_nil, List.replicate, List.cons_append, List.nil_append, List.length_cons, List.length_nil, Nat.zero_add, Nat.reduceAdd, List.getElem?_cons_zero, List.getElem?_cons_succ, List.set_cons_zero, List.set_cons_succ, if_true, if_false, reduceIte, Bool.false_eq_true, bD_b, tru_n, tru_b, tru_l, tru_t, gN_a, gT_t, gAll_n, gAll_c, wipeD, ite_and, ite_or, ite_andB, ite_orB, szOk_0, szOk_1, szOk_2, szOk_3, szOk_4, Bool.not_true, Bool.not_false, Bool.true_and, Bool.and_true, Bool.false_and, Bool.and_false, Bool.true_or, Bool.or_true, Bool.false_or, Bool.or_false, decide_true, decide_false, tT, tAll, tN, tI, setI, sTry0_a, mSrt_a, mSrtTx_a, eEqO_a, tIK_a, now_td, frz_td, dr_td, idx_td, in_td, srt_td, $a,*] $[$l:location]?)
/-! ### words -/
section
variable {S : Store} {c : Str} {g t : List Str} {b : List Stm}
theorem wc_bad {d : D} (hd : tameS d) (h : isNm d = false) : d_with_clock [prgD c g t b, d] S = .exc "NoName" [] S := by
  unfold d_with_clock b_with_clock
  rw [runD_a (n := 2) rfl]
  have n1 := fun S => is_name_ok hd S
  rw [h] at n1
  simp? [n1]
theorem wc_in {z : Str} (hs : g.length + t.length + szB b ≤ 1000000) (hn : isN z) (h : z ∈ nsOf g t b) : d_with_clock [prgD c g t b, .str z] S = .exc "NoName" [] S := by
  unfold d_with_clock b_with_clock
  rw [runD_a (n := 2) rfl]
  have n1 := isN_name hn
  have n2 := names_ok c g t b hs
  have n3 := in_strs z (nsOf g t b)
  rw [decide_eq_true h] at n3
  simp? [n1, n2, n3]
theorem wc_four {z : Str} (hs : g.length + t.length + szB b ≤ 1000000) (hn : isN z) (h : z ∉ nsOf g t b) (h4 : t.length = 4) : d_with_clock [prgD c g t b, .str z] S = .exc "NoName" [] S := by
  unfold d_with_clock b_with_clock
  rw [runD_a (n := 2) rfl]
  have n1 := isN_name hn
  have n2 := names_ok c g t b hs
  have n3 := in_strs z (nsOf g t b)
  rw [decide_eq_false h] at n3
  have q : eqD (.int (t.length : Nat)) (.int 4) = some true := by rw [eqD_i, decide_eq_true (by omega)]
  simp? [n1, n2, n3, f_told, List.length_map, q]
theorem word_name {pr d : D} (h : d_with_clock [pr, d] S = .exc "NoName" [] S) : d__law_word [pr, d] S = .ok (.str "name", S) := by
  have c : ∀ su, catchX etab "RoundError" 3 su (.ex "NoName" [] [.val pr, .val d, .val (.str "let"), .no] S) = finX 3 (su ["NoName", "RoundError", "ValueError"] [.val pr, .val d, .val (.str "let"), .xc] S) := fun su => rfl
  unfold d__law_word b__law_word
  rw [runD_a (n := 2) rfl]
  simp? [h, c]
  rfl
theorem word_let {pr d r : D} (h : d_with_clock [pr, d] S = .ok (r, S)) : d__law_word [pr, d] S = .ok (.str "let", S) := by
  unfold d__law_word b__law_word
  rw [runD_a (n := 2) rfl]
  simp? [h, catchX]
end
theorem q_name : eqD (.str "name") (.str "name") = some true := kq _ _ (by decide +kernel) (by decide +kernel) _ (by decide +kernel)
theorem q_let : eqD (.str "let") (.str "let") = some true := kq _ _ (by decide +kernel) (by decide +kernel) _ (by decide +kernel)
/-! ### the law -/
def clocks : List Str := ["clock", "t", "aa", "h", "zz"]
theorem clocks_ok : ∀ z ∈ clocks, isN z ∧ okS z ∧ z ∉ base8 := by
  intro z hz
  simp only [clocks, List.mem_cons, List.not_mem_nil, or_false] at hz
  unfold isN okS
  rcases hz with rfl | rfl | rfl | rfl | rfl <;> decide +kernel
theorem clkB_in {z : Str} {b : List Stm} {s : Stm} (h : s ∈ clkB z b) : s = .deed (.more z) ∨ (∃ d, s = .deed d ∧ s ∈ b) ∨ ∃ x ds, s = .round x (clkD z ds) ∧ Stm.round x ds ∈ b := by
  obtain ⟨u, hu, hs⟩ := List.mem_flatMap.mp h
  cases u with
  | deed d =>
    simp only [clkS, List.mem_cons, List.not_mem_nil, or_false] at hs
    rcases hs with rfl | rfl
    · exact .inl rfl
    · exact .inr (.inl ⟨d, rfl, hu⟩)
  | round x ds =>
    simp only [clkS, List.mem_cons, List.not_mem_nil, or_false] at hs
    rcases hs with rfl | rfl
    · exact .inl rfl
    · exact .inr (.inr ⟨x, ds, rfl, hu⟩)
theorem clk_lens {z : Str} {b : List Stm} (h : ∀ s ∈ b, s.len ≤ 5) : ∀ s ∈ clkB z b, s.len ≤ 10 := fun s hs => by
  rcases clkB_in hs with rfl | ⟨d, rfl, hb⟩ | ⟨x, ds, rfl, hb⟩
  · exact Nat.zero_le _
  · exact Nat.zero_le _
  · have := h _ hb
    show (clkD z ds).length ≤ 10
    rw [clkD_len]
    have : ds.length ≤ 5 := this
    omega
theorem clk_names {z : Str} {b : List Stm} {P : Str → Prop} (hz : P z) (h : ∀ s ∈ b, ∀ x ∈ s.names, P x) : ∀ s ∈ clkB z b, ∀ x ∈ s.names, P x := fun s hs y hy => by
  rcases clkB_in hs with rfl | ⟨d, rfl, hb⟩ | ⟨x, ds, rfl, hb⟩
  · simp only [Stm.names, Dd.names, List.mem_singleton] at hy
    rw [hy]; exact hz
  · exact h _ hb y hy
  · simp only [Stm.names, List.mem_cons, List.mem_flatMap, clkD] at hy
    rcases hy with rfl | ⟨d, ⟨u, hu, hd⟩, hy⟩
    · exact h _ hb _ (by simp [Stm.names])
    · simp only [List.not_mem_nil, or_false] at hd
      rcases hd with rfl | rfl
      · simp only [Dd.names, List.mem_singleton] at hy
        rw [hy]; exact hz
      · exact h _ hb y (by simp only [Stm.names, List.mem_cons, List.mem_flatMap]; exact .inr ⟨_, hu, hy⟩)
theorem clk_run {g t : List Str} {b : List Stm} {z : Str} (h : Spc 2 4 g t b) {as : List Nat} (ha : ∀ a ∈ as, a ≤ 2 ^ 200) (hl : as.length = g.length) : Run g (t ++ [z]) (clkB z b) as where
  sz := by
    have := szB_le (clk_lens (z := z) h.lens)
    have l := clkB_len z b
    have h3 : (clkB z b).length * (3 * (1 + 10)) ≤ 8 * (3 * (1 + 10)) := Nat.mul_le_mul_right _ (by have := h.bl; omega)
    have := h.gl
    have := h.t3
    rw [List.length_append, List.length_singleton]
    omega
  ln := hl
  fit := fitB_of _ (L := 10) (bd_f0 ha) (by decide) (clk_lens h.lens) (pow_small (Nat.le_refl _) (by rw [clkB_len]; have := h.bl; omega))
  bl := by rw [clkB_len]; have := h.bl; omega
theorem cat_tu1 (as : List Nat) (c : Nat) (h : as.length ≤ 1000) : addD (tuN as) (.tup [nD c]) = some (tuN (as ++ [c])) := by
  show addD (.tup (as.map nD)) (.tup [nD c]) = _
  rw [add_t (by rw [List.length_map]; show as.length + 1 ≤ _; omega)]
  show _ = some (D.tup ((as ++ [c]).map nD))
  rw [List.map_append]
  rfl
structure Case (g t : List Str) (b : List Stm) (z : Str) : Prop where
  sp : Spc 2 4 g t b
  zn : isN z
  zs : okS z
  zb : z ∉ base8
theorem Case.out {g t : List Str} {b : List Stm} {z : Str} (k : Case g t b z) : z ∉ g ∧ z ∉ t ∧ ∀ s ∈ b, z ∉ s.names := ⟨fun h => k.zb (k.sp.gs _ h), fun h => k.zb (k.sp.ts _ h), fun s hs h => k.zb ((k.sp.bs s hs).1 _ h)⟩
theorem in_loop {g t : List Str} {b : List Stm} {z : Str} (k : Case g t b z) {p : Nat} {x0 x2 x4 x5 x6 x7 x11 x12 x13 : Slot} : ∀ (items : List D) (fuel : Nat) (S : Store) (s9 s10 : Slot), Pot S p (fuel + 2 * items.length) →
    ∃ (S' : Store) (s9' s10' : Slot), forL (gN 9) L0_law items [x0, .val (.ptr p), x2, .val (spD g t b), x4, x5, x6, x7, .val (prgD "RawProgram" g (t ++ [z]) (clkB z b)), s9, s10, x11, x12, x13] S = .nx [x0, .val (.ptr p), x2, .val (spD g t b), x4, x5, x6, x7, .val (prgD "RawProgram" g (t ++ [z]) (clkB z b)), s9', s10', x11, x12, x13] S' ∧ Pot S' p fuel
  | [], fuel, S, s9, s10, P => ⟨S, s9, s10, rfl, P⟩
  | i :: items, fuel, S, s9, s10, P => by
    rw [List.length_cons] at P
    rw [forL_cons (ρ' := [x0, .val (.ptr p), x2, .val (spD g t b), x4, x5, x6, x7, .val (prgD "RawProgram" g (t ++ [z]) (clkB z b)), .val i, s10, x11, x12, x13]) rfl]
    obtain ⟨as, S1, e1, l1, q1, P1, _⟩ := law_input_ok (S := S) (p := p) (fuel := fuel + 2 * items.length) (many := g.length) (most := 4) (by have := k.sp.gl; omega) (by decide) (P.less (by have := k.sp.gl; omega))
    have e1' : d__law_input [.ptr p, .int (g.length : Nat), .int 4] S = .ok (tuN as, S1) := e1
    have ha : ∀ a ∈ as, a ≤ 2 ^ 200 := fun a m => Nat.le_trans (q1 a m) (by decide)
    have r := results_ok (S := S1) (c := "RawProgram") (clk_run (z := z) k.sp ha l1)
    obtain ⟨o1, o2, o3⟩ := k.out
    rw [clk_told o1 o2 o3] at r
    have lns := k.sp.lns (by decide) (by decide)
    have ft := k.sp.fitK (by decide) (as := as) (fun a m => Nat.le_trans (q1 a m) (by decide))
    obtain ⟨m1, e2⟩ := law_told_ok (S := S1) lns ft
    obtain ⟨m2, e3⟩ := law_many_ok (S := S1 ++ [m1]) lns ft
    have ad := cat_tu1 (t.map (runB b (f0 g as))) (cntB b (f0 g as)) (by rw [List.length_map]; have := k.sp.t3; omega)
    have ne := ne_of_eq (eq_tuN (t.map (runB b (f0 g as)) ++ [cntB b (f0 g as)]))
    have st : L0_law [x0, .val (.ptr p), x2, .val (spD g t b), x4, x5, x6, x7, .val (prgD "RawProgram" g (t ++ [z]) (clkB z b)), .val i, s10, x11, x12, x13] S = .nx [x0, .val (.ptr p), x2, .val (spD g t b), x4, x5, x6, x7, .val (prgD "RawProgram" g (t ++ [z]) (clkB z b)), .val i, .val (tuN as), x11, x12, x13] (S1 ++ [m1] ++ [m2]) := by
      unfold L0_law
      simp? [List.length_map, e1', r, e2, e3, ad, ne]
    rw [st, lnx]
    exact in_loop k items fuel (S1 ++ [m1] ++ [m2]) _ _ ((P1.app _).app _)
end LW
end

section
set_option linter.all false
set_option maxRecDepth 100000
namespace LW
open PySem L2 GG
local macro_rules
  | `(tactic| simp? [$a,*] $[$l:location]?) => `(tactic| simp only [eC_a, eV_a, hE_a, hV_a, eH_a, eHB_a, eBin_a, eUn_a, eAnd_a, eOr_a, eNot_a, eIf_a, eCmp_a, eChain_a, aN_a, aC_a, eTup_a, eLst_a, eCall_a, eB_a, eFz_a, eAl_a, mLst_a, mLc_a, mLc2_a, mMk_a, mDic0_a, mList_a, eMeth_a, eIsi1_a, eIsi_a, eInH_a, eSl_a, oX_none, oX_some, bV_a, bT_a, bAnd_a, bOr_a, bNot_a, bTrue_a, iS_a, iEn_a, iZ_a, iR1_a, iR2_a, iR3_a, sSeq_a, sNil_a, sExpr_a, sRet_a, sRetN_a, sIf_a, sBrk_a, sCnt_a, sSet_a, sOwn_a, sFz_a, sFor_a, sMt_a, sFld_a, sAsg_a, sRaise_a, sTry_a, sMethO_a, endD_rt, endD_nx, endD_ex, bok, bex, oso, sok, sxc, cok, qnx, qrt, qbk, qct, qex, lnx, lct, lbk, lrt, lxc, oss, okk, obs, oms, add_i, sub_i, neg_i, lt_i, le_i, gt_i, ge_i, len_l, len_t, len_f, len_d, idx_l, idx_t, idx_f, walk_l, walk_t, walk_f, seq_l, seq_t, tuple_l, tuple_t, int_i, atI_0, atI_1, atI_2, dr_n, dr_b, dr_i, dr_s, dr_l, dr_t, dr_k, dr_f, dr_d, dr_o, dr_p, dr_w, now_l, now_d, now_o, frz_l, frz_d, frz_o, isL_l, frzAt, cu_p, cu_w, pu_p, pu_w, startD, startO, List.map_cons, List.map_nil, List.replicate, List.cons_append, List.nil_append, List.length_cons, List.length_nil, Nat.zero_add, Nat.reduceAdd, List.getElem?_cons_zero, List.getElem?_cons_succ, List.set_cons_zero, List.set_cons_succ, if_true, if_false, reduceIte, Bool.false_eq_true, bD_b, tru_n, tru_b, tru_l, tru_t, gN_a, gT_t, gAll_n, gAll_c, wipeD, ite_and, ite_or, ite_andB, ite_orB, szOk_0, szOk_1, szOk_2, szOk_3, szOk_4, Bool.not_true, Bool.not_false, Bool.true_and, Bool.and_true, Bool.false_and, Bool.and_false, Bool.true_or, Bool.or_true, Bool.false_or, Bool.or_false, decide_true, decide_false, tT, tAll, tN, tI, setI, sTry0_a, mSrt_a, mSrtTx_a, eEqO_a, tIK_a, now_td, frz_td, dr_td, idx_td, in_td, srt_td, $a,*] $[$l:location]?)
/-! ### a deep thing -/
def Deepy (t : D) : Prop := ∃ xs, t = .tup xs ∧ ∀ x ∈ xs, ∃ ys, x = .tup ys
theorem deep_loop {S : Store} {x0 : Slot} : ∀ (ds : List D) (t : D) (s2 : Slot), Deepy t → ∃ t' s2', forL (gN 2) L0__law_deep ds [x0, .val t, s2] S = .nx [x0, .val t', s2'] S ∧ Deepy t'
  | [], t, s2, h => ⟨t, s2, rfl, h⟩
  | d :: ds, t, s2, h => by
    obtain ⟨t', s2', e, h'⟩ := deep_loop ds (.tup [t]) (.val d) (S := S) (x0 := x0) ⟨[t], rfl, fun x hx => by
      rw [List.mem_singleton] at hx
      subst hx
      obtain ⟨ys, rfl, _⟩ := h
      exact ⟨ys, rfl⟩⟩
    refine ⟨t', s2', ?_, h'⟩
    rw [forL_cons (ρ' := [x0, .val t, .val d]) rfl]
    exact e
theorem deep_ok (S : Store) : ∃ t, d__law_deep [] S = .ok (t, S) ∧ Deepy t := by
  obtain ⟨t, s2, e, h⟩ := deep_loop (S := S) (x0 := .no) ((List.range 36).map fun i => D.int (i : Nat)) (.tup []) .no ⟨[], rfl, by simp⟩
  refine ⟨t, ?_, h⟩
  unfold d__law_deep b__law_deep
  rw [runD_a (n := 0) rfl]
  have r : rngD1 [.int 36] = some ((List.range 36).map fun i => D.int (i : Nat)) := rng1 36 (by decide)
  simp? [r, e]
theorem pow30 : powD (.int 10) (.int 30) = some (.int ((10 ^ 30 : Nat) : Int)) := by
  show (if (0 : Int) ≤ 30 ∧ (30 : Int) ≤ 1000000 ∧ (10 : Int).natAbs < 2 ^ 64 then some (D.int ((10 : Int) ^ (30 : Int).toNat)) else none) = _
  rw [if_pos (by decide)]
  rfl
theorem sel_ok {g t : List Str} {b : List Stm} (h : ∀ y ∈ lnsOf g t b, y ∈ base8) {ρ : LEnv} (hl : ρ.length = 14) (h5 : ρ[5]? = some (.val (strsT (lnsOf g t b)))) (S : Store) : lcL (gN 13) (bV (eInH true (eV 13) (hV 5))) (eV 13) [.str "clock", .str "t", .str "aa", .str "h", .str "zz"] ρ S = .ok (clocks.map D.str, S) := by
  have := lcL_if (S := S) (ρ := ρ) (enc := D.str) (n := gN 13) (t := bV (eInH true (eV 13) (hV 5))) (e := eV 13) (f := D.str) (b := fun _ => true) (xs := clocks) fun x hx => ⟨_, rfl, by
    have g13 : (ρ.set 13 (.val (.str x)))[13]? = some (.val (.str x)) := List.getElem?_set_self (by omega)
    have g5 : (ρ.set 13 (.val (.str x)))[5]? = some (.val (strsT (lnsOf g t b))) := by rw [List.getElem?_set_ne (by decide)]; exact h5
    have i := in_strs x (lnsOf g t b)
    rw [decide_eq_false fun m => (clocks_ok x hx).2.2 (h x m)] at i
    simp? [g13, g5, i], fun _ => by
    have g13 : (ρ.set 13 (.val (.str x)))[13]? = some (.val (.str x)) := List.getElem?_set_self (by omega)
    simp? [g13]⟩
  rw [List.filter_eq_self.mpr fun _ _ => rfl] at this
  exact this
def odds (dp pr : D) : List D := [.non, .str "", .str "A", .str "a1", .str "toolongname", .int 0, .bl true, .tup [.str "t"], .lst [.str "t"], .dic [] [], dp, pr]
theorem odd_ok {dp : D} (hd : Deepy dp) (vs : List D) : ∀ x ∈ odds dp (.obj "Program" ["given", "told", "block"] vs), tameS x ∧ isNm x = false := by
  obtain ⟨xs, rfl, _⟩ := hd
  intro x hx
  simp only [odds, List.mem_cons, List.not_mem_nil, or_false] at hx
  rcases hx with rfl | rfl | rfl | rfl | rfl | rfl | rfl | rfl | rfl | rfl | rfl | rfl
  · exact ⟨⟨rfl, fun z e => by cases e⟩, rfl⟩
  · exact ⟨⟨rfl, fun z e => by cases e; decide +kernel⟩, by decide +kernel⟩
  · exact ⟨⟨rfl, fun z e => by cases e; decide +kernel⟩, by decide +kernel⟩
  · exact ⟨⟨rfl, fun z e => by cases e; decide +kernel⟩, by decide +kernel⟩
  · exact ⟨⟨rfl, fun z e => by cases e; decide +kernel⟩, by decide +kernel⟩
  · exact ⟨⟨rfl, fun z e => by cases e⟩, rfl⟩
  · exact ⟨⟨rfl, fun z e => by cases e⟩, rfl⟩
  · exact ⟨⟨rfl, fun z e => by cases e⟩, rfl⟩
  · exact ⟨⟨rfl, fun z e => by cases e⟩, rfl⟩
  · exact ⟨⟨rfl, fun z e => by cases e⟩, rfl⟩
  · exact ⟨⟨rfl, fun z e => by cases e⟩, rfl⟩
  · exact ⟨⟨rfl, fun z e => by cases e⟩, rfl⟩
theorem turn_ok {p fuel : Nat} {S : Store} {x0 x2 s3 s4 s5 s6 s7 s8 s9 s10 s11 x12 : Slot} (P : Pot S p (fuel + 200)) :
    ∃ (S' : Store) (t3 t4 t5 t6 t7 t8 t9 t10 t11 : Slot), L1_law [x0, .val (.ptr p), x2, s3, s4, s5, s6, s7, s8, s9, s10, s11, x12, .no] S = .nx [x0, .val (.ptr p), x2, t3, t4, t5, t6, t7, t8, t9, t10, t11, x12, .no] S' ∧ Pot S' p fuel := by
  obtain ⟨g, t, b, S1, e1, sp, P1, _⟩ := law_spec_ok (S := S) (p := p) (fuel := fuel + 80) (mg := 2) (mn := 7) (ms := 4) (by decide) (by decide) (by decide) (by decide) (by decide) (P.less (by omega))
  have e1' : d__law_spec [.ptr p, .int 2, .int 7, .int 4] S = .ok (spD g t b, S1) := e1
  have e2 := prog_init_ok (sp.pok (by decide) (by decide)) S1
  have lns := sp.lns (by decide) (by decide)
  have e3 := law_names_ok (S := S1) lns
  have lb : ∀ y ∈ lnsOf g t b, y ∈ base8 := fun y hy => by
    rcases lnsOf_mem.mp hy with (h | h) | ⟨s, hs, h⟩
    · exact sp.gs y h
    · exact sp.ts y h
    · exact (sp.bs s hs).1 y h
  have e4 := sel_ok lb (ρ := [x0, .val (.ptr p), x2, .val (spD g t b), .val (prgD "Program" g t b), .val (strsT (lnsOf g t b)), s6, s7, s8, s9, s10, s11, x12, .no]) rfl rfl S1
  obtain ⟨z, S2, e5, hz, P2, _⟩ := any_l (S := S1) (p := p) (fuel := fuel + 79) (xs := clocks) (by decide) (by decide) (P1.less (by omega))
  obtain ⟨z1, z2, z3⟩ := clocks_ok z hz
  have k : Case g t b z := ⟨sp, z1, z2, z3⟩
  obtain ⟨o1, o2, o3⟩ := k.out
  have t3 := sp.t3
  have gl := sp.gl
  have bl := sp.bl
  have sz : g.length + t.length + szB b ≤ 1000000 := by
    have := szB_le sp.lens
    have h3 : b.length * (3 * (1 + 5)) ≤ 10 * (3 * (1 + 5)) := Nat.mul_le_mul_right _ (by omega)
    omega
  have e6 := law_clocked_ok (S := S2) (z := z) (g := g) (t := t) (b := b) (by omega) (by omega) (fun s hs => Nat.le_trans (sp.lens s hs) (by decide))
  have zn : z ∉ nsOf g t b := fun h => by
    rcases nsOf_mem.mp h with (h | h) | ⟨s, hs, h⟩
    · exact o1 h
    · exact o2 h
    · exact o3 s hs h
  have e7 := fun S => with_clock_ok (S := S) (c := "Program") (z := z) (g := g) (t := t) (b := b) sz t3 (by omega) (fun s hs => Nat.le_trans (sp.lens s hs) (by decide)) z1 zn
  have og : ∀ x ∈ g, okS x := fun x hx => base8_ok x (sp.gs x hx)
  have ot : ∀ x ∈ t ++ [z], okS x := fun x hx => by
    rcases List.mem_append.mp hx with hx | hx
    · exact base8_ok x (sp.ts x hx)
    · rw [List.mem_singleton.mp hx]; exact z2
  have ob : ∀ s ∈ clkB z b, ∀ x ∈ s.names, okS x := clk_names (P := okS) z2 fun s hs x hx => base8_ok x ((sp.bs s hs).1 x hx)
  have q1 := eq_spD og ot ob
  have n1 := ne_of_eq q1
  have q2 := fun S => eqO_raw q1 true S
  obtain ⟨S3, u9, u10, e8, P3⟩ := in_loop k (p := p) (x0 := x0) (x2 := x2) (x4 := .val (prgD "Program" g t b)) (x5 := .val (strsT (lnsOf g t b))) (x6 := .val (.str z)) (x7 := .val (spD g (t ++ [z]) (clkB z b))) (x11 := s11) (x12 := x12) (x13 := .no) ((List.range 3).map fun i => D.int (i : Nat)) (fuel + 60) S2 s9 s10 (P2.less (by rw [List.length_map, List.length_range]; omega))
  have r3 : rngD1 [.int 3] = some ((List.range 3).map fun i => D.int (i : Nat)) := rng1 3 (by decide)
  obtain ⟨as, S4, e9, l9, q9, P4, _⟩ := law_input_ok (S := S3) (p := p) (fuel := fuel + 50) (many := g.length) (most := 10 ^ 30) (by omega) (by decide) (P3.less (by omega))
  have e9' : d__law_input [.ptr p, .int (g.length : Nat), .int ((10 ^ 30 : Nat) : Int)] S3 = .ok (tuN as, S4) := e9
  have ha : ∀ a ∈ as, a ≤ 2 ^ 200 := fun a m => Nat.le_trans (q9 a m) (by decide)
  have r1 := results_ok (S := S4) (c := "RawProgram") (clk_run (z := z) sp ha l9)
  rw [clk_told o1 o2 o3] at r1
  have run := sp.run (by decide) (by decide) ha l9
  have r2 := results_ok (S := S4) (c := "Program") run
  have r4 := deeds_ok (S := S4) (c := "Program") run
  have ad := cat_tu1 (t.map (runB b (f0 g as))) (cntB b (f0 g as)) (by rw [List.length_map]; omega)
  have ne := ne_of_eq (eq_tuN (t.map (runB b (f0 g as)) ++ [cntB b (f0 g as)]))
  obtain ⟨dp, e10, hdp⟩ := deep_ok S4
  have lne : lnsOf g t b ≠ [] := fun e => by
    have t1 := sp.t1
    obtain ⟨x, hx⟩ : ∃ x, x ∈ t := ⟨t[0], List.getElem_mem (by omega)⟩
    have : x ∈ lnsOf g t b := lnsOf_mem.mpr (.inl (.inr hx))
    rw [e] at this
    cases this
  have lle : (lnsOf g t b).length ≤ 1000 := by
    have h1 := lnsOf_le g t b
    have := names_B sp.lens
    have h3 : b.length * (3 + 2 * 5) ≤ 10 * (3 + 2 * 5) := Nat.mul_le_mul_right _ (by omega)
    unfold lnsL at h1
    rw [List.length_append, List.length_append] at h1
    omega
  obtain ⟨y, S5, e11, hy, P5, _⟩ := any_t (S := S4) (p := p) (fuel := fuel + 40) (xs := lnsOf g t b) lne lle (P4.less (by omega))
  obtain ⟨r, S6, lr, e12, P6, _⟩ := draw_nat (n := 13) (S := S5) (p := p) (fuel := fuel + 30) (P5.less (by omega)) (by decide) (by decide)
  have e12' : d__law_draw [.ptr p, .int 13] S5 = .ok (nD r, S6) := e12
  have adL : addD (.lst (odds dp (prgD "Program" g t b))) (.lst [.str y]) = some (.lst (odds dp (prgD "Program" g t b) ++ [.str y])) := add_l (by simp [odds])
  have pick : ∃ d, atI (odds dp (prgD "Program" g t b) ++ [.str y]) (r : Int) = some d ∧ d__law_word [prgD "Program" g t b, d] S6 = .ok (.str "name", S6) := by
    by_cases hr : r = 12
    · subst hr
      refine ⟨.str y, rfl, word_name (wc_in sz (base8_nm y (lb y hy)) ?_)⟩
      exact nsOf_mem.mpr (lnsOf_mem.mp hy)
    · have l12 : (odds dp (prgD "Program" g t b)).length = 12 := rfl
      have lt : r < (odds dp (prgD "Program" g t b)).length := by rw [l12]; omega
      refine ⟨(odds dp (prgD "Program" g t b))[r], GG.atI_nat (by rw [List.getElem?_append_left lt]; exact List.getElem?_eq_getElem lt), ?_⟩
      obtain ⟨h1, h2⟩ := odd_ok hdp [strsT g, strsT t, blkD b] _ (List.getElem_mem lt)
      exact word_name (wc_bad h1 h2)
  obtain ⟨d, e13, e14⟩ := pick
  have nn := ne_of_eq q_name
  have z12 : szOk 12 = true := szOk_t (by decide)
  have z5 : szOk 5 = true := szOk_t (by decide)
  unfold odds at adL e13
  simp only [List.cons_append, List.nil_append] at adL e13
  refine ⟨S6, .val (spD g t b), .val (prgD "Program" g t b), .val (strsT (lnsOf g t b)), .val (.str z), .val (spD g (t ++ [z]) (clkB z b)), .val (prgD "RawProgram" g (t ++ [z]) (clkB z b)), u9, .val (tuN as), .val (.lst [.non, .str "", .str "A", .str "a1", .str "toolongname", .int 0, .bl true, .tup [.str "t"], .lst [.str "t"], .dic [] [], dp, prgD "Program" g t b]), ?_, P6.less (by omega)⟩
  unfold L1_law
  simp? [e1', e2, e3, z5, e4, e5, e6, e7, f_given, f_told, f_blk, n1, q2, r3, e8, pow30, List.length_map, e9', r1, r2, r4, ad, ne, z12, e10, e11, e12', adL, e13, e14, nn]
theorem pok_lit {t : List Str} (h : ∀ x ∈ t, isN x) (hn : t.Nodup) (h1 : 1 ≤ t.length) (h4 : t.length ≤ 4) {g : List Str} (hg : ∀ x ∈ g, isN x) (gn : g.Nodup) (gl : g.length ≤ 2) : POk g t [] := ⟨hg, gn, gl, h, hn, h1, h4, by simp, by simp [sizeB]⟩
theorem keeps : Keeps d_law := by
  intro ns hn
  obtain ⟨p, S0, e0, P0⟩ := pot_ok ns hn
  have e0 : d__law_pot [.frl (ns.map .int)] [] = .ok (.ptr p, S0) := e0
  obtain ⟨S1, a3, a4, a5, a6, a7, a8, a9, a10, a11, e1, P1⟩ := turn_ok (S := S0) (p := p) (fuel := 1000) (x0 := .val (.frl (ns.map .int))) (x2 := .val (.int 0)) (s3 := .no) (s4 := .no) (s5 := .no) (s6 := .no) (s7 := .no) (s8 := .no) (s9 := .no) (s10 := .no) (s11 := .no) (x12 := .no) (P0.less (by decide))
  obtain ⟨S2, b3, b4, b5, b6, b7, b8, b9, b10, b11, e2, P2⟩ := turn_ok (S := S1) (p := p) (fuel := 100) (x0 := .val (.frl (ns.map .int))) (x2 := .val (.int 1)) (s3 := a3) (s4 := a4) (s5 := a5) (s6 := a6) (s7 := a7) (s8 := a8) (s9 := a9) (s10 := a10) (s11 := a11) (x12 := .no) (P1.less (by decide))
  have lp : forL (gN 2) L1_law [.int 0, .int 1] [.val (.frl (ns.map .int)), .val (.ptr p), .no, .no, .no, .no, .no, .no, .no, .no, .no, .no, .no, .no] S0 = .nx [.val (.frl (ns.map .int)), .val (.ptr p), .val (.int 1), b3, b4, b5, b6, b7, b8, b9, b10, b11, .no, .no] S2 := by
    rw [forL_cons (ρ' := [.val (.frl (ns.map .int)), .val (.ptr p), .val (.int 0), .no, .no, .no, .no, .no, .no, .no, .no, .no, .no, .no]) rfl, e1, lnx, forL_cons (ρ' := [.val (.frl (ns.map .int)), .val (.ptr p), .val (.int 1), a3, a4, a5, a6, a7, a8, a9, a10, a11, .no, .no]) rfl, e2, lnx]
    rfl
  have r2 : rngD1 [.int 2] = some [D.int 0, .int 1] := rng1 2 (by decide)
  have nA : ∀ z ∈ (["a", "b", "c", "d"] : List Str), isN z := by
    intro z hz
    simp only [List.mem_cons, List.not_mem_nil, or_false] at hz
    unfold isN
    rcases hz with rfl | rfl | rfl | rfl <;> decide +kernel
  have p4 := prog_init_ok (pok_lit (t := ["a", "b", "c", "d"]) nA (by decide +kernel) (by decide) (by decide) (g := ["a"]) (fun z hz => nA z (by rw [List.mem_singleton.mp hz]; simp)) (by decide +kernel) (by decide)) S2
  have p1 := prog_init_ok (pok_lit (t := ["b"]) (fun z hz => nA z (by rw [List.mem_singleton.mp hz]; simp)) (by decide +kernel) (by decide) (by decide) (g := []) (by simp) (by simp) (by decide)) S2
  obtain ⟨c1, c2, c3⟩ := clocks_ok "clock" (by simp [clocks])
  have cn : ∀ (g t : List Str), (∀ x ∈ g, x ∈ base8) → (∀ x ∈ t, x ∈ base8) → ("clock" : Str) ∉ nsOf g t [] := fun g t hg ht h => by
    rcases nsOf_mem.mp h with (h | h) | ⟨s, hs, h⟩
    · exact c3 (hg _ h)
    · exact c3 (ht _ h)
    · cases hs
  have w4 := word_name (wc_four (S := S2) (c := "Program") (g := ["a"]) (t := ["a", "b", "c", "d"]) (b := []) (z := "clock") (by decide) c1 (cn ["a"] ["a", "b", "c", "d"] (by decide +kernel) (by decide +kernel)) rfl)
  have w1 := word_let (with_clock_ok (S := S2) (c := "Program") (g := []) (t := ["b"]) (b := []) (z := "clock") (by decide) (by decide) (by decide) (by intro s hs; cases hs) c1 (cn [] ["b"] (by intro s hs; cases hs) (by decide +kernel)))
  have p4 : d_Program___init__ (.ins "Program" [] []) [.tup [.str "a"], .tup [.str "a", .str "b", .str "c", .str "d"], .tup []] S2 = .ok (.ins "Program" ["given", "told", "block"] [.tup [.str "a"], .tup [.str "a", .str "b", .str "c", .str "d"], .tup []], S2) := p4
  have p1 : d_Program___init__ (.ins "Program" [] []) [.tup [], .tup [.str "b"], .tup []] S2 = .ok (.ins "Program" ["given", "told", "block"] [.tup [], .tup [.str "b"], .tup []], S2) := p1
  have w4 : d__law_word [.obj "Program" ["given", "told", "block"] [.tup [.str "a"], .tup [.str "a", .str "b", .str "c", .str "d"], .tup []], .str "clock"] S2 = .ok (.str "name", S2) := w4
  have w1 : d__law_word [.obj "Program" ["given", "told", "block"] [.tup [], .tup [.str "b"], .tup []], .str "clock"] S2 = .ok (.str "let", S2) := w1
  refine ⟨S2, ?_⟩
  unfold d_law b_law
  rw [runD_a (n := 1) rfl]
  simp? [e0, r2, lp, p4, p1, w4, w1, q_name, q_let]
end LW
end

section
set_option linter.all false
set_option maxRecDepth 100000
namespace LW
open PySem L2 GG
open PyProof.Rows hiding St
set_option maxHeartbeats 0
section
variable {P : Program} {w : World} {K : PySem.W.Frag} {mg : Str → Option Value} {base : Heap} {A : Ad}
theorem chain (T : Tx K mg A) {fd_is_integer : FuncData} (FF_is_integer : Fun K "is_integer" "is_integer" (top 6) A.f_is_integer fd_is_integer) {fd_is_number : FuncData} (FF_is_number : Fun K "is_number" "is_number" (top 7) A.f_is_number fd_is_number) {fd_is_name : FuncData} (FF_is_name : Fun K "is_name" "is_name" (top 8) A.f_is_name fd_is_name) {fd_are_names : FuncData} (FF_are_names : Fun K "are_names" "are_names" (top 9) A.f_are_names fd_are_names) {fd_are_numbers : FuncData} (FF_are_numbers : Fun K "are_numbers" "are_numbers" (top 10) A.f_are_numbers fd_are_numbers) {fd_check_input : FuncData} (FF_check_input : Fun K "check_input" "check_input" (top 11) A.f_check_input fd_check_input) {fd_is_deed : FuncData} (FF_is_deed : Fun K "is_deed" "is_deed" (top 14) A.f_is_deed fd_is_deed) {fd_is_round : FuncData} (FF_is_round : Fun K "is_round" "is_round" (top 15) A.f_is_round fd_is_round) {fd_wrong_place : FuncData} (FF_wrong_place : Fun K "wrong_place" "wrong_place" (top 16) A.f_wrong_place fd_wrong_place) {fd_size_of : FuncData} (FF_size_of : Fun K "size_of" "size_of" (top 17) A.f_size_of fd_size_of) {fd_Program___init__ : FuncData} (FF_Program___init__ : Fun K "__init__" "Program.__init__" (inClass (top 18) 0) A.f_Program___init__ fd_Program___init__) {fd_Program___eq__ : FuncData} (FF_Program___eq__ : Fun K "__eq__" "Program.__eq__" (inClass (top 18) 1) A.f_Program___eq__ fd_Program___eq__) {fd_RawProgram___init__ : FuncData} (FF_RawProgram___init__ : Fun K "__init__" "RawProgram.__init__" (inClass (top 19) 0) A.f_RawProgram___init__ fd_RawProgram___init__) {fd_deeds_in : FuncData} (FF_deeds_in : Fun K "deeds_in" "deeds_in" (top 20) A.f_deeds_in fd_deeds_in) {fd_names_of : FuncData} (FF_names_of : Fun K "names_of" "names_of" (top 21) A.f_names_of fd_names_of) {fd_names : FuncData} (FF_names : Fun K "names" "names" (top 22) A.f_names fd_names) {fd_clocked : FuncData} (FF_clocked : Fun K "clocked" "clocked" (top 23) A.f_clocked fd_clocked) {fd_with_clock : FuncData} (FF_with_clock : Fun K "with_clock" "with_clock" (top 26) A.f_with_clock fd_with_clock) {fd_raw_push : FuncData} (FF_raw_push : Fun K "raw_push" "raw_push" (top 28) A.f_raw_push fd_raw_push) {fd_source_number : FuncData} (FF_source_number : Fun K "source_number" "source_number" (top 29) A.f_source_number fd_source_number) {fd_raw_pushed : FuncData} (FF_raw_pushed : Fun K "raw_pushed" "raw_pushed" (top 30) A.f_raw_pushed fd_raw_pushed) {fd_raw_after : FuncData} (FF_raw_after : Fun K "raw_after" "raw_after" (top 31) A.f_raw_after fd_raw_after) {fd_raw_times : FuncData} (FF_raw_times : Fun K "raw_times" "raw_times" (top 32) A.f_raw_times fd_raw_times) {fd_first_numbers : FuncData} (FF_first_numbers : Fun K "first_numbers" "first_numbers" (top 34) A.f_first_numbers fd_first_numbers) {fd_statement_done : FuncData} (FF_statement_done : Fun K "statement_done" "statement_done" (top 35) A.f_statement_done fd_statement_done) {fd_parts : FuncData} (FF_parts : Fun K "parts" "parts" (top 36) A.f_parts fd_parts) {fd_raw_last : FuncData} (FF_raw_last : Fun K "raw_last" "raw_last" (top 37) A.f_raw_last fd_raw_last) {fd_raw_results : FuncData} (FF_raw_results : Fun K "raw_results" "raw_results" (top 38) A.f_raw_results fd_raw_results) {fd_results : FuncData} (FF_results : Fun K "results" "results" (top 39) A.f_results fd_results) {fd_deeds : FuncData} (FF_deeds : Fun K "deeds" "deeds" (top 40) A.f_deeds fd_deeds) {fd__law_pot : FuncData} (FF__law_pot : Fun K "_law_pot" "_law_pot" (top 42) A.f__law_pot fd__law_pot) {fd__law_draw : FuncData} (FF__law_draw : Fun K "_law_draw" "_law_draw" (top 43) A.f__law_draw fd__law_draw) {fd__law_any : FuncData} (FF__law_any : Fun K "_law_any" "_law_any" (top 44) A.f__law_any fd__law_any) {fd__law_mixed : FuncData} (FF__law_mixed : Fun K "_law_mixed" "_law_mixed" (top 45) A.f__law_mixed fd__law_mixed) {fd__law_deed : FuncData} (FF__law_deed : Fun K "_law_deed" "_law_deed" (top 46) A.f__law_deed fd__law_deed) {fd__law_wheel : FuncData} (FF__law_wheel : Fun K "_law_wheel" "_law_wheel" (top 47) A.f__law_wheel fd__law_wheel) {fd__law_spec : FuncData} (FF__law_spec : Fun K "_law_spec" "_law_spec" (top 48) A.f__law_spec fd__law_spec) {fd__law_names : FuncData} (FF__law_names : Fun K "_law_names" "_law_names" (top 49) A.f__law_names fd__law_names) {fd__law_do : FuncData} (FF__law_do : Fun K "_law_do" "_law_do" (top 50) A.f__law_do fd__law_do) {fd__law_first : FuncData} (FF__law_first : Fun K "_law_first" "_law_first" (top 51) A.f__law_first fd__law_first) {fd__law_end : FuncData} (FF__law_end : Fun K "_law_end" "_law_end" (top 52) A.f__law_end fd__law_end) {fd__law_told : FuncData} (FF__law_told : Fun K "_law_told" "_law_told" (top 53) A.f__law_told fd__law_told) {fd__law_input : FuncData} (FF__law_input : Fun K "_law_input" "_law_input" (top 54) A.f__law_input fd__law_input) {fd__law_deep : FuncData} (FF__law_deep : Fun K "_law_deep" "_law_deep" (top 55) A.f__law_deep fd__law_deep) {fd__law_clocked : FuncData} (FF__law_clocked : Fun K "_law_clocked" "_law_clocked" (top 56) A.f__law_clocked fd__law_clocked) {fd__law_many : FuncData} (FF__law_many : Fun K "_law_many" "_law_many" (top 57) A.f__law_many fd__law_many) {fd__law_word : FuncData} (FF__law_word : Fun K "_law_word" "_law_word" (top 58) A.f__law_word fd__law_word) {fd_law : FuncData} (FF_law : Fun K "law" "law" (top 59) A.f_law fd_law) (hk : Keeps d_law) : FnOk P w K mg base (L2.CX P w) 8 A.f_law fd_law ["_law_script"] (spLaw K) := by
  have F_is_integer : FnD P w K mg base clW 1 1 A.f_is_integer d_is_integer := fnD_of FF_is_integer sc_is_integer rfl rfl (FF_is_integer.binds (ps := ["thing"]) fun _ _ _ _ _ _ us hl => match us, hl with | [_], _ => rfl) fun cdv A1 outer s H E hr => p_is_integer T  cdv A1 outer s H E hr
  have F_is_number : FnD P w K mg base clW 2 1 A.f_is_number d_is_number := fnD_of FF_is_number sc_is_number rfl rfl (FF_is_number.binds (ps := ["thing"]) fun _ _ _ _ _ _ us hl => match us, hl with | [_], _ => rfl) fun cdv A1 outer s H E hr => p_is_number T F_is_integer cdv A1 outer s H E hr
  have F_is_name : FnD P w K mg base clW 1 1 A.f_is_name d_is_name := fnD_of FF_is_name sc_is_name rfl rfl (FF_is_name.binds (ps := ["thing"]) fun _ _ _ _ _ _ us hl => match us, hl with | [_], _ => rfl) fun cdv A1 outer s H E hr => p_is_name T  cdv A1 outer s H E hr
  have F_are_names : FnD P w K mg base clW 2 3 A.f_are_names d_are_names := fnD_of FF_are_names sc_are_names rfl rfl (FF_are_names.binds (ps := ["thing", "least", "most"]) fun _ _ _ _ _ _ us hl => match us, hl with | [_, _, _], _ => rfl) fun cdv A1 outer s H E hr => p_are_names T F_is_name cdv A1 outer s H E hr
  have F_are_numbers : FnD P w K mg base clW 3 2 A.f_are_numbers d_are_numbers := fnD_of FF_are_numbers sc_are_numbers rfl rfl (FF_are_numbers.binds (ps := ["thing", "many"]) fun _ _ _ _ _ _ us hl => match us, hl with | [_, _], _ => rfl) fun cdv A1 outer s H E hr => p_are_numbers T F_is_number cdv A1 outer s H E hr
  have F_check_input : FnD P w K mg base clW 4 2 A.f_check_input d_check_input := fnD_of FF_check_input sc_check_input rfl rfl (FF_check_input.binds (ps := ["thing", "many"]) fun _ _ _ _ _ _ us hl => match us, hl with | [_, _], _ => rfl) fun cdv A1 outer s H E hr => p_check_input T F_are_numbers cdv A1 outer s H E hr
  have F_is_deed : FnD P w K mg base clW 2 1 A.f_is_deed d_is_deed := fnD_of FF_is_deed sc_is_deed rfl rfl (FF_is_deed.binds (ps := ["thing"]) fun _ _ _ _ _ _ us hl => match us, hl with | [_], _ => rfl) fun cdv A1 outer s H E hr => p_is_deed T F_is_name cdv A1 outer s H E hr
  have F_is_round : FnD P w K mg base clW 2 1 A.f_is_round d_is_round := fnD_of FF_is_round sc_is_round rfl rfl (FF_is_round.binds (ps := ["thing"]) fun _ _ _ _ _ _ us hl => match us, hl with | [_], _ => rfl) fun cdv A1 outer s H E hr => p_is_round T F_is_name cdv A1 outer s H E hr
  have F_wrong_place : FnD P w K mg base clW 3 1 A.f_wrong_place d_wrong_place := fnD_of FF_wrong_place sc_wrong_place rfl rfl (FF_wrong_place.binds (ps := ["block"]) fun _ _ _ _ _ _ us hl => match us, hl with | [_], _ => rfl) fun cdv A1 outer s H E hr => p_wrong_place T F_is_deed F_is_round cdv A1 outer s H E hr
  have F_size_of : FnD P w K mg base clW 1 1 A.f_size_of d_size_of := fnD_of FF_size_of sc_size_of rfl rfl (FF_size_of.binds (ps := ["block"]) fun _ _ _ _ _ _ us hl => match us, hl with | [_], _ => rfl) fun cdv A1 outer s H E hr => p_size_of T  cdv A1 outer s H E hr
  have F_Program___init__ : FnO P w K mg base clW 4 3 A.f_Program___init__ d_Program___init__ := fnO_of FF_Program___init__ sc_Program___init__ rfl rfl (FF_Program___init__.binds (ps := ["self", "given", "told", "block"]) fun _ _ _ _ _ _ us hl => match us, hl with | [_, _, _, _], _ => rfl) fun cdv A1 outer s H E hr => p_Program___init__ T F_are_names F_size_of F_wrong_place cdv A1 outer s H E hr
  have F_Program___eq__ : FnD P w K mg base clW 1 2 A.f_Program___eq__ d_Program___eq__ := fnD_of FF_Program___eq__ sc_Program___eq__ rfl rfl (FF_Program___eq__.binds (ps := ["self", "other"]) fun _ _ _ _ _ _ us hl => match us, hl with | [_, _], _ => rfl) fun cdv A1 outer s H E hr => p_Program___eq__ T  cdv A1 outer s H E hr
  have F_RawProgram___init__ : FnO P w K mg base clW 1 3 A.f_RawProgram___init__ d_RawProgram___init__ := fnO_of FF_RawProgram___init__ sc_RawProgram___init__ rfl rfl (FF_RawProgram___init__.binds (ps := ["self", "given", "told", "block"]) fun _ _ _ _ _ _ us hl => match us, hl with | [_, _, _, _], _ => rfl) fun cdv A1 outer s H E hr => p_RawProgram___init__ T  cdv A1 outer s H E hr
  have F_deeds_in : FnD P w K mg base clW 1 1 A.f_deeds_in d_deeds_in := fnD_of FF_deeds_in sc_deeds_in rfl rfl (FF_deeds_in.binds (ps := ["block"]) fun _ _ _ _ _ _ us hl => match us, hl with | [_], _ => rfl) fun cdv A1 outer s H E hr => p_deeds_in T  cdv A1 outer s H E hr
  have F_names_of : FnD P w K mg base clW 1 1 A.f_names_of d_names_of := fnD_of FF_names_of sc_names_of rfl rfl (FF_names_of.binds (ps := ["statement"]) fun _ _ _ _ _ _ us hl => match us, hl with | [_], _ => rfl) fun cdv A1 outer s H E hr => p_names_of T  cdv A1 outer s H E hr
  have F_names : FnD P w K mg base clW 2 1 A.f_names d_names := fnD_of FF_names sc_names rfl rfl (FF_names.binds (ps := ["program"]) fun _ _ _ _ _ _ us hl => match us, hl with | [_], _ => rfl) fun cdv A1 outer s H E hr => p_names T F_deeds_in F_names_of cdv A1 outer s H E hr
  have F_clocked : FnD P w K mg base clW 3 2 A.f_clocked d_clocked := fnD_of FF_clocked sc_clocked rfl rfl (FF_clocked.binds (ps := ["program", "clock"]) fun _ _ _ _ _ _ us hl => match us, hl with | [_, _], _ => rfl) fun cdv A1 outer s H E hr => p_clocked T F_RawProgram___init__ cdv A1 outer s H E hr
  have F_with_clock : FnD P w K mg base clW 4 2 A.f_with_clock d_with_clock := fnD_of FF_with_clock sc_with_clock rfl rfl (FF_with_clock.binds (ps := ["program", "name"]) fun _ _ _ _ _ _ us hl => match us, hl with | [_, _], _ => rfl) fun cdv A1 outer s H E hr => p_with_clock T F_clocked F_is_name F_names cdv A1 outer s H E hr
  have F_raw_push : FnD P w K mg base clW 1 2 A.f_raw_push d_raw_push := fnD_of FF_raw_push sc_raw_push rfl rfl (FF_raw_push.binds (ps := ["own", "deeds"]) fun _ _ _ _ _ _ us hl => match us, hl with | [_, _], _ => rfl) fun cdv A1 outer s H E hr => p_raw_push T  cdv A1 outer s H E hr
  have F_source_number : FnD P w K mg base clW 1 2 A.f_source_number d_source_number := fnD_of FF_source_number sc_source_number rfl rfl (FF_source_number.binds (ps := ["numbers", "pair"]) fun _ _ _ _ _ _ us hl => match us, hl with | [_, _], _ => rfl) fun cdv A1 outer s H E hr => p_source_number T  cdv A1 outer s H E hr
  have F_raw_pushed : FnD P w K mg base clW 2 2 A.f_raw_pushed d_raw_pushed := fnD_of FF_raw_pushed sc_raw_pushed rfl rfl (FF_raw_pushed.binds (ps := ["push", "numbers"]) fun _ _ _ _ _ _ us hl => match us, hl with | [_, _], _ => rfl) fun cdv A1 outer s H E hr => p_raw_pushed T F_source_number cdv A1 outer s H E hr
  have F_raw_after : FnD P w K mg base clW 1 2 A.f_raw_after d_raw_after := fnD_of FF_raw_after sc_raw_after rfl rfl (FF_raw_after.binds (ps := ["push", "other"]) fun _ _ _ _ _ _ us hl => match us, hl with | [_, _], _ => rfl) fun cdv A1 outer s H E hr => p_raw_after T  cdv A1 outer s H E hr
  have F_raw_times : FnD P w K mg base clW 2 2 A.f_raw_times d_raw_times := fnD_of FF_raw_times sc_raw_times rfl rfl (FF_raw_times.binds (ps := ["push", "many"]) fun _ _ _ _ _ _ us hl => match us, hl with | [_, _], _ => rfl) fun cdv A1 outer s H E hr => p_raw_times T F_raw_after cdv A1 outer s H E hr
  have F_first_numbers : FnD P w K mg base clW 3 2 A.f_first_numbers d_first_numbers := fnD_of FF_first_numbers sc_first_numbers rfl rfl (FF_first_numbers.binds (ps := ["program", "given"]) fun _ _ _ _ _ _ us hl => match us, hl with | [_, _], _ => rfl) fun cdv A1 outer s H E hr => p_first_numbers T F_names cdv A1 outer s H E hr
  have F_statement_done : FnD P w K mg base clW 3 2 A.f_statement_done d_statement_done := fnD_of FF_statement_done sc_statement_done rfl rfl (FF_statement_done.binds (ps := ["statement", "numbers"]) fun _ _ _ _ _ _ us hl => match us, hl with | [_, _], _ => rfl) fun cdv A1 outer s H E hr => p_statement_done T F_raw_push F_raw_pushed F_raw_times cdv A1 outer s H E hr
  have F_parts : FnD P w K mg base clW 4 2 A.f_parts d_parts := fnD_of FF_parts sc_parts rfl rfl (FF_parts.binds (ps := ["program", "given"]) fun _ _ _ _ _ _ us hl => match us, hl with | [_, _], _ => rfl) fun cdv A1 outer s H E hr => p_parts T F_first_numbers F_statement_done cdv A1 outer s H E hr
  have F_raw_last : FnD P w K mg base clW 5 2 A.f_raw_last d_raw_last := fnD_of FF_raw_last sc_raw_last rfl rfl (FF_raw_last.binds (ps := ["program", "given"]) fun _ _ _ _ _ _ us hl => match us, hl with | [_, _], _ => rfl) fun cdv A1 outer s H E hr => p_raw_last T F_parts cdv A1 outer s H E hr
  have F_raw_results : FnD P w K mg base clW 6 2 A.f_raw_results d_raw_results := fnD_of FF_raw_results sc_raw_results rfl rfl (FF_raw_results.binds (ps := ["program", "given"]) fun _ _ _ _ _ _ us hl => match us, hl with | [_, _], _ => rfl) fun cdv A1 outer s H E hr => p_raw_results T F_raw_last cdv A1 outer s H E hr
  have F_results : FnD P w K mg base clW 7 2 A.f_results d_results := fnD_of FF_results sc_results rfl rfl (FF_results.binds (ps := ["program", "given"]) fun _ _ _ _ _ _ us hl => match us, hl with | [_, _], _ => rfl) fun cdv A1 outer s H E hr => p_results T F_check_input F_raw_results cdv A1 outer s H E hr
  have F_deeds : FnD P w K mg base clW 5 2 A.f_deeds d_deeds := fnD_of FF_deeds sc_deeds rfl rfl (FF_deeds.binds (ps := ["program", "given"]) fun _ _ _ _ _ _ us hl => match us, hl with | [_, _], _ => rfl) fun cdv A1 outer s H E hr => p_deeds T F_check_input F_parts cdv A1 outer s H E hr
  have F__law_pot : FnD P w K mg base clW 1 1 A.f__law_pot d__law_pot := fnD_of FF__law_pot sc__law_pot rfl rfl (FF__law_pot.binds (ps := ["_law_script"]) fun _ _ _ _ _ _ us hl => match us, hl with | [_], _ => rfl) fun cdv A1 outer s H E hr => p__law_pot T  cdv A1 outer s H E hr
  have F__law_draw : FnD P w K mg base clW 1 2 A.f__law_draw d__law_draw := fnD_of FF__law_draw sc__law_draw rfl rfl (FF__law_draw.binds (ps := ["_law_pot_here", "_law_many_here"]) fun _ _ _ _ _ _ us hl => match us, hl with | [_, _], _ => rfl) fun cdv A1 outer s H E hr => p__law_draw T  cdv A1 outer s H E hr
  have F__law_any : FnD P w K mg base clW 2 2 A.f__law_any d__law_any := fnD_of FF__law_any sc__law_any rfl rfl (FF__law_any.binds (ps := ["_law_pot_here", "_law_items"]) fun _ _ _ _ _ _ us hl => match us, hl with | [_, _], _ => rfl) fun cdv A1 outer s H E hr => p__law_any T F__law_draw cdv A1 outer s H E hr
  have F__law_mixed : FnD P w K mg base clW 2 2 A.f__law_mixed d__law_mixed := fnD_of FF__law_mixed sc__law_mixed rfl rfl (FF__law_mixed.binds (ps := ["_law_pot_here", "_law_items"]) fun _ _ _ _ _ _ us hl => match us, hl with | [_, _], _ => rfl) fun cdv A1 outer s H E hr => p__law_mixed T F__law_draw cdv A1 outer s H E hr
  have F__law_deed : FnD P w K mg base clW 3 2 A.f__law_deed d__law_deed := fnD_of FF__law_deed sc__law_deed rfl rfl (FF__law_deed.binds (ps := ["_law_pot_here", "_law_names_here"]) fun _ _ _ _ _ _ us hl => match us, hl with | [_, _], _ => rfl) fun cdv A1 outer s H E hr => p__law_deed T F__law_any F__law_draw cdv A1 outer s H E hr
  have F__law_wheel : FnD P w K mg base clW 3 2 A.f__law_wheel d__law_wheel := fnD_of FF__law_wheel sc__law_wheel rfl rfl (FF__law_wheel.binds (ps := ["_law_pot_here", "_law_names_here"]) fun _ _ _ _ _ _ us hl => match us, hl with | [_, _], _ => rfl) fun cdv A1 outer s H E hr => p__law_wheel T F__law_draw F__law_mixed cdv A1 outer s H E hr
  have F__law_spec : FnD P w K mg base clW 4 4 A.f__law_spec d__law_spec := fnD_of FF__law_spec sc__law_spec rfl rfl (FF__law_spec.binds (ps := ["_law_pot_here", "_law_most_given", "_law_most_names", "_law_most_statements"]) fun _ _ _ _ _ _ us hl => match us, hl with | [_, _, _, _], _ => rfl) fun cdv A1 outer s H E hr => p__law_spec T F__law_any F__law_deed F__law_draw F__law_mixed F__law_wheel cdv A1 outer s H E hr
  have F__law_names : FnD P w K mg base clW 1 1 A.f__law_names d__law_names := fnD_of FF__law_names sc__law_names rfl rfl (FF__law_names.binds (ps := ["_law_spec_here"]) fun _ _ _ _ _ _ us hl => match us, hl with | [_], _ => rfl) fun cdv A1 outer s H E hr => p__law_names T  cdv A1 outer s H E hr
  have F__law_do : FnD P w K mg base clW 1 2 A.f__law_do d__law_do := fnD_of FF__law_do sc__law_do rfl rfl (FF__law_do.binds (ps := ["_law_numbers", "_law_deed_here"]) fun _ _ _ _ _ _ us hl => match us, hl with | [_, _], _ => rfl) fun cdv A1 outer s H E hr => p__law_do T  cdv A1 outer s H E hr
  have F__law_first : FnD P w K mg base clW 2 2 A.f__law_first d__law_first := fnD_of FF__law_first sc__law_first rfl rfl (FF__law_first.binds (ps := ["_law_spec_here", "_law_given"]) fun _ _ _ _ _ _ us hl => match us, hl with | [_, _], _ => rfl) fun cdv A1 outer s H E hr => p__law_first T F__law_names cdv A1 outer s H E hr
  have F__law_end : FnD P w K mg base clW 3 2 A.f__law_end d__law_end := fnD_of FF__law_end sc__law_end rfl rfl (FF__law_end.binds (ps := ["_law_spec_here", "_law_given"]) fun _ _ _ _ _ _ us hl => match us, hl with | [_, _], _ => rfl) fun cdv A1 outer s H E hr => p__law_end T F__law_do F__law_first cdv A1 outer s H E hr
  have F__law_told : FnD P w K mg base clW 4 2 A.f__law_told d__law_told := fnD_of FF__law_told sc__law_told rfl rfl (FF__law_told.binds (ps := ["_law_spec_here", "_law_given"]) fun _ _ _ _ _ _ us hl => match us, hl with | [_, _], _ => rfl) fun cdv A1 outer s H E hr => p__law_told T F__law_end cdv A1 outer s H E hr
  have F__law_input : FnD P w K mg base clW 2 3 A.f__law_input d__law_input := fnD_of FF__law_input sc__law_input rfl rfl (FF__law_input.binds (ps := ["_law_pot_here", "_law_many_here", "_law_most"]) fun _ _ _ _ _ _ us hl => match us, hl with | [_, _, _], _ => rfl) fun cdv A1 outer s H E hr => p__law_input T F__law_draw cdv A1 outer s H E hr
  have F__law_deep : FnD P w K mg base clW 1 0 A.f__law_deep d__law_deep := fnD_of FF__law_deep sc__law_deep rfl rfl (FF__law_deep.binds (ps := []) fun _ _ _ _ _ _ us hl => match us, hl with | [], _ => rfl) fun cdv A1 outer s H E hr => p__law_deep T  cdv A1 outer s H E hr
  have F__law_clocked : FnD P w K mg base clW 1 2 A.f__law_clocked d__law_clocked := fnD_of FF__law_clocked sc__law_clocked rfl rfl (FF__law_clocked.binds (ps := ["_law_spec_here", "_law_name"]) fun _ _ _ _ _ _ us hl => match us, hl with | [_, _], _ => rfl) fun cdv A1 outer s H E hr => p__law_clocked T  cdv A1 outer s H E hr
  have F__law_many : FnD P w K mg base clW 3 2 A.f__law_many d__law_many := fnD_of FF__law_many sc__law_many rfl rfl (FF__law_many.binds (ps := ["_law_spec_here", "_law_given"]) fun _ _ _ _ _ _ us hl => match us, hl with | [_, _], _ => rfl) fun cdv A1 outer s H E hr => p__law_many T F__law_do F__law_first cdv A1 outer s H E hr
  have F__law_word : FnD P w K mg base clW 5 2 A.f__law_word d__law_word := fnD_of FF__law_word sc__law_word rfl rfl (FF__law_word.binds (ps := ["_law_program", "_law_name"]) fun _ _ _ _ _ _ us hl => match us, hl with | [_, _], _ => rfl) fun cdv A1 outer s H E hr => p__law_word T F_with_clock cdv A1 outer s H E hr
  exact law_ok FF_law sc_law rfl (fun cdv A1 outer s H E hr => p_law T F_Program___eq__ F_Program___init__ F__law_any F__law_clocked F__law_deep F__law_draw F__law_input F__law_many F__law_names F__law_pot F__law_spec F__law_told F__law_word F_deeds F_results F_with_clock cdv A1 outer s H E hr) hk
theorem all_mk {l : PySem.W.OpenLaw} {w : World} {K : PySem.W.Frag} {h : Heap} {mg : Str → Option Value} {fa f_is_integer f_is_number f_is_name f_are_names f_are_numbers f_check_input f_is_deed f_is_round f_wrong_place f_size_of f_Program___init__ f_Program___eq__ f_RawProgram___init__ f_deeds_in f_names_of f_names f_clocked f_with_clock f_raw_push f_source_number f_raw_pushed f_raw_after f_raw_times f_first_numbers f_statement_done f_parts f_raw_last f_raw_results f_results f_deeds f__law_pot f__law_draw f__law_any f__law_mixed f__law_deed f__law_wheel f__law_spec f__law_names f__law_do f__law_first f__law_end f__law_told f__law_input f__law_deep f__law_clocked f__law_many f__law_word f_law c_BadProgram c_NoInput c_NoName c_Program c_RawProgram c_RoundError : Addr} {od_is_integer an_is_integer : Option Addr} {sl_is_integer : Array (Option Value)} {oc_is_integer kV_is_integer dc_is_integer pm_is_integer cd_is_integer ct_is_integer : Value} {od_is_number an_is_number : Option Addr} {sl_is_number : Array (Option Value)} {oc_is_number kV_is_number dc_is_number pm_is_number cd_is_number ct_is_number : Value} {od_is_name an_is_name : Option Addr} {sl_is_name : Array (Option Value)} {oc_is_name kV_is_name dc_is_name pm_is_name cd_is_name ct_is_name : Value} {od_are_names an_are_names : Option Addr} {sl_are_names : Array (Option Value)} {oc_are_names kV_are_names dc_are_names pm_are_names cd_are_names ct_are_names : Value} {od_are_numbers an_are_numbers : Option Addr} {sl_are_numbers : Array (Option Value)} {oc_are_numbers kV_are_numbers dc_are_numbers pm_are_numbers cd_are_numbers ct_are_numbers : Value} {od_check_input an_check_input : Option Addr} {sl_check_input : Array (Option Value)} {oc_check_input kV_check_input dc_check_input pm_check_input cd_check_input ct_check_input : Value} {od_is_deed an_is_deed : Option Addr} {sl_is_deed : Array (Option Value)} {oc_is_deed kV_is_deed dc_is_deed pm_is_deed cd_is_deed ct_is_deed : Value} {od_is_round an_is_round : Option Addr} {sl_is_round : Array (Option Value)} {oc_is_round kV_is_round dc_is_round pm_is_round cd_is_round ct_is_round : Value} {od_wrong_place an_wrong_place : Option Addr} {sl_wrong_place : Array (Option Value)} {oc_wrong_place kV_wrong_place dc_wrong_place pm_wrong_place cd_wrong_place ct_wrong_place : Value} {od_size_of an_size_of : Option Addr} {sl_size_of : Array (Option Value)} {oc_size_of kV_size_of dc_size_of pm_size_of cd_size_of ct_size_of : Value} {od_Program___init__ an_Program___init__ : Option Addr} {sl_Program___init__ : Array (Option Value)} {oc_Program___init__ kV_Program___init__ dc_Program___init__ pm_Program___init__ cd_Program___init__ ct_Program___init__ : Value} {od_Program___eq__ an_Program___eq__ : Option Addr} {sl_Program___eq__ : Array (Option Value)} {oc_Program___eq__ kV_Program___eq__ dc_Program___eq__ pm_Program___eq__ cd_Program___eq__ ct_Program___eq__ : Value} {od_RawProgram___init__ an_RawProgram___init__ : Option Addr} {sl_RawProgram___init__ : Array (Option Value)} {oc_RawProgram___init__ kV_RawProgram___init__ dc_RawProgram___init__ pm_RawProgram___init__ cd_RawProgram___init__ ct_RawProgram___init__ : Value} {od_deeds_in an_deeds_in : Option Addr} {sl_deeds_in : Array (Option Value)} {oc_deeds_in kV_deeds_in dc_deeds_in pm_deeds_in cd_deeds_in ct_deeds_in : Value} {od_names_of an_names_of : Option Addr} {sl_names_of : Array (Option Value)} {oc_names_of kV_names_of dc_names_of pm_names_of cd_names_of ct_names_of : Value} {od_names an_names : Option Addr} {sl_names : Array (Option Value)} {oc_names kV_names dc_names pm_names cd_names ct_names : Value} {od_clocked an_clocked : Option Addr} {sl_clocked : Array (Option Value)} {oc_clocked kV_clocked dc_clocked pm_clocked cd_clocked ct_clocked : Value} {od_with_clock an_with_clock : Option Addr} {sl_with_clock : Array (Option Value)} {oc_with_clock kV_with_clock dc_with_clock pm_with_clock cd_with_clock ct_with_clock : Value} {od_raw_push an_raw_push : Option Addr} {sl_raw_push : Array (Option Value)} {oc_raw_push kV_raw_push dc_raw_push pm_raw_push cd_raw_push ct_raw_push : Value} {od_source_number an_source_number : Option Addr} {sl_source_number : Array (Option Value)} {oc_source_number kV_source_number dc_source_number pm_source_number cd_source_number ct_source_number : Value} {od_raw_pushed an_raw_pushed : Option Addr} {sl_raw_pushed : Array (Option Value)} {oc_raw_pushed kV_raw_pushed dc_raw_pushed pm_raw_pushed cd_raw_pushed ct_raw_pushed : Value} {od_raw_after an_raw_after : Option Addr} {sl_raw_after : Array (Option Value)} {oc_raw_after kV_raw_after dc_raw_after pm_raw_after cd_raw_after ct_raw_after : Value} {od_raw_times an_raw_times : Option Addr} {sl_raw_times : Array (Option Value)} {oc_raw_times kV_raw_times dc_raw_times pm_raw_times cd_raw_times ct_raw_times : Value} {od_first_numbers an_first_numbers : Option Addr} {sl_first_numbers : Array (Option Value)} {oc_first_numbers kV_first_numbers dc_first_numbers pm_first_numbers cd_first_numbers ct_first_numbers : Value} {od_statement_done an_statement_done : Option Addr} {sl_statement_done : Array (Option Value)} {oc_statement_done kV_statement_done dc_statement_done pm_statement_done cd_statement_done ct_statement_done : Value} {od_parts an_parts : Option Addr} {sl_parts : Array (Option Value)} {oc_parts kV_parts dc_parts pm_parts cd_parts ct_parts : Value} {od_raw_last an_raw_last : Option Addr} {sl_raw_last : Array (Option Value)} {oc_raw_last kV_raw_last dc_raw_last pm_raw_last cd_raw_last ct_raw_last : Value} {od_raw_results an_raw_results : Option Addr} {sl_raw_results : Array (Option Value)} {oc_raw_results kV_raw_results dc_raw_results pm_raw_results cd_raw_results ct_raw_results : Value} {od_results an_results : Option Addr} {sl_results : Array (Option Value)} {oc_results kV_results dc_results pm_results cd_results ct_results : Value} {od_deeds an_deeds : Option Addr} {sl_deeds : Array (Option Value)} {oc_deeds kV_deeds dc_deeds pm_deeds cd_deeds ct_deeds : Value} {od__law_pot an__law_pot : Option Addr} {sl__law_pot : Array (Option Value)} {oc__law_pot kV__law_pot dc__law_pot pm__law_pot cd__law_pot ct__law_pot : Value} {od__law_draw an__law_draw : Option Addr} {sl__law_draw : Array (Option Value)} {oc__law_draw kV__law_draw dc__law_draw pm__law_draw cd__law_draw ct__law_draw : Value} {od__law_any an__law_any : Option Addr} {sl__law_any : Array (Option Value)} {oc__law_any kV__law_any dc__law_any pm__law_any cd__law_any ct__law_any : Value} {od__law_mixed an__law_mixed : Option Addr} {sl__law_mixed : Array (Option Value)} {oc__law_mixed kV__law_mixed dc__law_mixed pm__law_mixed cd__law_mixed ct__law_mixed : Value} {od__law_deed an__law_deed : Option Addr} {sl__law_deed : Array (Option Value)} {oc__law_deed kV__law_deed dc__law_deed pm__law_deed cd__law_deed ct__law_deed : Value} {od__law_wheel an__law_wheel : Option Addr} {sl__law_wheel : Array (Option Value)} {oc__law_wheel kV__law_wheel dc__law_wheel pm__law_wheel cd__law_wheel ct__law_wheel : Value} {od__law_spec an__law_spec : Option Addr} {sl__law_spec : Array (Option Value)} {oc__law_spec kV__law_spec dc__law_spec pm__law_spec cd__law_spec ct__law_spec : Value} {od__law_names an__law_names : Option Addr} {sl__law_names : Array (Option Value)} {oc__law_names kV__law_names dc__law_names pm__law_names cd__law_names ct__law_names : Value} {od__law_do an__law_do : Option Addr} {sl__law_do : Array (Option Value)} {oc__law_do kV__law_do dc__law_do pm__law_do cd__law_do ct__law_do : Value} {od__law_first an__law_first : Option Addr} {sl__law_first : Array (Option Value)} {oc__law_first kV__law_first dc__law_first pm__law_first cd__law_first ct__law_first : Value} {od__law_end an__law_end : Option Addr} {sl__law_end : Array (Option Value)} {oc__law_end kV__law_end dc__law_end pm__law_end cd__law_end ct__law_end : Value} {od__law_told an__law_told : Option Addr} {sl__law_told : Array (Option Value)} {oc__law_told kV__law_told dc__law_told pm__law_told cd__law_told ct__law_told : Value} {od__law_input an__law_input : Option Addr} {sl__law_input : Array (Option Value)} {oc__law_input kV__law_input dc__law_input pm__law_input cd__law_input ct__law_input : Value} {od__law_deep an__law_deep : Option Addr} {sl__law_deep : Array (Option Value)} {oc__law_deep kV__law_deep dc__law_deep pm__law_deep cd__law_deep ct__law_deep : Value} {od__law_clocked an__law_clocked : Option Addr} {sl__law_clocked : Array (Option Value)} {oc__law_clocked kV__law_clocked dc__law_clocked pm__law_clocked cd__law_clocked ct__law_clocked : Value} {od__law_many an__law_many : Option Addr} {sl__law_many : Array (Option Value)} {oc__law_many kV__law_many dc__law_many pm__law_many cd__law_many ct__law_many : Value} {od__law_word an__law_word : Option Addr} {sl__law_word : Array (Option Value)} {oc__law_word kV__law_word dc__law_word pm__law_word cd__law_word ct__law_word : Value} {od_law an_law : Option Addr} {sl_law : Array (Option Value)} {oc_law kV_law dc_law pm_law cd_law ct_law : Value} {u_MOST_STATEMENTS u_MOST_TOLD : Value} (hk : Keeps d_law) (X : K.In h) (G : h.Ns mainGlobals mg) (hfa : mg "law" = some (.ref fa))
    (ac_BadProgram : PySem.W.nsIn K mainGlobals "BadProgram" = some (some (.ref c_BadProgram)))
    (ac_NoInput : PySem.W.nsIn K mainGlobals "NoInput" = some (some (.ref c_NoInput)))
    (ac_NoName : PySem.W.nsIn K mainGlobals "NoName" = some (some (.ref c_NoName)))
    (ac_Program : PySem.W.nsIn K mainGlobals "Program" = some (some (.ref c_Program)))
    (ac_RawProgram : PySem.W.nsIn K mainGlobals "RawProgram" = some (some (.ref c_RawProgram)))
    (ac_RoundError : PySem.W.nsIn K mainGlobals "RoundError" = some (some (.ref c_RoundError)))
    (a_is_integer : PySem.W.nsIn K mainGlobals "is_integer" = some (some (.ref f_is_integer)))
    (l_is_integer : K.lookup f_is_integer = some ⟨oc_is_integer, od_is_integer, .func (PySem.W.fnOf "is_integer" "is_integer" (defArgs (top 6)) (defBody (top 6)) (defScope (top 6)) .none kV_is_integer dc_is_integer pm_is_integer an_is_integer cd_is_integer ct_is_integer), sl_is_integer⟩)
    (c_is_integer : PySem.W.codeIn K cd_is_integer "is_integer" = true)
    (k_is_integer : PySem.W.keepIn K (.ref f_is_integer) = true)
    (a_is_number : PySem.W.nsIn K mainGlobals "is_number" = some (some (.ref f_is_number)))
    (l_is_number : K.lookup f_is_number = some ⟨oc_is_number, od_is_number, .func (PySem.W.fnOf "is_number" "is_number" (defArgs (top 7)) (defBody (top 7)) (defScope (top 7)) .none kV_is_number dc_is_number pm_is_number an_is_number cd_is_number ct_is_number), sl_is_number⟩)
    (c_is_number : PySem.W.codeIn K cd_is_number "is_number" = true)
    (k_is_number : PySem.W.keepIn K (.ref f_is_number) = true)
    (a_is_name : PySem.W.nsIn K mainGlobals "is_name" = some (some (.ref f_is_name)))
    (l_is_name : K.lookup f_is_name = some ⟨oc_is_name, od_is_name, .func (PySem.W.fnOf "is_name" "is_name" (defArgs (top 8)) (defBody (top 8)) (defScope (top 8)) .none kV_is_name dc_is_name pm_is_name an_is_name cd_is_name ct_is_name), sl_is_name⟩)
    (c_is_name : PySem.W.codeIn K cd_is_name "is_name" = true)
    (k_is_name : PySem.W.keepIn K (.ref f_is_name) = true)
    (a_are_names : PySem.W.nsIn K mainGlobals "are_names" = some (some (.ref f_are_names)))
    (l_are_names : K.lookup f_are_names = some ⟨oc_are_names, od_are_names, .func (PySem.W.fnOf "are_names" "are_names" (defArgs (top 9)) (defBody (top 9)) (defScope (top 9)) .none kV_are_names dc_are_names pm_are_names an_are_names cd_are_names ct_are_names), sl_are_names⟩)
    (c_are_names : PySem.W.codeIn K cd_are_names "are_names" = true)
    (k_are_names : PySem.W.keepIn K (.ref f_are_names) = true)
    (a_are_numbers : PySem.W.nsIn K mainGlobals "are_numbers" = some (some (.ref f_are_numbers)))
    (l_are_numbers : K.lookup f_are_numbers = some ⟨oc_are_numbers, od_are_numbers, .func (PySem.W.fnOf "are_numbers" "are_numbers" (defArgs (top 10)) (defBody (top 10)) (defScope (top 10)) .none kV_are_numbers dc_are_numbers pm_are_numbers an_are_numbers cd_are_numbers ct_are_numbers), sl_are_numbers⟩)
    (c_are_numbers : PySem.W.codeIn K cd_are_numbers "are_numbers" = true)
    (k_are_numbers : PySem.W.keepIn K (.ref f_are_numbers) = true)
    (a_check_input : PySem.W.nsIn K mainGlobals "check_input" = some (some (.ref f_check_input)))
    (l_check_input : K.lookup f_check_input = some ⟨oc_check_input, od_check_input, .func (PySem.W.fnOf "check_input" "check_input" (defArgs (top 11)) (defBody (top 11)) (defScope (top 11)) .none kV_check_input dc_check_input pm_check_input an_check_input cd_check_input ct_check_input), sl_check_input⟩)
    (c_check_input : PySem.W.codeIn K cd_check_input "check_input" = true)
    (k_check_input : PySem.W.keepIn K (.ref f_check_input) = true)
    (a_is_deed : PySem.W.nsIn K mainGlobals "is_deed" = some (some (.ref f_is_deed)))
    (l_is_deed : K.lookup f_is_deed = some ⟨oc_is_deed, od_is_deed, .func (PySem.W.fnOf "is_deed" "is_deed" (defArgs (top 14)) (defBody (top 14)) (defScope (top 14)) .none kV_is_deed dc_is_deed pm_is_deed an_is_deed cd_is_deed ct_is_deed), sl_is_deed⟩)
    (c_is_deed : PySem.W.codeIn K cd_is_deed "is_deed" = true)
    (k_is_deed : PySem.W.keepIn K (.ref f_is_deed) = true)
    (a_is_round : PySem.W.nsIn K mainGlobals "is_round" = some (some (.ref f_is_round)))
    (l_is_round : K.lookup f_is_round = some ⟨oc_is_round, od_is_round, .func (PySem.W.fnOf "is_round" "is_round" (defArgs (top 15)) (defBody (top 15)) (defScope (top 15)) .none kV_is_round dc_is_round pm_is_round an_is_round cd_is_round ct_is_round), sl_is_round⟩)
    (c_is_round : PySem.W.codeIn K cd_is_round "is_round" = true)
    (k_is_round : PySem.W.keepIn K (.ref f_is_round) = true)
    (a_wrong_place : PySem.W.nsIn K mainGlobals "wrong_place" = some (some (.ref f_wrong_place)))
    (l_wrong_place : K.lookup f_wrong_place = some ⟨oc_wrong_place, od_wrong_place, .func (PySem.W.fnOf "wrong_place" "wrong_place" (defArgs (top 16)) (defBody (top 16)) (defScope (top 16)) .none kV_wrong_place dc_wrong_place pm_wrong_place an_wrong_place cd_wrong_place ct_wrong_place), sl_wrong_place⟩)
    (c_wrong_place : PySem.W.codeIn K cd_wrong_place "wrong_place" = true)
    (k_wrong_place : PySem.W.keepIn K (.ref f_wrong_place) = true)
    (a_size_of : PySem.W.nsIn K mainGlobals "size_of" = some (some (.ref f_size_of)))
    (l_size_of : K.lookup f_size_of = some ⟨oc_size_of, od_size_of, .func (PySem.W.fnOf "size_of" "size_of" (defArgs (top 17)) (defBody (top 17)) (defScope (top 17)) .none kV_size_of dc_size_of pm_size_of an_size_of cd_size_of ct_size_of), sl_size_of⟩)
    (c_size_of : PySem.W.codeIn K cd_size_of "size_of" = true)
    (k_size_of : PySem.W.keepIn K (.ref f_size_of) = true)
    (a_Program___init__ : PySem.W.findIn K (.ref c_Program) "__init__" = some (some (.ref f_Program___init__)))
    (i_Program___init__ : PySem.W.isFn K (.ref f_Program___init__) = true)
    (l_Program___init__ : K.lookup f_Program___init__ = some ⟨oc_Program___init__, od_Program___init__, .func (PySem.W.fnOf "__init__" "Program.__init__" (defArgs (inClass (top 18) 0)) (defBody (inClass (top 18) 0)) (defScope (inClass (top 18) 0)) .none kV_Program___init__ dc_Program___init__ pm_Program___init__ an_Program___init__ cd_Program___init__ ct_Program___init__), sl_Program___init__⟩)
    (c_Program___init__ : PySem.W.codeIn K cd_Program___init__ "Program.__init__" = true)
    (k_Program___init__ : PySem.W.keepIn K (.ref f_Program___init__) = true)
    (a_Program___eq__ : PySem.W.findIn K (.ref c_Program) "__eq__" = some (some (.ref f_Program___eq__)))
    (i_Program___eq__ : PySem.W.isFn K (.ref f_Program___eq__) = true)
    (l_Program___eq__ : K.lookup f_Program___eq__ = some ⟨oc_Program___eq__, od_Program___eq__, .func (PySem.W.fnOf "__eq__" "Program.__eq__" (defArgs (inClass (top 18) 1)) (defBody (inClass (top 18) 1)) (defScope (inClass (top 18) 1)) .none kV_Program___eq__ dc_Program___eq__ pm_Program___eq__ an_Program___eq__ cd_Program___eq__ ct_Program___eq__), sl_Program___eq__⟩)
    (c_Program___eq__ : PySem.W.codeIn K cd_Program___eq__ "Program.__eq__" = true)
    (k_Program___eq__ : PySem.W.keepIn K (.ref f_Program___eq__) = true)
    (a_RawProgram___init__ : PySem.W.findIn K (.ref c_RawProgram) "__init__" = some (some (.ref f_RawProgram___init__)))
    (i_RawProgram___init__ : PySem.W.isFn K (.ref f_RawProgram___init__) = true)
    (l_RawProgram___init__ : K.lookup f_RawProgram___init__ = some ⟨oc_RawProgram___init__, od_RawProgram___init__, .func (PySem.W.fnOf "__init__" "RawProgram.__init__" (defArgs (inClass (top 19) 0)) (defBody (inClass (top 19) 0)) (defScope (inClass (top 19) 0)) .none kV_RawProgram___init__ dc_RawProgram___init__ pm_RawProgram___init__ an_RawProgram___init__ cd_RawProgram___init__ ct_RawProgram___init__), sl_RawProgram___init__⟩)
    (c_RawProgram___init__ : PySem.W.codeIn K cd_RawProgram___init__ "RawProgram.__init__" = true)
    (k_RawProgram___init__ : PySem.W.keepIn K (.ref f_RawProgram___init__) = true)
    (a_deeds_in : PySem.W.nsIn K mainGlobals "deeds_in" = some (some (.ref f_deeds_in)))
    (l_deeds_in : K.lookup f_deeds_in = some ⟨oc_deeds_in, od_deeds_in, .func (PySem.W.fnOf "deeds_in" "deeds_in" (defArgs (top 20)) (defBody (top 20)) (defScope (top 20)) .none kV_deeds_in dc_deeds_in pm_deeds_in an_deeds_in cd_deeds_in ct_deeds_in), sl_deeds_in⟩)
    (c_deeds_in : PySem.W.codeIn K cd_deeds_in "deeds_in" = true)
    (k_deeds_in : PySem.W.keepIn K (.ref f_deeds_in) = true)
    (a_names_of : PySem.W.nsIn K mainGlobals "names_of" = some (some (.ref f_names_of)))
    (l_names_of : K.lookup f_names_of = some ⟨oc_names_of, od_names_of, .func (PySem.W.fnOf "names_of" "names_of" (defArgs (top 21)) (defBody (top 21)) (defScope (top 21)) .none kV_names_of dc_names_of pm_names_of an_names_of cd_names_of ct_names_of), sl_names_of⟩)
    (c_names_of : PySem.W.codeIn K cd_names_of "names_of" = true)
    (k_names_of : PySem.W.keepIn K (.ref f_names_of) = true)
    (a_names : PySem.W.nsIn K mainGlobals "names" = some (some (.ref f_names)))
    (l_names : K.lookup f_names = some ⟨oc_names, od_names, .func (PySem.W.fnOf "names" "names" (defArgs (top 22)) (defBody (top 22)) (defScope (top 22)) .none kV_names dc_names pm_names an_names cd_names ct_names), sl_names⟩)
    (c_names : PySem.W.codeIn K cd_names "names" = true)
    (k_names : PySem.W.keepIn K (.ref f_names) = true)
    (a_clocked : PySem.W.nsIn K mainGlobals "clocked" = some (some (.ref f_clocked)))
    (l_clocked : K.lookup f_clocked = some ⟨oc_clocked, od_clocked, .func (PySem.W.fnOf "clocked" "clocked" (defArgs (top 23)) (defBody (top 23)) (defScope (top 23)) .none kV_clocked dc_clocked pm_clocked an_clocked cd_clocked ct_clocked), sl_clocked⟩)
    (c_clocked : PySem.W.codeIn K cd_clocked "clocked" = true)
    (k_clocked : PySem.W.keepIn K (.ref f_clocked) = true)
    (a_with_clock : PySem.W.nsIn K mainGlobals "with_clock" = some (some (.ref f_with_clock)))
    (l_with_clock : K.lookup f_with_clock = some ⟨oc_with_clock, od_with_clock, .func (PySem.W.fnOf "with_clock" "with_clock" (defArgs (top 26)) (defBody (top 26)) (defScope (top 26)) .none kV_with_clock dc_with_clock pm_with_clock an_with_clock cd_with_clock ct_with_clock), sl_with_clock⟩)
    (c_with_clock : PySem.W.codeIn K cd_with_clock "with_clock" = true)
    (k_with_clock : PySem.W.keepIn K (.ref f_with_clock) = true)
    (a_raw_push : PySem.W.nsIn K mainGlobals "raw_push" = some (some (.ref f_raw_push)))
    (l_raw_push : K.lookup f_raw_push = some ⟨oc_raw_push, od_raw_push, .func (PySem.W.fnOf "raw_push" "raw_push" (defArgs (top 28)) (defBody (top 28)) (defScope (top 28)) .none kV_raw_push dc_raw_push pm_raw_push an_raw_push cd_raw_push ct_raw_push), sl_raw_push⟩)
    (c_raw_push : PySem.W.codeIn K cd_raw_push "raw_push" = true)
    (k_raw_push : PySem.W.keepIn K (.ref f_raw_push) = true)
    (a_source_number : PySem.W.nsIn K mainGlobals "source_number" = some (some (.ref f_source_number)))
    (l_source_number : K.lookup f_source_number = some ⟨oc_source_number, od_source_number, .func (PySem.W.fnOf "source_number" "source_number" (defArgs (top 29)) (defBody (top 29)) (defScope (top 29)) .none kV_source_number dc_source_number pm_source_number an_source_number cd_source_number ct_source_number), sl_source_number⟩)
    (c_source_number : PySem.W.codeIn K cd_source_number "source_number" = true)
    (k_source_number : PySem.W.keepIn K (.ref f_source_number) = true)
    (a_raw_pushed : PySem.W.nsIn K mainGlobals "raw_pushed" = some (some (.ref f_raw_pushed)))
    (l_raw_pushed : K.lookup f_raw_pushed = some ⟨oc_raw_pushed, od_raw_pushed, .func (PySem.W.fnOf "raw_pushed" "raw_pushed" (defArgs (top 30)) (defBody (top 30)) (defScope (top 30)) .none kV_raw_pushed dc_raw_pushed pm_raw_pushed an_raw_pushed cd_raw_pushed ct_raw_pushed), sl_raw_pushed⟩)
    (c_raw_pushed : PySem.W.codeIn K cd_raw_pushed "raw_pushed" = true)
    (k_raw_pushed : PySem.W.keepIn K (.ref f_raw_pushed) = true)
    (a_raw_after : PySem.W.nsIn K mainGlobals "raw_after" = some (some (.ref f_raw_after)))
    (l_raw_after : K.lookup f_raw_after = some ⟨oc_raw_after, od_raw_after, .func (PySem.W.fnOf "raw_after" "raw_after" (defArgs (top 31)) (defBody (top 31)) (defScope (top 31)) .none kV_raw_after dc_raw_after pm_raw_after an_raw_after cd_raw_after ct_raw_after), sl_raw_after⟩)
    (c_raw_after : PySem.W.codeIn K cd_raw_after "raw_after" = true)
    (k_raw_after : PySem.W.keepIn K (.ref f_raw_after) = true)
    (a_raw_times : PySem.W.nsIn K mainGlobals "raw_times" = some (some (.ref f_raw_times)))
    (l_raw_times : K.lookup f_raw_times = some ⟨oc_raw_times, od_raw_times, .func (PySem.W.fnOf "raw_times" "raw_times" (defArgs (top 32)) (defBody (top 32)) (defScope (top 32)) .none kV_raw_times dc_raw_times pm_raw_times an_raw_times cd_raw_times ct_raw_times), sl_raw_times⟩)
    (c_raw_times : PySem.W.codeIn K cd_raw_times "raw_times" = true)
    (k_raw_times : PySem.W.keepIn K (.ref f_raw_times) = true)
    (a_first_numbers : PySem.W.nsIn K mainGlobals "first_numbers" = some (some (.ref f_first_numbers)))
    (l_first_numbers : K.lookup f_first_numbers = some ⟨oc_first_numbers, od_first_numbers, .func (PySem.W.fnOf "first_numbers" "first_numbers" (defArgs (top 34)) (defBody (top 34)) (defScope (top 34)) .none kV_first_numbers dc_first_numbers pm_first_numbers an_first_numbers cd_first_numbers ct_first_numbers), sl_first_numbers⟩)
    (c_first_numbers : PySem.W.codeIn K cd_first_numbers "first_numbers" = true)
    (k_first_numbers : PySem.W.keepIn K (.ref f_first_numbers) = true)
    (a_statement_done : PySem.W.nsIn K mainGlobals "statement_done" = some (some (.ref f_statement_done)))
    (l_statement_done : K.lookup f_statement_done = some ⟨oc_statement_done, od_statement_done, .func (PySem.W.fnOf "statement_done" "statement_done" (defArgs (top 35)) (defBody (top 35)) (defScope (top 35)) .none kV_statement_done dc_statement_done pm_statement_done an_statement_done cd_statement_done ct_statement_done), sl_statement_done⟩)
    (c_statement_done : PySem.W.codeIn K cd_statement_done "statement_done" = true)
    (k_statement_done : PySem.W.keepIn K (.ref f_statement_done) = true)
    (a_parts : PySem.W.nsIn K mainGlobals "parts" = some (some (.ref f_parts)))
    (l_parts : K.lookup f_parts = some ⟨oc_parts, od_parts, .func (PySem.W.fnOf "parts" "parts" (defArgs (top 36)) (defBody (top 36)) (defScope (top 36)) .none kV_parts dc_parts pm_parts an_parts cd_parts ct_parts), sl_parts⟩)
    (c_parts : PySem.W.codeIn K cd_parts "parts" = true)
    (k_parts : PySem.W.keepIn K (.ref f_parts) = true)
    (a_raw_last : PySem.W.nsIn K mainGlobals "raw_last" = some (some (.ref f_raw_last)))
    (l_raw_last : K.lookup f_raw_last = some ⟨oc_raw_last, od_raw_last, .func (PySem.W.fnOf "raw_last" "raw_last" (defArgs (top 37)) (defBody (top 37)) (defScope (top 37)) .none kV_raw_last dc_raw_last pm_raw_last an_raw_last cd_raw_last ct_raw_last), sl_raw_last⟩)
    (c_raw_last : PySem.W.codeIn K cd_raw_last "raw_last" = true)
    (k_raw_last : PySem.W.keepIn K (.ref f_raw_last) = true)
    (a_raw_results : PySem.W.nsIn K mainGlobals "raw_results" = some (some (.ref f_raw_results)))
    (l_raw_results : K.lookup f_raw_results = some ⟨oc_raw_results, od_raw_results, .func (PySem.W.fnOf "raw_results" "raw_results" (defArgs (top 38)) (defBody (top 38)) (defScope (top 38)) .none kV_raw_results dc_raw_results pm_raw_results an_raw_results cd_raw_results ct_raw_results), sl_raw_results⟩)
    (c_raw_results : PySem.W.codeIn K cd_raw_results "raw_results" = true)
    (k_raw_results : PySem.W.keepIn K (.ref f_raw_results) = true)
    (a_results : PySem.W.nsIn K mainGlobals "results" = some (some (.ref f_results)))
    (l_results : K.lookup f_results = some ⟨oc_results, od_results, .func (PySem.W.fnOf "results" "results" (defArgs (top 39)) (defBody (top 39)) (defScope (top 39)) .none kV_results dc_results pm_results an_results cd_results ct_results), sl_results⟩)
    (c_results : PySem.W.codeIn K cd_results "results" = true)
    (k_results : PySem.W.keepIn K (.ref f_results) = true)
    (a_deeds : PySem.W.nsIn K mainGlobals "deeds" = some (some (.ref f_deeds)))
    (l_deeds : K.lookup f_deeds = some ⟨oc_deeds, od_deeds, .func (PySem.W.fnOf "deeds" "deeds" (defArgs (top 40)) (defBody (top 40)) (defScope (top 40)) .none kV_deeds dc_deeds pm_deeds an_deeds cd_deeds ct_deeds), sl_deeds⟩)
    (c_deeds : PySem.W.codeIn K cd_deeds "deeds" = true)
    (k_deeds : PySem.W.keepIn K (.ref f_deeds) = true)
    (a__law_pot : PySem.W.nsIn K mainGlobals "_law_pot" = some (some (.ref f__law_pot)))
    (l__law_pot : K.lookup f__law_pot = some ⟨oc__law_pot, od__law_pot, .func (PySem.W.fnOf "_law_pot" "_law_pot" (defArgs (top 42)) (defBody (top 42)) (defScope (top 42)) .none kV__law_pot dc__law_pot pm__law_pot an__law_pot cd__law_pot ct__law_pot), sl__law_pot⟩)
    (c__law_pot : PySem.W.codeIn K cd__law_pot "_law_pot" = true)
    (k__law_pot : PySem.W.keepIn K (.ref f__law_pot) = true)
    (a__law_draw : PySem.W.nsIn K mainGlobals "_law_draw" = some (some (.ref f__law_draw)))
    (l__law_draw : K.lookup f__law_draw = some ⟨oc__law_draw, od__law_draw, .func (PySem.W.fnOf "_law_draw" "_law_draw" (defArgs (top 43)) (defBody (top 43)) (defScope (top 43)) .none kV__law_draw dc__law_draw pm__law_draw an__law_draw cd__law_draw ct__law_draw), sl__law_draw⟩)
    (c__law_draw : PySem.W.codeIn K cd__law_draw "_law_draw" = true)
    (k__law_draw : PySem.W.keepIn K (.ref f__law_draw) = true)
    (a__law_any : PySem.W.nsIn K mainGlobals "_law_any" = some (some (.ref f__law_any)))
    (l__law_any : K.lookup f__law_any = some ⟨oc__law_any, od__law_any, .func (PySem.W.fnOf "_law_any" "_law_any" (defArgs (top 44)) (defBody (top 44)) (defScope (top 44)) .none kV__law_any dc__law_any pm__law_any an__law_any cd__law_any ct__law_any), sl__law_any⟩)
    (c__law_any : PySem.W.codeIn K cd__law_any "_law_any" = true)
    (k__law_any : PySem.W.keepIn K (.ref f__law_any) = true)
    (a__law_mixed : PySem.W.nsIn K mainGlobals "_law_mixed" = some (some (.ref f__law_mixed)))
    (l__law_mixed : K.lookup f__law_mixed = some ⟨oc__law_mixed, od__law_mixed, .func (PySem.W.fnOf "_law_mixed" "_law_mixed" (defArgs (top 45)) (defBody (top 45)) (defScope (top 45)) .none kV__law_mixed dc__law_mixed pm__law_mixed an__law_mixed cd__law_mixed ct__law_mixed), sl__law_mixed⟩)
    (c__law_mixed : PySem.W.codeIn K cd__law_mixed "_law_mixed" = true)
    (k__law_mixed : PySem.W.keepIn K (.ref f__law_mixed) = true)
    (a__law_deed : PySem.W.nsIn K mainGlobals "_law_deed" = some (some (.ref f__law_deed)))
    (l__law_deed : K.lookup f__law_deed = some ⟨oc__law_deed, od__law_deed, .func (PySem.W.fnOf "_law_deed" "_law_deed" (defArgs (top 46)) (defBody (top 46)) (defScope (top 46)) .none kV__law_deed dc__law_deed pm__law_deed an__law_deed cd__law_deed ct__law_deed), sl__law_deed⟩)
    (c__law_deed : PySem.W.codeIn K cd__law_deed "_law_deed" = true)
    (k__law_deed : PySem.W.keepIn K (.ref f__law_deed) = true)
    (a__law_wheel : PySem.W.nsIn K mainGlobals "_law_wheel" = some (some (.ref f__law_wheel)))
    (l__law_wheel : K.lookup f__law_wheel = some ⟨oc__law_wheel, od__law_wheel, .func (PySem.W.fnOf "_law_wheel" "_law_wheel" (defArgs (top 47)) (defBody (top 47)) (defScope (top 47)) .none kV__law_wheel dc__law_wheel pm__law_wheel an__law_wheel cd__law_wheel ct__law_wheel), sl__law_wheel⟩)
    (c__law_wheel : PySem.W.codeIn K cd__law_wheel "_law_wheel" = true)
    (k__law_wheel : PySem.W.keepIn K (.ref f__law_wheel) = true)
    (a__law_spec : PySem.W.nsIn K mainGlobals "_law_spec" = some (some (.ref f__law_spec)))
    (l__law_spec : K.lookup f__law_spec = some ⟨oc__law_spec, od__law_spec, .func (PySem.W.fnOf "_law_spec" "_law_spec" (defArgs (top 48)) (defBody (top 48)) (defScope (top 48)) .none kV__law_spec dc__law_spec pm__law_spec an__law_spec cd__law_spec ct__law_spec), sl__law_spec⟩)
    (c__law_spec : PySem.W.codeIn K cd__law_spec "_law_spec" = true)
    (k__law_spec : PySem.W.keepIn K (.ref f__law_spec) = true)
    (a__law_names : PySem.W.nsIn K mainGlobals "_law_names" = some (some (.ref f__law_names)))
    (l__law_names : K.lookup f__law_names = some ⟨oc__law_names, od__law_names, .func (PySem.W.fnOf "_law_names" "_law_names" (defArgs (top 49)) (defBody (top 49)) (defScope (top 49)) .none kV__law_names dc__law_names pm__law_names an__law_names cd__law_names ct__law_names), sl__law_names⟩)
    (c__law_names : PySem.W.codeIn K cd__law_names "_law_names" = true)
    (k__law_names : PySem.W.keepIn K (.ref f__law_names) = true)
    (a__law_do : PySem.W.nsIn K mainGlobals "_law_do" = some (some (.ref f__law_do)))
    (l__law_do : K.lookup f__law_do = some ⟨oc__law_do, od__law_do, .func (PySem.W.fnOf "_law_do" "_law_do" (defArgs (top 50)) (defBody (top 50)) (defScope (top 50)) .none kV__law_do dc__law_do pm__law_do an__law_do cd__law_do ct__law_do), sl__law_do⟩)
    (c__law_do : PySem.W.codeIn K cd__law_do "_law_do" = true)
    (k__law_do : PySem.W.keepIn K (.ref f__law_do) = true)
    (a__law_first : PySem.W.nsIn K mainGlobals "_law_first" = some (some (.ref f__law_first)))
    (l__law_first : K.lookup f__law_first = some ⟨oc__law_first, od__law_first, .func (PySem.W.fnOf "_law_first" "_law_first" (defArgs (top 51)) (defBody (top 51)) (defScope (top 51)) .none kV__law_first dc__law_first pm__law_first an__law_first cd__law_first ct__law_first), sl__law_first⟩)
    (c__law_first : PySem.W.codeIn K cd__law_first "_law_first" = true)
    (k__law_first : PySem.W.keepIn K (.ref f__law_first) = true)
    (a__law_end : PySem.W.nsIn K mainGlobals "_law_end" = some (some (.ref f__law_end)))
    (l__law_end : K.lookup f__law_end = some ⟨oc__law_end, od__law_end, .func (PySem.W.fnOf "_law_end" "_law_end" (defArgs (top 52)) (defBody (top 52)) (defScope (top 52)) .none kV__law_end dc__law_end pm__law_end an__law_end cd__law_end ct__law_end), sl__law_end⟩)
    (c__law_end : PySem.W.codeIn K cd__law_end "_law_end" = true)
    (k__law_end : PySem.W.keepIn K (.ref f__law_end) = true)
    (a__law_told : PySem.W.nsIn K mainGlobals "_law_told" = some (some (.ref f__law_told)))
    (l__law_told : K.lookup f__law_told = some ⟨oc__law_told, od__law_told, .func (PySem.W.fnOf "_law_told" "_law_told" (defArgs (top 53)) (defBody (top 53)) (defScope (top 53)) .none kV__law_told dc__law_told pm__law_told an__law_told cd__law_told ct__law_told), sl__law_told⟩)
    (c__law_told : PySem.W.codeIn K cd__law_told "_law_told" = true)
    (k__law_told : PySem.W.keepIn K (.ref f__law_told) = true)
    (a__law_input : PySem.W.nsIn K mainGlobals "_law_input" = some (some (.ref f__law_input)))
    (l__law_input : K.lookup f__law_input = some ⟨oc__law_input, od__law_input, .func (PySem.W.fnOf "_law_input" "_law_input" (defArgs (top 54)) (defBody (top 54)) (defScope (top 54)) .none kV__law_input dc__law_input pm__law_input an__law_input cd__law_input ct__law_input), sl__law_input⟩)
    (c__law_input : PySem.W.codeIn K cd__law_input "_law_input" = true)
    (k__law_input : PySem.W.keepIn K (.ref f__law_input) = true)
    (a__law_deep : PySem.W.nsIn K mainGlobals "_law_deep" = some (some (.ref f__law_deep)))
    (l__law_deep : K.lookup f__law_deep = some ⟨oc__law_deep, od__law_deep, .func (PySem.W.fnOf "_law_deep" "_law_deep" (defArgs (top 55)) (defBody (top 55)) (defScope (top 55)) .none kV__law_deep dc__law_deep pm__law_deep an__law_deep cd__law_deep ct__law_deep), sl__law_deep⟩)
    (c__law_deep : PySem.W.codeIn K cd__law_deep "_law_deep" = true)
    (k__law_deep : PySem.W.keepIn K (.ref f__law_deep) = true)
    (a__law_clocked : PySem.W.nsIn K mainGlobals "_law_clocked" = some (some (.ref f__law_clocked)))
    (l__law_clocked : K.lookup f__law_clocked = some ⟨oc__law_clocked, od__law_clocked, .func (PySem.W.fnOf "_law_clocked" "_law_clocked" (defArgs (top 56)) (defBody (top 56)) (defScope (top 56)) .none kV__law_clocked dc__law_clocked pm__law_clocked an__law_clocked cd__law_clocked ct__law_clocked), sl__law_clocked⟩)
    (c__law_clocked : PySem.W.codeIn K cd__law_clocked "_law_clocked" = true)
    (k__law_clocked : PySem.W.keepIn K (.ref f__law_clocked) = true)
    (a__law_many : PySem.W.nsIn K mainGlobals "_law_many" = some (some (.ref f__law_many)))
    (l__law_many : K.lookup f__law_many = some ⟨oc__law_many, od__law_many, .func (PySem.W.fnOf "_law_many" "_law_many" (defArgs (top 57)) (defBody (top 57)) (defScope (top 57)) .none kV__law_many dc__law_many pm__law_many an__law_many cd__law_many ct__law_many), sl__law_many⟩)
    (c__law_many : PySem.W.codeIn K cd__law_many "_law_many" = true)
    (k__law_many : PySem.W.keepIn K (.ref f__law_many) = true)
    (a__law_word : PySem.W.nsIn K mainGlobals "_law_word" = some (some (.ref f__law_word)))
    (l__law_word : K.lookup f__law_word = some ⟨oc__law_word, od__law_word, .func (PySem.W.fnOf "_law_word" "_law_word" (defArgs (top 58)) (defBody (top 58)) (defScope (top 58)) .none kV__law_word dc__law_word pm__law_word an__law_word cd__law_word ct__law_word), sl__law_word⟩)
    (c__law_word : PySem.W.codeIn K cd__law_word "_law_word" = true)
    (k__law_word : PySem.W.keepIn K (.ref f__law_word) = true)
    (a_law : PySem.W.nsIn K mainGlobals "law" = some (some (.ref f_law)))
    (l_law : K.lookup f_law = some ⟨oc_law, od_law, .func (PySem.W.fnOf "law" "law" (defArgs (top 59)) (defBody (top 59)) (defScope (top 59)) .none kV_law dc_law pm_law an_law cd_law ct_law), sl_law⟩)
    (c_law : PySem.W.codeIn K cd_law "law" = true)
    (k_law : PySem.W.keepIn K (.ref f_law) = true)
    (h_RawProgram___eq__ : PySem.W.findIn K (.ref c_RawProgram) "__eq__" = some (some (.ref f_Program___eq__)))
    (en_Program : PySem.W.findIn K (.ref c_Program) "__ne__" = some (some (.builtin "object.__ne__")))
    (eo_Program : PySem.W.mroIn K c_Program (.type "object") = some true)
    (es_Program : PySem.W.notFirst K c_Program (.type "str") = true)
    (en_RawProgram : PySem.W.findIn K (.ref c_RawProgram) "__ne__" = some (some (.builtin "object.__ne__")))
    (eo_RawProgram : PySem.W.mroIn K c_RawProgram (.type "object") = some true)
    (es_RawProgram : PySem.W.notFirst K c_RawProgram (.type "str") = true)
    (nf_Program_Program : PySem.W.notFirst K c_Program (.ref c_Program) = true)
    (nf_RawProgram_Program : PySem.W.notFirst K c_RawProgram (.ref c_Program) = true)
    (nf_RawProgram_RawProgram : PySem.W.notFirst K c_RawProgram (.ref c_RawProgram) = true)
    (cf_Program : ClsF K c_Program)
    (cf_RawProgram : ClsF K c_RawProgram)
    (xf_BadProgram : ExcF K c_BadProgram)
    (xf_NoInput : ExcF K c_NoInput)
    (xf_NoName : ExcF K c_NoName)
    (xf_RoundError : ExcF K c_RoundError)
    (xi_NoInput : PySem.W.excIn K c_NoInput [.type "ValueError", .type "Exception", .type "BaseException", .type "object"] "ValueError.__new__" = true)
    (xi_NoName : PySem.W.excIn K c_NoName [.type "ValueError", .type "Exception", .type "BaseException", .type "object"] "ValueError.__new__" = true)
    (xi_RoundError : PySem.W.excIn K c_RoundError [.type "ValueError", .type "Exception", .type "BaseException", .type "object"] "ValueError.__new__" = true)
    (sb_Program_Program : PySem.W.subIn K (.ref c_Program) (.ref c_Program) = some true)
    (sb_Program_RawProgram : PySem.W.subIn K (.ref c_Program) (.ref c_RawProgram) = some false)
    (sb_RawProgram_Program : PySem.W.subIn K (.ref c_RawProgram) (.ref c_Program) = some true)
    (sb_RawProgram_RawProgram : PySem.W.subIn K (.ref c_RawProgram) (.ref c_RawProgram) = some true)
    (sx_BadProgram_BadProgram : PySem.W.subIn K (.ref c_BadProgram) (.ref c_BadProgram) = some true)
    (sx_BadProgram_NoInput : PySem.W.subIn K (.ref c_BadProgram) (.ref c_NoInput) = some false)
    (sx_BadProgram_NoName : PySem.W.subIn K (.ref c_BadProgram) (.ref c_NoName) = some false)
    (sx_BadProgram_RoundError : PySem.W.subIn K (.ref c_BadProgram) (.ref c_RoundError) = some true)
    (sx_NoInput_BadProgram : PySem.W.subIn K (.ref c_NoInput) (.ref c_BadProgram) = some false)
    (sx_NoInput_NoInput : PySem.W.subIn K (.ref c_NoInput) (.ref c_NoInput) = some true)
    (sx_NoInput_NoName : PySem.W.subIn K (.ref c_NoInput) (.ref c_NoName) = some false)
    (sx_NoInput_RoundError : PySem.W.subIn K (.ref c_NoInput) (.ref c_RoundError) = some true)
    (sx_NoName_BadProgram : PySem.W.subIn K (.ref c_NoName) (.ref c_BadProgram) = some false)
    (sx_NoName_NoInput : PySem.W.subIn K (.ref c_NoName) (.ref c_NoInput) = some false)
    (sx_NoName_NoName : PySem.W.subIn K (.ref c_NoName) (.ref c_NoName) = some true)
    (sx_NoName_RoundError : PySem.W.subIn K (.ref c_NoName) (.ref c_RoundError) = some true)
    (sx_RoundError_BadProgram : PySem.W.subIn K (.ref c_RoundError) (.ref c_BadProgram) = some false)
    (sx_RoundError_NoInput : PySem.W.subIn K (.ref c_RoundError) (.ref c_NoInput) = some false)
    (sx_RoundError_NoName : PySem.W.subIn K (.ref c_RoundError) (.ref c_NoName) = some false)
    (sx_RoundError_RoundError : PySem.W.subIn K (.ref c_RoundError) (.ref c_RoundError) = some true)
    (na_Program_block : PySem.W.findIn K (.ref c_Program) "block" = some none)
    (na_Program_given : PySem.W.findIn K (.ref c_Program) "given" = some none)
    (na_Program_told : PySem.W.findIn K (.ref c_Program) "told" = some none)
    (na_RawProgram_block : PySem.W.findIn K (.ref c_RawProgram) "block" = some none)
    (na_RawProgram_given : PySem.W.findIn K (.ref c_RawProgram) "given" = some none)
    (na_RawProgram_told : PySem.W.findIn K (.ref c_RawProgram) "told" = some none)
    (z_ValueError : PySem.W.nsIn K mainGlobals "ValueError" = some none)
    (z_abs : PySem.W.nsIn K mainGlobals "abs" = some none)
    (z_all : PySem.W.nsIn K mainGlobals "all" = some none)
    (z_bool : PySem.W.nsIn K mainGlobals "bool" = some none)
    (z_enumerate : PySem.W.nsIn K mainGlobals "enumerate" = some none)
    (z_int : PySem.W.nsIn K mainGlobals "int" = some none)
    (z_isinstance : PySem.W.nsIn K mainGlobals "isinstance" = some none)
    (z_len : PySem.W.nsIn K mainGlobals "len" = some none)
    (z_list : PySem.W.nsIn K mainGlobals "list" = some none)
    (z_range : PySem.W.nsIn K mainGlobals "range" = some none)
    (z_set : PySem.W.nsIn K mainGlobals "set" = some none)
    (z_sorted : PySem.W.nsIn K mainGlobals "sorted" = some none)
    (z_str : PySem.W.nsIn K mainGlobals "str" = some none)
    (z_sum : PySem.W.nsIn K mainGlobals "sum" = some none)
    (z_tuple : PySem.W.nsIn K mainGlobals "tuple" = some none)
    (z_zip : PySem.W.nsIn K mainGlobals "zip" = some none)
    (hn : PySem.W.specialIn K (.builtin "object.__class__") "__get__" = some (some (.builtin "getset_descriptor.__get__")))
    (ht : PySem.W.takesIn K (.builtin "object.__class__") = some true)
    (q_MOST_STATEMENTS : PySem.W.nsIn K mainGlobals "MOST_STATEMENTS" = some (some u_MOST_STATEMENTS))
    (r_MOST_STATEMENTS : RelV (.int 5000) u_MOST_STATEMENTS)
    (q_MOST_TOLD : PySem.W.nsIn K mainGlobals "MOST_TOLD" = some (some u_MOST_TOLD))
    (r_MOST_TOLD : RelV (.int 4) u_MOST_TOLD)
    : ∃ fd : FuncData, (∀ (s : Shared) (v : Value), BindsTo s fd ⟨[v], []⟩ [("_law_script", v)]) ∧ ∀ base : Heap, K.In base → base.Ns mainGlobals mg → FnOk l.prog w K mg base (L2.CX l.prog w) 8 fa fd ["_law_script"] (spLaw K) := by
  have e := hfa.symm.trans (PySem.W.mg_of X G a_law)
  cases e
  have tc : CTabOk K mg ctab := ctab_of (mg := mg) [("Program", ["Program"], c_Program), ("RawProgram", ["RawProgram", "Program"], c_RawProgram)] (List.forall_mem_cons.mpr ⟨⟨PySem.W.mg_of X G ac_Program, cf_Program.fact hn ht⟩, (List.forall_mem_cons.mpr ⟨⟨PySem.W.mg_of X G ac_RawProgram, cf_RawProgram.fact hn ht⟩, (fun _ h => nomatch h)⟩)⟩) (List.forall_mem_cons.mpr ⟨(List.forall_mem_cons.mpr ⟨((kit_sub cf_Program.ic cf_Program.ty sb_Program_Program sb_Program_Program).trans (congrArg some (show true = (["Program"] : List Str).contains "Program" from by decide +kernel))), (List.forall_mem_cons.mpr ⟨((kit_sub cf_RawProgram.ic cf_RawProgram.ty sb_RawProgram_RawProgram sb_Program_RawProgram).trans (congrArg some (show false = (["Program"] : List Str).contains "RawProgram" from by decide +kernel))), (fun _ h => nomatch h)⟩)⟩), (List.forall_mem_cons.mpr ⟨(List.forall_mem_cons.mpr ⟨((kit_sub cf_Program.ic cf_Program.ty sb_Program_Program sb_RawProgram_Program).trans (congrArg some (show true = (["RawProgram", "Program"] : List Str).contains "Program" from by decide +kernel))), (List.forall_mem_cons.mpr ⟨((kit_sub cf_RawProgram.ic cf_RawProgram.ty sb_RawProgram_RawProgram sb_RawProgram_RawProgram).trans (congrArg some (show true = (["RawProgram", "Program"] : List Str).contains "RawProgram" from by decide +kernel))), (fun _ h => nomatch h)⟩)⟩), (fun _ h => nomatch h)⟩)⟩)
  have te : ETabOk K mg etab := etab_of (mg := mg) [("RoundError", ["RoundError", "ValueError"], c_RoundError), ("BadProgram", ["BadProgram", "RoundError", "ValueError"], c_BadProgram), ("NoInput", ["NoInput", "RoundError", "ValueError"], c_NoInput), ("NoName", ["NoName", "RoundError", "ValueError"], c_NoName)] (List.forall_mem_cons.mpr ⟨⟨PySem.W.mg_of X G ac_RoundError, xf_RoundError.excC hn ht, xf_RoundError.ve⟩, (List.forall_mem_cons.mpr ⟨⟨PySem.W.mg_of X G ac_BadProgram, xf_BadProgram.excC hn ht, xf_BadProgram.ve⟩, (List.forall_mem_cons.mpr ⟨⟨PySem.W.mg_of X G ac_NoInput, xf_NoInput.excC hn ht, xf_NoInput.ve⟩, (List.forall_mem_cons.mpr ⟨⟨PySem.W.mg_of X G ac_NoName, xf_NoName.excC hn ht, xf_NoName.ve⟩, (fun _ h => nomatch h)⟩)⟩)⟩)⟩) (List.forall_mem_cons.mpr ⟨(List.forall_mem_cons.mpr ⟨(And.imp (fun z => z.trans (congrArg some (show true = (["RoundError", "ValueError"] : List Str).contains "RoundError" from by decide +kernel))) (fun z => z.trans (congrArg some (show true = (["RoundError", "ValueError"] : List Str).contains "RoundError" from by decide +kernel))) (ex_sub xf_RoundError sx_RoundError_RoundError sx_RoundError_RoundError)), (List.forall_mem_cons.mpr ⟨(And.imp (fun z => z.trans (congrArg some (show false = (["RoundError", "ValueError"] : List Str).contains "BadProgram" from by decide +kernel))) (fun z => z.trans (congrArg some (show false = (["RoundError", "ValueError"] : List Str).contains "BadProgram" from by decide +kernel))) (ex_sub xf_BadProgram sx_BadProgram_BadProgram sx_RoundError_BadProgram)), (List.forall_mem_cons.mpr ⟨(And.imp (fun z => z.trans (congrArg some (show false = (["RoundError", "ValueError"] : List Str).contains "NoInput" from by decide +kernel))) (fun z => z.trans (congrArg some (show false = (["RoundError", "ValueError"] : List Str).contains "NoInput" from by decide +kernel))) (ex_sub xf_NoInput sx_NoInput_NoInput sx_RoundError_NoInput)), (List.forall_mem_cons.mpr ⟨(And.imp (fun z => z.trans (congrArg some (show false = (["RoundError", "ValueError"] : List Str).contains "NoName" from by decide +kernel))) (fun z => z.trans (congrArg some (show false = (["RoundError", "ValueError"] : List Str).contains "NoName" from by decide +kernel))) (ex_sub xf_NoName sx_NoName_NoName sx_RoundError_NoName)), (fun _ h => nomatch h)⟩)⟩)⟩)⟩), (List.forall_mem_cons.mpr ⟨(List.forall_mem_cons.mpr ⟨(And.imp (fun z => z.trans (congrArg some (show true = (["BadProgram", "RoundError", "ValueError"] : List Str).contains "RoundError" from by decide +kernel))) (fun z => z.trans (congrArg some (show true = (["BadProgram", "RoundError", "ValueError"] : List Str).contains "RoundError" from by decide +kernel))) (ex_sub xf_RoundError sx_RoundError_RoundError sx_BadProgram_RoundError)), (List.forall_mem_cons.mpr ⟨(And.imp (fun z => z.trans (congrArg some (show true = (["BadProgram", "RoundError", "ValueError"] : List Str).contains "BadProgram" from by decide +kernel))) (fun z => z.trans (congrArg some (show true = (["BadProgram", "RoundError", "ValueError"] : List Str).contains "BadProgram" from by decide +kernel))) (ex_sub xf_BadProgram sx_BadProgram_BadProgram sx_BadProgram_BadProgram)), (List.forall_mem_cons.mpr ⟨(And.imp (fun z => z.trans (congrArg some (show false = (["BadProgram", "RoundError", "ValueError"] : List Str).contains "NoInput" from by decide +kernel))) (fun z => z.trans (congrArg some (show false = (["BadProgram", "RoundError", "ValueError"] : List Str).contains "NoInput" from by decide +kernel))) (ex_sub xf_NoInput sx_NoInput_NoInput sx_BadProgram_NoInput)), (List.forall_mem_cons.mpr ⟨(And.imp (fun z => z.trans (congrArg some (show false = (["BadProgram", "RoundError", "ValueError"] : List Str).contains "NoName" from by decide +kernel))) (fun z => z.trans (congrArg some (show false = (["BadProgram", "RoundError", "ValueError"] : List Str).contains "NoName" from by decide +kernel))) (ex_sub xf_NoName sx_NoName_NoName sx_BadProgram_NoName)), (fun _ h => nomatch h)⟩)⟩)⟩)⟩), (List.forall_mem_cons.mpr ⟨(List.forall_mem_cons.mpr ⟨(And.imp (fun z => z.trans (congrArg some (show true = (["NoInput", "RoundError", "ValueError"] : List Str).contains "RoundError" from by decide +kernel))) (fun z => z.trans (congrArg some (show true = (["NoInput", "RoundError", "ValueError"] : List Str).contains "RoundError" from by decide +kernel))) (ex_sub xf_RoundError sx_RoundError_RoundError sx_NoInput_RoundError)), (List.forall_mem_cons.mpr ⟨(And.imp (fun z => z.trans (congrArg some (show false = (["NoInput", "RoundError", "ValueError"] : List Str).contains "BadProgram" from by decide +kernel))) (fun z => z.trans (congrArg some (show false = (["NoInput", "RoundError", "ValueError"] : List Str).contains "BadProgram" from by decide +kernel))) (ex_sub xf_BadProgram sx_BadProgram_BadProgram sx_NoInput_BadProgram)), (List.forall_mem_cons.mpr ⟨(And.imp (fun z => z.trans (congrArg some (show true = (["NoInput", "RoundError", "ValueError"] : List Str).contains "NoInput" from by decide +kernel))) (fun z => z.trans (congrArg some (show true = (["NoInput", "RoundError", "ValueError"] : List Str).contains "NoInput" from by decide +kernel))) (ex_sub xf_NoInput sx_NoInput_NoInput sx_NoInput_NoInput)), (List.forall_mem_cons.mpr ⟨(And.imp (fun z => z.trans (congrArg some (show false = (["NoInput", "RoundError", "ValueError"] : List Str).contains "NoName" from by decide +kernel))) (fun z => z.trans (congrArg some (show false = (["NoInput", "RoundError", "ValueError"] : List Str).contains "NoName" from by decide +kernel))) (ex_sub xf_NoName sx_NoName_NoName sx_NoInput_NoName)), (fun _ h => nomatch h)⟩)⟩)⟩)⟩), (List.forall_mem_cons.mpr ⟨(List.forall_mem_cons.mpr ⟨(And.imp (fun z => z.trans (congrArg some (show true = (["NoName", "RoundError", "ValueError"] : List Str).contains "RoundError" from by decide +kernel))) (fun z => z.trans (congrArg some (show true = (["NoName", "RoundError", "ValueError"] : List Str).contains "RoundError" from by decide +kernel))) (ex_sub xf_RoundError sx_RoundError_RoundError sx_NoName_RoundError)), (List.forall_mem_cons.mpr ⟨(And.imp (fun z => z.trans (congrArg some (show false = (["NoName", "RoundError", "ValueError"] : List Str).contains "BadProgram" from by decide +kernel))) (fun z => z.trans (congrArg some (show false = (["NoName", "RoundError", "ValueError"] : List Str).contains "BadProgram" from by decide +kernel))) (ex_sub xf_BadProgram sx_BadProgram_BadProgram sx_NoName_BadProgram)), (List.forall_mem_cons.mpr ⟨(And.imp (fun z => z.trans (congrArg some (show false = (["NoName", "RoundError", "ValueError"] : List Str).contains "NoInput" from by decide +kernel))) (fun z => z.trans (congrArg some (show false = (["NoName", "RoundError", "ValueError"] : List Str).contains "NoInput" from by decide +kernel))) (ex_sub xf_NoInput sx_NoInput_NoInput sx_NoName_NoInput)), (List.forall_mem_cons.mpr ⟨(And.imp (fun z => z.trans (congrArg some (show true = (["NoName", "RoundError", "ValueError"] : List Str).contains "NoName" from by decide +kernel))) (fun z => z.trans (congrArg some (show true = (["NoName", "RoundError", "ValueError"] : List Str).contains "NoName" from by decide +kernel))) (ex_sub xf_NoName sx_NoName_NoName sx_NoName_NoName)), (fun _ h => nomatch h)⟩)⟩)⟩)⟩), (fun _ h => nomatch h)⟩)⟩)⟩)⟩)
  have T : Tx K mg (Ad.mk f_is_integer f_is_number f_is_name f_are_names f_are_numbers f_check_input f_is_deed f_is_round f_wrong_place f_size_of f_Program___init__ f_Program___eq__ f_RawProgram___init__ f_deeds_in f_names_of f_names f_clocked f_with_clock f_raw_push f_source_number f_raw_pushed f_raw_after f_raw_times f_first_numbers f_statement_done f_parts f_raw_last f_raw_results f_results f_deeds f__law_pot f__law_draw f__law_any f__law_mixed f__law_deed f__law_wheel f__law_spec f__law_names f__law_do f__law_first f__law_end f__law_told f__law_input f__law_deep f__law_clocked f__law_many f__law_word fa c_BadProgram c_NoInput c_NoName c_Program c_RawProgram c_RoundError) := {
    g_BadProgram := PySem.W.mg_of X G ac_BadProgram
    g_NoInput := PySem.W.mg_of X G ac_NoInput
    g_NoName := PySem.W.mg_of X G ac_NoName
    g_Program := PySem.W.mg_of X G ac_Program
    g_RawProgram := PySem.W.mg_of X G ac_RawProgram
    g_RoundError := PySem.W.mg_of X G ac_RoundError
    g__law_any := PySem.W.mg_of X G a__law_any
    g__law_clocked := PySem.W.mg_of X G a__law_clocked
    g__law_deed := PySem.W.mg_of X G a__law_deed
    g__law_deep := PySem.W.mg_of X G a__law_deep
    g__law_do := PySem.W.mg_of X G a__law_do
    g__law_draw := PySem.W.mg_of X G a__law_draw
    g__law_end := PySem.W.mg_of X G a__law_end
    g__law_first := PySem.W.mg_of X G a__law_first
    g__law_input := PySem.W.mg_of X G a__law_input
    g__law_many := PySem.W.mg_of X G a__law_many
    g__law_mixed := PySem.W.mg_of X G a__law_mixed
    g__law_names := PySem.W.mg_of X G a__law_names
    g__law_pot := PySem.W.mg_of X G a__law_pot
    g__law_spec := PySem.W.mg_of X G a__law_spec
    g__law_told := PySem.W.mg_of X G a__law_told
    g__law_wheel := PySem.W.mg_of X G a__law_wheel
    g__law_word := PySem.W.mg_of X G a__law_word
    g_are_names := PySem.W.mg_of X G a_are_names
    g_are_numbers := PySem.W.mg_of X G a_are_numbers
    g_check_input := PySem.W.mg_of X G a_check_input
    g_clocked := PySem.W.mg_of X G a_clocked
    g_deeds := PySem.W.mg_of X G a_deeds
    g_deeds_in := PySem.W.mg_of X G a_deeds_in
    g_first_numbers := PySem.W.mg_of X G a_first_numbers
    g_is_deed := PySem.W.mg_of X G a_is_deed
    g_is_integer := PySem.W.mg_of X G a_is_integer
    g_is_name := PySem.W.mg_of X G a_is_name
    g_is_number := PySem.W.mg_of X G a_is_number
    g_is_round := PySem.W.mg_of X G a_is_round
    g_names := PySem.W.mg_of X G a_names
    g_names_of := PySem.W.mg_of X G a_names_of
    g_parts := PySem.W.mg_of X G a_parts
    g_raw_after := PySem.W.mg_of X G a_raw_after
    g_raw_last := PySem.W.mg_of X G a_raw_last
    g_raw_push := PySem.W.mg_of X G a_raw_push
    g_raw_pushed := PySem.W.mg_of X G a_raw_pushed
    g_raw_results := PySem.W.mg_of X G a_raw_results
    g_raw_times := PySem.W.mg_of X G a_raw_times
    g_results := PySem.W.mg_of X G a_results
    g_size_of := PySem.W.mg_of X G a_size_of
    g_source_number := PySem.W.mg_of X G a_source_number
    g_statement_done := PySem.W.mg_of X G a_statement_done
    g_with_clock := PySem.W.mg_of X G a_with_clock
    g_wrong_place := PySem.W.mg_of X G a_wrong_place
    g_MOST_STATEMENTS := ⟨_, PySem.W.mg_of X G q_MOST_STATEMENTS, r_MOST_STATEMENTS⟩
    g_MOST_TOLD := ⟨_, PySem.W.mg_of X G q_MOST_TOLD, r_MOST_TOLD⟩
    n_ValueError := PySem.W.mg_none_of X G z_ValueError
    n_abs := PySem.W.mg_none_of X G z_abs
    n_all := PySem.W.mg_none_of X G z_all
    n_bool := PySem.W.mg_none_of X G z_bool
    n_enumerate := PySem.W.mg_none_of X G z_enumerate
    n_int := PySem.W.mg_none_of X G z_int
    n_isinstance := PySem.W.mg_none_of X G z_isinstance
    n_len := PySem.W.mg_none_of X G z_len
    n_list := PySem.W.mg_none_of X G z_list
    n_range := PySem.W.mg_none_of X G z_range
    n_set := PySem.W.mg_none_of X G z_set
    n_sorted := PySem.W.mg_none_of X G z_sorted
    n_str := PySem.W.mg_none_of X G z_str
    n_sum := PySem.W.mg_none_of X G z_sum
    n_tuple := PySem.W.mg_none_of X G z_tuple
    n_zip := PySem.W.mg_none_of X G z_zip
    f_block := fld_of [("Program", c_Program), ("RawProgram", c_RawProgram)] (fun c hc => hc) (List.forall_mem_cons.mpr ⟨⟨PySem.W.mg_of X G ac_Program, cf_Program.cls, na_Program_block⟩, (List.forall_mem_cons.mpr ⟨⟨PySem.W.mg_of X G ac_RawProgram, cf_RawProgram.cls, na_RawProgram_block⟩, (fun _ h => nomatch h)⟩)⟩)
    f_given := fld_of [("Program", c_Program), ("RawProgram", c_RawProgram)] (fun c hc => hc) (List.forall_mem_cons.mpr ⟨⟨PySem.W.mg_of X G ac_Program, cf_Program.cls, na_Program_given⟩, (List.forall_mem_cons.mpr ⟨⟨PySem.W.mg_of X G ac_RawProgram, cf_RawProgram.cls, na_RawProgram_given⟩, (fun _ h => nomatch h)⟩)⟩)
    f_told := fld_of [("Program", c_Program), ("RawProgram", c_RawProgram)] (fun c hc => hc) (List.forall_mem_cons.mpr ⟨⟨PySem.W.mg_of X G ac_Program, cf_Program.cls, na_Program_told⟩, (List.forall_mem_cons.mpr ⟨⟨PySem.W.mg_of X G ac_RawProgram, cf_RawProgram.cls, na_RawProgram_told⟩, (fun _ h => nomatch h)⟩)⟩)
    tc := tc
    te := te
    mk_Program := ⟨cf_Program.mks, a_Program___init__, i_Program___init__, cf_Program.kp⟩
    mk_RawProgram := ⟨cf_RawProgram.mks, a_RawProgram___init__, i_RawProgram___init__, cf_RawProgram.kp⟩
    xi_NoInput := xi_NoInput
    xk_NoInput := xf_NoInput.xk
    xs_NoInput := xf_NoInput.xs
    xt_NoInput := xf_NoInput.xt
    xi_NoName := xi_NoName
    xk_NoName := xf_NoName.xk
    xs_NoName := xf_NoName.xs
    xt_NoName := xf_NoName.xt
    xi_RoundError := xi_RoundError
    xk_RoundError := xf_RoundError.xk
    xs_RoundError := xf_RoundError.xs
    xt_RoundError := xf_RoundError.xt
    eq_Program := ⟨a_Program___eq__, i_Program___eq__, en_Program, eo_Program⟩
    es_Program := es_Program
    eq_RawProgram := ⟨h_RawProgram___eq__, i_Program___eq__, en_RawProgram, eo_RawProgram⟩
    es_RawProgram := es_RawProgram
    nf_Program_Program := nf_Program_Program
    nf_RawProgram_Program := nf_RawProgram_Program
    nf_RawProgram_RawProgram := nf_RawProgram_RawProgram }
  exact ⟨_, fun s v => .of_eq rfl, fun base _ _ => chain T (fun_mk (st := (top 6)) l_is_integer c_is_integer k_is_integer) (fun_mk (st := (top 7)) l_is_number c_is_number k_is_number) (fun_mk (st := (top 8)) l_is_name c_is_name k_is_name) (fun_mk (st := (top 9)) l_are_names c_are_names k_are_names) (fun_mk (st := (top 10)) l_are_numbers c_are_numbers k_are_numbers) (fun_mk (st := (top 11)) l_check_input c_check_input k_check_input) (fun_mk (st := (top 14)) l_is_deed c_is_deed k_is_deed) (fun_mk (st := (top 15)) l_is_round c_is_round k_is_round) (fun_mk (st := (top 16)) l_wrong_place c_wrong_place k_wrong_place) (fun_mk (st := (top 17)) l_size_of c_size_of k_size_of) (fun_mk (st := (inClass (top 18) 0)) l_Program___init__ c_Program___init__ k_Program___init__) (fun_mk (st := (inClass (top 18) 1)) l_Program___eq__ c_Program___eq__ k_Program___eq__) (fun_mk (st := (inClass (top 19) 0)) l_RawProgram___init__ c_RawProgram___init__ k_RawProgram___init__) (fun_mk (st := (top 20)) l_deeds_in c_deeds_in k_deeds_in) (fun_mk (st := (top 21)) l_names_of c_names_of k_names_of) (fun_mk (st := (top 22)) l_names c_names k_names) (fun_mk (st := (top 23)) l_clocked c_clocked k_clocked) (fun_mk (st := (top 26)) l_with_clock c_with_clock k_with_clock) (fun_mk (st := (top 28)) l_raw_push c_raw_push k_raw_push) (fun_mk (st := (top 29)) l_source_number c_source_number k_source_number) (fun_mk (st := (top 30)) l_raw_pushed c_raw_pushed k_raw_pushed) (fun_mk (st := (top 31)) l_raw_after c_raw_after k_raw_after) (fun_mk (st := (top 32)) l_raw_times c_raw_times k_raw_times) (fun_mk (st := (top 34)) l_first_numbers c_first_numbers k_first_numbers) (fun_mk (st := (top 35)) l_statement_done c_statement_done k_statement_done) (fun_mk (st := (top 36)) l_parts c_parts k_parts) (fun_mk (st := (top 37)) l_raw_last c_raw_last k_raw_last) (fun_mk (st := (top 38)) l_raw_results c_raw_results k_raw_results) (fun_mk (st := (top 39)) l_results c_results k_results) (fun_mk (st := (top 40)) l_deeds c_deeds k_deeds) (fun_mk (st := (top 42)) l__law_pot c__law_pot k__law_pot) (fun_mk (st := (top 43)) l__law_draw c__law_draw k__law_draw) (fun_mk (st := (top 44)) l__law_any c__law_any k__law_any) (fun_mk (st := (top 45)) l__law_mixed c__law_mixed k__law_mixed) (fun_mk (st := (top 46)) l__law_deed c__law_deed k__law_deed) (fun_mk (st := (top 47)) l__law_wheel c__law_wheel k__law_wheel) (fun_mk (st := (top 48)) l__law_spec c__law_spec k__law_spec) (fun_mk (st := (top 49)) l__law_names c__law_names k__law_names) (fun_mk (st := (top 50)) l__law_do c__law_do k__law_do) (fun_mk (st := (top 51)) l__law_first c__law_first k__law_first) (fun_mk (st := (top 52)) l__law_end c__law_end k__law_end) (fun_mk (st := (top 53)) l__law_told c__law_told k__law_told) (fun_mk (st := (top 54)) l__law_input c__law_input k__law_input) (fun_mk (st := (top 55)) l__law_deep c__law_deep k__law_deep) (fun_mk (st := (top 56)) l__law_clocked c__law_clocked k__law_clocked) (fun_mk (st := (top 57)) l__law_many c__law_many k__law_many) (fun_mk (st := (top 58)) l__law_word c__law_word k__law_word) (fun_mk (st := (top 59)) l_law c_law k_law) hk⟩
end
theorem walk {l : PySem.W.OpenLaw} {q : Program} {loose : List Str} {XP : (Str → Option Value) → Heap → Prop} {YP : World → Heap → Prop} {d : DefRec} {K : Params → PySem.W.Frag} (hn : l.most = some 63) (hdf : d.params.defaults = [])
    (hY : ∀ (w : World) (h : Heap), YP w h → (K w.params).In h)
    (F : ∀ (w : World) (mg : Str → Option Value) (fa : Addr) (h : Heap), (K w.params).In h → h.Ns mainGlobals mg → mg d.name = some (.ref fa) →
      ∃ fd : FuncData, (∀ (s : Shared) (u : Value), BindsTo s fd ⟨[u], []⟩ [("_law_script", u)]) ∧ ∀ base : Heap, (K w.params).In base → base.Ns mainGlobals mg → FnOk l.prog w (K w.params) mg base (L2.CX l.prog w) 8 fa fd ["_law_script"] (spLaw (K w.params))) :
    PySem.W.WalkO q loose XP YP l.row.toRowW d [] (fun f vs => PySem.call f vs) :=
  L2.walk_of (n := 63) (k := 8) (x := "_law_script") (CX := fun w => L2.CX l.prog w) (sp := fun w => spLaw (K w.params)) hn (by decide) hdf ⟨rfl, by decide, by decide⟩ hY F (fun _ _ a ns hl _ hS => ⟨a, ns, rfl, hS, hl, fun _ => rfl⟩) fun _ _ _ _ _ ⟨_, _, _, _, _, _, _, _, _, _, _, _, z⟩ => z
end LW
end

section
open PySem PySem.W PyProof.Rows
set_option maxRecDepth 100000 in
set_option maxHeartbeats 0 in
theorem PySem.Challenge.cw_flatrounds_k85_whole_clocks_holds : PySem.Challenge.rw_flatrounds_k85_whole_clocks.Holds := by
  w_on; o_law; k_head; (case hw => w_witness2)
  k_fill
  refine LW.walk (l := PySem.Challenge.rw_flatrounds_k85_whole_clocks) rfl rfl (fun w h Y => PySem.W.kIn_of Y) ?F
  case F =>
    intro w mg fa h KX G hmg
    refine' LW.all_mk LW.keeps KX G hmg ?ac_BadProgram ?ac_NoInput ?ac_NoName ?ac_Program ?ac_RawProgram ?ac_RoundError ?a_is_integer ?l_is_integer ?c_is_integer ?k_is_integer ?a_is_number ?l_is_number ?c_is_number ?k_is_number ?a_is_name ?l_is_name ?c_is_name ?k_is_name ?a_are_names ?l_are_names ?c_are_names ?k_are_names ?a_are_numbers ?l_are_numbers ?c_are_numbers ?k_are_numbers ?a_check_input ?l_check_input ?c_check_input ?k_check_input ?a_is_deed ?l_is_deed ?c_is_deed ?k_is_deed ?a_is_round ?l_is_round ?c_is_round ?k_is_round ?a_wrong_place ?l_wrong_place ?c_wrong_place ?k_wrong_place ?a_size_of ?l_size_of ?c_size_of ?k_size_of ?a_Program___init__ ?i_Program___init__ ?l_Program___init__ ?c_Program___init__ ?k_Program___init__ ?a_Program___eq__ ?i_Program___eq__ ?l_Program___eq__ ?c_Program___eq__ ?k_Program___eq__ ?a_RawProgram___init__ ?i_RawProgram___init__ ?l_RawProgram___init__ ?c_RawProgram___init__ ?k_RawProgram___init__ ?a_deeds_in ?l_deeds_in ?c_deeds_in ?k_deeds_in ?a_names_of ?l_names_of ?c_names_of ?k_names_of ?a_names ?l_names ?c_names ?k_names ?a_clocked ?l_clocked ?c_clocked ?k_clocked ?a_with_clock ?l_with_clock ?c_with_clock ?k_with_clock ?a_raw_push ?l_raw_push ?c_raw_push ?k_raw_push ?a_source_number ?l_source_number ?c_source_number ?k_source_number ?a_raw_pushed ?l_raw_pushed ?c_raw_pushed ?k_raw_pushed ?a_raw_after ?l_raw_after ?c_raw_after ?k_raw_after ?a_raw_times ?l_raw_times ?c_raw_times ?k_raw_times ?a_first_numbers ?l_first_numbers ?c_first_numbers ?k_first_numbers ?a_statement_done ?l_statement_done ?c_statement_done ?k_statement_done ?a_parts ?l_parts ?c_parts ?k_parts ?a_raw_last ?l_raw_last ?c_raw_last ?k_raw_last ?a_raw_results ?l_raw_results ?c_raw_results ?k_raw_results ?a_results ?l_results ?c_results ?k_results ?a_deeds ?l_deeds ?c_deeds ?k_deeds ?a__law_pot ?l__law_pot ?c__law_pot ?k__law_pot ?a__law_draw ?l__law_draw ?c__law_draw ?k__law_draw ?a__law_any ?l__law_any ?c__law_any ?k__law_any ?a__law_mixed ?l__law_mixed ?c__law_mixed ?k__law_mixed ?a__law_deed ?l__law_deed ?c__law_deed ?k__law_deed ?a__law_wheel ?l__law_wheel ?c__law_wheel ?k__law_wheel ?a__law_spec ?l__law_spec ?c__law_spec ?k__law_spec ?a__law_names ?l__law_names ?c__law_names ?k__law_names ?a__law_do ?l__law_do ?c__law_do ?k__law_do ?a__law_first ?l__law_first ?c__law_first ?k__law_first ?a__law_end ?l__law_end ?c__law_end ?k__law_end ?a__law_told ?l__law_told ?c__law_told ?k__law_told ?a__law_input ?l__law_input ?c__law_input ?k__law_input ?a__law_deep ?l__law_deep ?c__law_deep ?k__law_deep ?a__law_clocked ?l__law_clocked ?c__law_clocked ?k__law_clocked ?a__law_many ?l__law_many ?c__law_many ?k__law_many ?a__law_word ?l__law_word ?c__law_word ?k__law_word ?a_law ?l_law ?c_law ?k_law ?h_RawProgram___eq__ ?en_Program ?eo_Program ?es_Program ?en_RawProgram ?eo_RawProgram ?es_RawProgram ?nf_Program_Program ?nf_RawProgram_Program ?nf_RawProgram_RawProgram ?cf_Program ?cf_RawProgram ?xf_BadProgram ?xf_NoInput ?xf_NoName ?xf_RoundError ?xi_NoInput ?xi_NoName ?xi_RoundError ?sb_Program_Program ?sb_Program_RawProgram ?sb_RawProgram_Program ?sb_RawProgram_RawProgram ?sx_BadProgram_BadProgram ?sx_BadProgram_NoInput ?sx_BadProgram_NoName ?sx_BadProgram_RoundError ?sx_NoInput_BadProgram ?sx_NoInput_NoInput ?sx_NoInput_NoName ?sx_NoInput_RoundError ?sx_NoName_BadProgram ?sx_NoName_NoInput ?sx_NoName_NoName ?sx_NoName_RoundError ?sx_RoundError_BadProgram ?sx_RoundError_NoInput ?sx_RoundError_NoName ?sx_RoundError_RoundError ?na_Program_block ?na_Program_given ?na_Program_told ?na_RawProgram_block ?na_RawProgram_given ?na_RawProgram_told ?z_ValueError ?z_abs ?z_all ?z_bool ?z_enumerate ?z_int ?z_isinstance ?z_len ?z_list ?z_range ?z_set ?z_sorted ?z_str ?z_sum ?z_tuple ?z_zip ?hn ?ht ?q_MOST_STATEMENTS ?r_MOST_STATEMENTS ?q_MOST_TOLD ?r_MOST_TOLD
    (case ac_BadProgram => k_is)
    (case ac_NoInput => k_is)
    (case ac_NoName => k_is)
    (case ac_Program => k_is)
    (case ac_RawProgram => k_is)
    (case ac_RoundError => k_is)
    (case a_is_integer => k_is)
    (case l_is_integer => k_is)
    (case c_is_integer => k_is)
    (case k_is_integer => k_is)
    (case a_is_number => k_is)
    (case l_is_number => k_is)
    (case c_is_number => k_is)
    (case k_is_number => k_is)
    (case a_is_name => k_is)
    (case l_is_name => k_is)
    (case c_is_name => k_is)
    (case k_is_name => k_is)
    (case a_are_names => k_is)
    (case l_are_names => k_is)
    (case c_are_names => k_is)
    (case k_are_names => k_is)
    (case a_are_numbers => k_is)
    (case l_are_numbers => k_is)
    (case c_are_numbers => k_is)
    (case k_are_numbers => k_is)
    (case a_check_input => k_is)
    (case l_check_input => k_is)
    (case c_check_input => k_is)
    (case k_check_input => k_is)
    (case a_is_deed => k_is)
    (case l_is_deed => k_is)
    (case c_is_deed => k_is)
    (case k_is_deed => k_is)
    (case a_is_round => k_is)
    (case l_is_round => k_is)
    (case c_is_round => k_is)
    (case k_is_round => k_is)
    (case a_wrong_place => k_is)
    (case l_wrong_place => k_is)
    (case c_wrong_place => k_is)
    (case k_wrong_place => k_is)
    (case a_size_of => k_is)
    (case l_size_of => k_is)
    (case c_size_of => k_is)
    (case k_size_of => k_is)
    (case a_Program___init__ => k_is)
    (case i_Program___init__ => k_is)
    (case l_Program___init__ => k_is)
    (case c_Program___init__ => k_is)
    (case k_Program___init__ => k_is)
    (case a_Program___eq__ => k_is)
    (case i_Program___eq__ => k_is)
    (case l_Program___eq__ => k_is)
    (case c_Program___eq__ => k_is)
    (case k_Program___eq__ => k_is)
    (case a_RawProgram___init__ => k_is)
    (case i_RawProgram___init__ => k_is)
    (case l_RawProgram___init__ => k_is)
    (case c_RawProgram___init__ => k_is)
    (case k_RawProgram___init__ => k_is)
    (case a_deeds_in => k_is)
    (case l_deeds_in => k_is)
    (case c_deeds_in => k_is)
    (case k_deeds_in => k_is)
    (case a_names_of => k_is)
    (case l_names_of => k_is)
    (case c_names_of => k_is)
    (case k_names_of => k_is)
    (case a_names => k_is)
    (case l_names => k_is)
    (case c_names => k_is)
    (case k_names => k_is)
    (case a_clocked => k_is)
    (case l_clocked => k_is)
    (case c_clocked => k_is)
    (case k_clocked => k_is)
    (case a_with_clock => k_is)
    (case l_with_clock => k_is)
    (case c_with_clock => k_is)
    (case k_with_clock => k_is)
    (case a_raw_push => k_is)
    (case l_raw_push => k_is)
    (case c_raw_push => k_is)
    (case k_raw_push => k_is)
    (case a_source_number => k_is)
    (case l_source_number => k_is)
    (case c_source_number => k_is)
    (case k_source_number => k_is)
    (case a_raw_pushed => k_is)
    (case l_raw_pushed => k_is)
    (case c_raw_pushed => k_is)
    (case k_raw_pushed => k_is)
    (case a_raw_after => k_is)
    (case l_raw_after => k_is)
    (case c_raw_after => k_is)
    (case k_raw_after => k_is)
    (case a_raw_times => k_is)
    (case l_raw_times => k_is)
    (case c_raw_times => k_is)
    (case k_raw_times => k_is)
    (case a_first_numbers => k_is)
    (case l_first_numbers => k_is)
    (case c_first_numbers => k_is)
    (case k_first_numbers => k_is)
    (case a_statement_done => k_is)
    (case l_statement_done => k_is)
    (case c_statement_done => k_is)
    (case k_statement_done => k_is)
    (case a_parts => k_is)
    (case l_parts => k_is)
    (case c_parts => k_is)
    (case k_parts => k_is)
    (case a_raw_last => k_is)
    (case l_raw_last => k_is)
    (case c_raw_last => k_is)
    (case k_raw_last => k_is)
    (case a_raw_results => k_is)
    (case l_raw_results => k_is)
    (case c_raw_results => k_is)
    (case k_raw_results => k_is)
    (case a_results => k_is)
    (case l_results => k_is)
    (case c_results => k_is)
    (case k_results => k_is)
    (case a_deeds => k_is)
    (case l_deeds => k_is)
    (case c_deeds => k_is)
    (case k_deeds => k_is)
    (case a__law_pot => k_is)
    (case l__law_pot => k_is)
    (case c__law_pot => k_is)
    (case k__law_pot => k_is)
    (case a__law_draw => k_is)
    (case l__law_draw => k_is)
    (case c__law_draw => k_is)
    (case k__law_draw => k_is)
    (case a__law_any => k_is)
    (case l__law_any => k_is)
    (case c__law_any => k_is)
    (case k__law_any => k_is)
    (case a__law_mixed => k_is)
    (case l__law_mixed => k_is)
    (case c__law_mixed => k_is)
    (case k__law_mixed => k_is)
    (case a__law_deed => k_is)
    (case l__law_deed => k_is)
    (case c__law_deed => k_is)
    (case k__law_deed => k_is)
    (case a__law_wheel => k_is)
    (case l__law_wheel => k_is)
    (case c__law_wheel => k_is)
    (case k__law_wheel => k_is)
    (case a__law_spec => k_is)
    (case l__law_spec => k_is)
    (case c__law_spec => k_is)
    (case k__law_spec => k_is)
    (case a__law_names => k_is)
    (case l__law_names => k_is)
    (case c__law_names => k_is)
    (case k__law_names => k_is)
    (case a__law_do => k_is)
    (case l__law_do => k_is)
    (case c__law_do => k_is)
    (case k__law_do => k_is)
    (case a__law_first => k_is)
    (case l__law_first => k_is)
    (case c__law_first => k_is)
    (case k__law_first => k_is)
    (case a__law_end => k_is)
    (case l__law_end => k_is)
    (case c__law_end => k_is)
    (case k__law_end => k_is)
    (case a__law_told => k_is)
    (case l__law_told => k_is)
    (case c__law_told => k_is)
    (case k__law_told => k_is)
    (case a__law_input => k_is)
    (case l__law_input => k_is)
    (case c__law_input => k_is)
    (case k__law_input => k_is)
    (case a__law_deep => k_is)
    (case l__law_deep => k_is)
    (case c__law_deep => k_is)
    (case k__law_deep => k_is)
    (case a__law_clocked => k_is)
    (case l__law_clocked => k_is)
    (case c__law_clocked => k_is)
    (case k__law_clocked => k_is)
    (case a__law_many => k_is)
    (case l__law_many => k_is)
    (case c__law_many => k_is)
    (case k__law_many => k_is)
    (case a__law_word => k_is)
    (case l__law_word => k_is)
    (case c__law_word => k_is)
    (case k__law_word => k_is)
    (case a_law => k_is)
    (case l_law => k_is)
    (case c_law => k_is)
    (case k_law => k_is)
    (case h_RawProgram___eq__ => k_is)
    (case en_Program => k_is)
    (case eo_Program => k_is)
    (case es_Program => k_is)
    (case en_RawProgram => k_is)
    (case eo_RawProgram => k_is)
    (case es_RawProgram => k_is)
    (case nf_Program_Program => k_is)
    (case nf_RawProgram_Program => k_is)
    (case nf_RawProgram_RawProgram => k_is)
    (case cf_Program => (constructor <;> k_is))
    (case cf_RawProgram => (constructor <;> k_is))
    (case xf_BadProgram => (constructor <;> k_is))
    (case xf_NoInput => (constructor <;> k_is))
    (case xf_NoName => (constructor <;> k_is))
    (case xf_RoundError => (constructor <;> k_is))
    (case xi_NoInput => k_exc)
    (case xi_NoName => k_exc)
    (case xi_RoundError => k_exc)
    (case sb_Program_Program => k_is)
    (case sb_Program_RawProgram => k_is)
    (case sb_RawProgram_Program => k_is)
    (case sb_RawProgram_RawProgram => k_is)
    (case sx_BadProgram_BadProgram => k_is)
    (case sx_BadProgram_NoInput => k_is)
    (case sx_BadProgram_NoName => k_is)
    (case sx_BadProgram_RoundError => k_is)
    (case sx_NoInput_BadProgram => k_is)
    (case sx_NoInput_NoInput => k_is)
    (case sx_NoInput_NoName => k_is)
    (case sx_NoInput_RoundError => k_is)
    (case sx_NoName_BadProgram => k_is)
    (case sx_NoName_NoInput => k_is)
    (case sx_NoName_NoName => k_is)
    (case sx_NoName_RoundError => k_is)
    (case sx_RoundError_BadProgram => k_is)
    (case sx_RoundError_NoInput => k_is)
    (case sx_RoundError_NoName => k_is)
    (case sx_RoundError_RoundError => k_is)
    (case na_Program_block => k_is)
    (case na_Program_given => k_is)
    (case na_Program_told => k_is)
    (case na_RawProgram_block => k_is)
    (case na_RawProgram_given => k_is)
    (case na_RawProgram_told => k_is)
    (case z_ValueError => k_is)
    (case z_abs => k_is)
    (case z_all => k_is)
    (case z_bool => k_is)
    (case z_enumerate => k_is)
    (case z_int => k_is)
    (case z_isinstance => k_is)
    (case z_len => k_is)
    (case z_list => k_is)
    (case z_range => k_is)
    (case z_set => k_is)
    (case z_sorted => k_is)
    (case z_str => k_is)
    (case z_sum => k_is)
    (case z_tuple => k_is)
    (case z_zip => k_is)
    (case hn => k_is)
    (case ht => k_is)
    (case q_MOST_STATEMENTS => k_is)
    (case r_MOST_STATEMENTS => exact ⟨_, rfl⟩)
    (case q_MOST_TOLD => k_is)
    (case r_MOST_TOLD => exact ⟨_, rfl⟩)
end
