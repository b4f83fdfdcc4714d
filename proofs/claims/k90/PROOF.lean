import PyProof.Rows.All
import Wide.All
import OpenK.AllK
import Wide.FinOn
import HandS.ForMost
import HandS.ForExc
import HandS.Gcd
import HandS.Property
import HandS.MakeKwOnly
import HandS.MakeKw
import HandS.SortKw
import HandS.Walk
import KE.DataMinMax
import KE.GoesEnum
import HandS.Conv
import HandS.WordsExc
import HandS.ExcInit
import HandS.Nested
import HandS.TryOnly
import KE.KExcSuper
import HandS.ExcIs
import KE.SortData
import HandS.SortInts
import HandS.Codes
import PySem.Challenge.RW_neverlate_k90_whole_parts_tell_tasks_apa
set_option Elab.async false
set_option linter.all false
set_option maxRecDepth 100000
set_option maxHeartbeats 4000000
namespace Pu
open PySem PySem.Spec PyProof.Rows L2

/-! ### data -/
/-- a value as data: a tree -/
inductive D where
  | non | bl (b : Bool) | int (i : Int) | str (s : Str) | lst (xs : List D) | tup (xs : List D) | obj (C : Nat) (fs : List (Str × D)) | scr (ns : List Int)
/-- the written part, and where the program's own classes stand, by number -/
structure Kc where
  K : PySem.W.Frag
  cm : Nat → Addr

mutual
/-- v stands for d, by the part F of the heap that never changes -/
inductive Rep (K : Kc) (F : Hp) : V → D → Prop
  | non : Rep K F .non .non
  | bl (b : Bool) : Rep K F (.bl b) (.bl b)
  | int (i : Int) : Rep K F (.int i) (.int i)
  | str (x : Str) : Rep K F (.str x) (.str x)
  | lst {a : Addr} {vs : List V} {ds : List D} : F a = some (.lst vs) → Reps K F vs ds → Rep K F (.ref a) (.lst ds)
  | tup {a : Addr} {vs : List V} {ds : List D} : SqT K.K F a vs → Reps K F vs ds → Rep K F (.ref a) (.tup ds)
  | obj {a dx : Addr} {C : Nat} {fv : List (Str × V)} {fs : List (Str × D)} : F a = some (.ins (K.cm C) dx fv) → RepF K F fv fs → Rep K F (.ref a) (.obj C fs)
  | scr {a : Addr} {ns : List Int} : SqL K.K F a (ns.map V.int) → Rep K F (.ref a) (.scr ns)
inductive Reps (K : Kc) (F : Hp) : List V → List D → Prop
  | nil : Reps K F [] []
  | cons {v : V} {vs : List V} {d : D} {ds : List D} : Rep K F v d → Reps K F vs ds → Reps K F (v :: vs) (d :: ds)
inductive RepF (K : Kc) (F : Hp) : List (Str × V) → List (Str × D) → Prop
  | nil : RepF K F [] []
  | cons {n : Str} {v : V} {vs : List (Str × V)} {d : D} {ds : List (Str × D)} : Rep K F v d → RepF K F vs ds → RepF K F ((n, v) :: vs) ((n, d) :: ds)
end

theorem same_seqT {K : PySem.W.Frag} {H H' : Hp} {a : Addr} {xs : List V} (e : Same H H') (h : SqT K H a xs) : SqT K H' a xs := by
  rcases h with (h | ⟨o, h⟩) | h
  · exact .inl (.inl (e _ _ h))
  · exact .inl (.inr ⟨o, e _ _ h⟩)
  · exact .inr h

section
variable {K : Kc} {F F' : Hp}
mutual
theorem Rep.mono (m : Same F F') : ∀ {v : V} {d : D}, Rep K F v d → Rep K F' v d
  | _, _, .non => .non
  | _, _, .bl b => .bl b
  | _, _, .int i => .int i
  | _, _, .str x => .str x
  | _, _, .lst h r => .lst (m _ _ h) (Reps.mono m r)
  | _, _, .tup h r => .tup (same_seqT m h) (Reps.mono m r)
  | _, _, .obj h r => .obj (m _ _ h) (RepF.mono m r)
  | _, _, .scr h => .scr (m.seq h)
theorem Reps.mono (m : Same F F') : ∀ {vs : List V} {ds : List D}, Reps K F vs ds → Reps K F' vs ds
  | _, _, .nil => .nil
  | _, _, .cons h r => .cons (Rep.mono m h) (Reps.mono m r)
theorem RepF.mono (m : Same F F') : ∀ {vs : List (Str × V)} {ds : List (Str × D)}, RepF K F vs ds → RepF K F' vs ds
  | _, _, .nil => .nil
  | _, _, .cons h r => .cons (Rep.mono m h) (RepF.mono m r)
end
theorem Reps.length : ∀ {vs : List V} {ds : List D}, Reps K F vs ds → vs.length = ds.length
  | _, _, .nil => rfl
  | _, _, .cons _ r => congrArg Nat.succ (Reps.length r)
theorem Reps.get : ∀ {vs : List V} {ds : List D} {i : Nat} {d : D}, Reps K F vs ds → ds[i]? = some d → ∃ v, vs[i]? = some v ∧ Rep K F v d
  | _, _, _, _, .nil, h => by simp at h
  | _, _, 0, _, .cons h _, e => by simp at e; subst e; exact ⟨_, rfl, h⟩
  | _, _, i + 1, _, .cons _ r, e => by
    obtain ⟨v, h1, h2⟩ := Reps.get (i := i) r (by simpa using e)
    exact ⟨v, by simpa using h1, h2⟩
theorem Reps.getV : ∀ {vs : List V} {ds : List D} {i : Nat} {v : V}, Reps K F vs ds → vs[i]? = some v → ∃ d, ds[i]? = some d ∧ Rep K F v d
  | _, _, _, _, .nil, h => by simp at h
  | _, _, 0, _, .cons h _, e => by simp at e; subst e; exact ⟨_, rfl, h⟩
  | _, _, i + 1, _, .cons _ r, e => by
    obtain ⟨v, h1, h2⟩ := Reps.getV (i := i) r (by simpa using e)
    exact ⟨v, by simpa using h1, h2⟩
theorem Reps.append : ∀ {vs ws : List V} {ds es : List D}, Reps K F vs ds → Reps K F ws es → Reps K F (vs ++ ws) (ds ++ es)
  | _, _, _, _, .nil, s => s
  | _, _, _, _, .cons h r, s => .cons h (Reps.append r s)
theorem Reps.set {v : V} {d : D} (h : Rep K F v d) : ∀ {vs : List V} {ds : List D} (i : Nat), Reps K F vs ds → Reps K F (vs.set i v) (ds.set i d)
  | _, _, _, .nil => .nil
  | _, _, 0, .cons _ r => .cons h r
  | _, _, i + 1, .cons q r => .cons q (Reps.set h i r)
theorem Reps.take : ∀ {vs : List V} {ds : List D} (n : Nat), Reps K F vs ds → Reps K F (vs.take n) (ds.take n)
  | _, _, 0, _ => .nil
  | _, _, _ + 1, .nil => .nil
  | _, _, n + 1, .cons h r => .cons h (Reps.take n r)
theorem Reps.drop : ∀ {vs : List V} {ds : List D} (n : Nat), Reps K F vs ds → Reps K F (vs.drop n) (ds.drop n)
  | _, _, 0, r => r
  | _, _, _ + 1, .nil => .nil
  | _, _, n + 1, .cons _ r => Reps.drop n r
theorem Reps.ints : ∀ {vs : List V} {ns : List Int}, Reps K F vs (ns.map D.int) → vs = ns.map V.int
  | _, [], h => by cases h; rfl
  | _, n :: ns, h => by
    cases h with
    | cons a b => cases a; exact congrArg (V.int n :: ·) (Reps.ints b)
theorem Reps.of_ints : ∀ (ns : List Int), Reps K F (ns.map V.int) (ns.map D.int)
  | [] => .nil
  | n :: ns => .cons (.int n) (Reps.of_ints ns)
theorem Reps.bls : ∀ {vs : List V} {ns : List Bool}, Reps K F vs (ns.map D.bl) → vs = ns.map V.bl
  | _, [], h => by cases h; rfl
  | _, n :: ns, h => by
    cases h with
    | cons a b => cases a; exact congrArg (V.bl n :: ·) (Reps.bls b)
theorem Reps.strs : ∀ {vs : List V} {ns : List Str}, Reps K F vs (ns.map D.str) → vs = ns.map V.str
  | _, [], h => by cases h; rfl
  | _, n :: ns, h => by
    cases h with
    | cons a b => cases a; exact congrArg (V.str n :: ·) (Reps.strs b)
theorem RepF.keys : ∀ {vs : List (Str × V)} {ds : List (Str × D)}, RepF K F vs ds → vs.map (·.1) = ds.map (·.1)
  | _, _, .nil => rfl
  | _, _, .cons _ r => congrArg (_ :: ·) (RepF.keys r)
theorem RepF.look {f : Str} : ∀ {vs : List (Str × V)} {ds : List (Str × D)} {d : D}, RepF K F vs ds → ds.lookup f = some d → ∃ v, vs.lookup f = some v ∧ Rep K F v d
  | _, _, _, .nil, h => by cases h
  | _, _, _, .cons (n := n) h r, e => by
    rw [List.lookup_cons] at e ⊢
    cases q : f == n with
    | true => rw [q] at e; cases e; exact ⟨_, rfl, h⟩
    | false => rw [q] at e; exact RepF.look r e
theorem RepF.lookN {f : Str} : ∀ {vs : List (Str × V)} {ds : List (Str × D)}, RepF K F vs ds → ds.lookup f = none → vs.lookup f = none
  | _, _, .nil, _ => rfl
  | _, _, .cons (n := n) h r, e => by
    rw [List.lookup_cons] at e ⊢
    cases q : f == n with
    | true => rw [q] at e; cases e
    | false => rw [q] at e; exact RepF.lookN r e
end

/-! ### growth -/
/-- new things that never change are laid -/
structure Grow (F H F' H' : Hp) : Prop where
  f : Same F F'
  h : Same H H'
  le : Same F' H'
  nw : ∀ a o, F' a = some o → F a = some o ∨ H a = none
theorem Grow.refl {F H : Hp} (le : Same F H) : Grow F H F H := ⟨Same.refl F, Same.refl H, le, fun _ _ e => .inl e⟩
theorem Grow.trans {F H F1 H1 F2 H2 : Hp} (a : Grow F H F1 H1) (b : Grow F1 H1 F2 H2) : Grow F H F2 H2 :=
  ⟨a.f.trans b.f, a.h.trans b.h, b.le, fun x o e => (b.nw x o e).elim (fun e => a.nw x o e) fun n => .inr (a.h.free n)⟩
theorem same_upd {H : Hp} {p : Addr} {o : HO} (h : H p = none) : Same H (upd H p o) := fun b x e => by
  rw [upd_ne (ne_of_none e h)]
  exact e
theorem Grow.laid {F H : Hp} {p : Addr} {o : HO} (le : Same F H) (n : H p = none) : Grow F H (upd F p o) (upd H p o) := by
  have nF : F p = none := le.free n
  refine ⟨same_upd nF, same_upd n, fun b x e => ?_, fun b x e => ?_⟩
  · by_cases q : b = p
    · subst q; rw [upd_same] at e ⊢; exact e
    · rw [upd_ne q] at e ⊢; exact le _ _ e
  · by_cases q : b = p
    · subst q; exact .inr n
    · rw [upd_ne q] at e; exact .inl e

/-! ### the state -/
inductive Slot where
  | un | val (d : D) | own (ds : List D) | ob (C : Nat) (fs : List (Str × D))
  /-- a list of lists that stand in the slots js, behind the names -/
  | own2 (js : List Nat)
  /-- another name of the list in slot j -/
  | al (j : Nat)
abbrev PEnv := List Slot
abbrev Sg := L2.St

/-- what is fixed through a def's body: the heap at the entry, what never changes of it, the wish about exceptions, a slot whose object is the caller's -/
structure Cc where
  cm : Nat → Addr
  B : Hp
  F0 : Hp
  E : XK
  io : Option (Nat × Addr)
  /-- how many names -/
  n : Nat

def SlotOk (K : Kc) (n : Nat) (F H : Hp) (oa : Nat → Option Addr) (x : Option (Option V)) (o : Option Addr) : Slot → Prop
  | .un => o = none
  | .val d => o = none ∧ ∃ v, x = some (some v) ∧ Rep K F v d
  | .own ds => ∃ a vs, o = some a ∧ (x = none ∨ x = some (some (.ref a))) ∧ H a = some (.lst vs) ∧ Reps K F vs ds
  | .ob C fs => ∃ a dx fv, o = some a ∧ x = some (some (.ref a)) ∧ H a = some (.ins (K.cm C) dx fv) ∧ RepF K F fv fs
  | .own2 js => ∃ (a : Addr) (ps : List Addr), o = some a ∧ x = some (some (.ref a)) ∧ H a = some (.lst (ps.map V.ref)) ∧ ps.map some = js.map oa ∧ ∀ j ∈ js, n ≤ j
  | .al j => o = none ∧ n ≤ j ∧ ∃ p, oa j = some p ∧ x = some (some (.ref p))

structure Rel (K : Kc) (c : Cc) (F : Hp) (ρ : PEnv) (σ : Sg) (H : Hp) : Prop where
  b : Same c.B H
  f0 : Same c.F0 F
  le : Same F H
  nw : ∀ a o, F a = some o → c.F0 a = some o ∨ c.B a = none
  len : σ.length = c.n
  len2 : c.n ≤ ρ.length
  sl : ∃ oa : Nat → Option Addr, (∀ i s, ρ[i]? = some s → SlotOk K c.n F H oa σ[i]? (oa i) s) ∧ (∀ i j a, oa i = some a → oa j = some a → i = j) ∧
    (∀ i a, oa i = some a → F a = none ∧ c.B a = none ∧ i < ρ.length) ∧ ∀ i a, c.io = some (i, a) → oa i = some a

section
variable {K : Kc} {c : Cc} {F F' H H' : Hp} {ρ : PEnv} {σ : Sg}
theorem SlotOk.grow {n : Nat} {oa : Nat → Option Addr} {x : Option (Option V)} {o : Option Addr} (g : Grow F H F' H') : ∀ {s : Slot}, SlotOk K n F H oa x o s → SlotOk K n F' H' oa x o s
  | .un, h => h
  | .val d, ⟨h, v, e, r⟩ => ⟨h, v, e, r.mono g.f⟩
  | .own ds, ⟨a, vs, h1, h2, h3, h4⟩ => ⟨a, vs, h1, h2, g.h _ _ h3, h4.mono g.f⟩
  | .ob C fs, ⟨a, dx, fv, h1, h2, h3, h4⟩ => ⟨a, dx, fv, h1, h2, g.h _ _ h3, h4.mono g.f⟩
  | .own2 js, ⟨a, ps, h1, h2, h3, h4, h5⟩ => ⟨a, ps, h1, h2, g.h _ _ h3, h4, h5⟩
  | .al j, h => h
theorem SlotOk.there {n : Nat} {oa : Nat → Option Addr} {x : Option (Option V)} {o : Option Addr} {a : Addr} (e : o = some a) : ∀ {s : Slot}, SlotOk K n F H oa x o s → ∃ u, H a = some u
  | .un, h => by rw [show o = none from h] at e; cases e
  | .val d, ⟨h, _⟩ => by rw [h] at e; cases e
  | .own ds, ⟨b, vs, h1, h2, h3, h4⟩ => by rw [h1] at e; cases e; exact ⟨_, h3⟩
  | .ob C fs, ⟨b, dx, fv, h1, h2, h3, h4⟩ => by rw [h1] at e; cases e; exact ⟨_, h3⟩
  | .own2 js, ⟨b, ps, h1, h2, h3, h4, h5⟩ => by rw [h1] at e; cases e; exact ⟨_, h3⟩
  | .al j, ⟨h, _⟩ => by rw [h] at e; cases e
/-- another name's list has changed its place -/
theorem SlotOk.oaNe {n : Nat} {oa oa' : Nat → Option Addr} {x : Option (Option V)} {o : Option Addr} (g : ∀ j, n ≤ j → (oa j).isSome = true → oa' j = oa j) : ∀ {s : Slot}, SlotOk K n F H oa x o s → SlotOk K n F H oa' x o s
  | .un, h => h
  | .val d, h => h
  | .own ds, h => h
  | .ob C fs, h => h
  | .own2 js, ⟨a, ps, h1, h2, h3, h4, h5⟩ => by
    refine ⟨a, ps, h1, h2, h3, ?_, h5⟩
    rw [h4]
    apply List.map_congr_left
    intro j hj
    have hm : oa j ∈ ps.map some := by rw [h4]; exact List.mem_map_of_mem hj
    obtain ⟨p, _, e⟩ := List.mem_map.mp hm
    exact (g j (h5 j hj) (by rw [← e]; rfl)).symm
  | .al j, ⟨h, h2, p, h3, h4⟩ => ⟨h, h2, p, by rw [g j h2 (by rw [h3]; rfl)]; exact h3, h4⟩
theorem Rel.grow (r : Rel K c F ρ σ H) (g : Grow F H F' H') : Rel K c F' ρ σ H' := by
  obtain ⟨oa, h1, h2, h3, h4⟩ := r.sl
  refine ⟨r.b.trans g.h, r.f0.trans g.f, g.le, fun a o e => ?_, r.len, r.len2, oa, fun i s e => (h1 i s e).grow g, h2, fun i a e => ?_, h4⟩
  · rcases g.nw a o e with q | q
    · exact r.nw a o q
    · exact .inr (r.b.free q)
  · obtain ⟨f, b, l⟩ := h3 i a e
    refine ⟨?_, b, l⟩
    cases q : F' a with
    | none => rfl
    | some o =>
      rcases g.nw a o q with z | z
      · rw [f] at z; cases z
      · obtain ⟨u, hu⟩ := (h1 i _ (List.getElem?_eq_getElem l)).there e
        rw [z] at hu; cases hu
theorem Rel.refl (r : Rel K c F ρ σ H) : Grow F H F H := Grow.refl r.le
end

/-! ### what an expression answers -/
inductive Res (α : Type) where
  | ok (a : α) | exc (C : Nat) (fs : List (Str × D)) | stuck
def Res.bind {α β : Type} (r : Res α) (f : α → Res β) : Res β := match r with
  | .ok a => f a
  | .exc C fs => .exc C fs
  | .stuck => .stuck
def Res.of {α : Type} : Option α → Res α
  | some a => .ok a
  | none => .stuck
@[simp] theorem Res.bind_ok {α β : Type} (a : α) (f : α → Res β) : (Res.ok a).bind f = f a := rfl
@[simp] theorem Res.bind_exc {α β : Type} (C : Nat) (fs : List (Str × D)) (f : α → Res β) : (Res.exc C fs).bind f = .exc C fs := rfl
@[simp] theorem Res.bind_stuck {α β : Type} (f : α → Res β) : (Res.stuck : Res α).bind f = .stuck := rfl
@[simp] theorem Res.of_some {α : Type} (a : α) : Res.of (some a) = .ok a := rfl
@[simp] theorem Res.of_none {α : Type} : Res.of (none : Option α) = .stuck := rfl
theorem Res.bind_assoc {α β γ : Type} (r : Res α) (f : α → Res β) (g : β → Res γ) : (r.bind f).bind g = r.bind fun a => (f a).bind g := by cases r <;> rfl

abbrev Ev := PEnv → Res D
abbrev Tv := PEnv → Res Bool
abbrev Av := PEnv → Res (List D)

/-- an exception with these fields is wanted -/
def ExcW (K : Kc) (c : Cc) (C : Nat) (fs : List (Str × D)) : Prop :=
  ∀ H' d F' fv, Same c.B H' → H' d = some (.xd fv) → Same F' H' → RepF K F' fv fs → c.E (.ref (K.cm C)) (some d) H'
/-- the answer r, and what is wanted of it -/
def FinG {α β : Type} (K : Kc) (c : Cc) (R : Hp → Hp → α → β → Prop) (F H : Hp) (r : Res β) (Q : α → Hp → Prop) : Prop := match r with
  | .ok d => ∀ v H' F', Grow F H F' H' → R F' H' v d → Q v H'
  | .exc C fs => ExcW K c C fs
  | .stuck => False
def tG {α β : Type} (K : Kc) (c : Cc) (R : Hp → Hp → α → β → Prop) (ev : PEnv → Res β) : Sg → Hp → (α → Hp → Prop) → Prop :=
  fun σ H Q => ∃ F ρ, Rel K c F ρ σ H ∧ FinG K c R F H (ev ρ) Q
theorem FinG.grow {α β : Type} {K : Kc} {c : Cc} {R : Hp → Hp → α → β → Prop} {F H F' H' : Hp} {r : Res β} {Q : α → Hp → Prop} (g : Grow F H F' H') (h : FinG K c R F H r Q) : FinG K c R F' H' r Q := by
  cases r with
  | ok d => exact fun v H2 F2 g2 q => h v H2 F2 (g.trans g2) q
  | exc C fs => exact h
  | stuck => exact h
/-- first ev, then k: what is wanted of both is wanted of ev with what follows -/
theorem tG_bind {α β α' β' : Type} {K : Kc} {c : Cc} {R : Hp → Hp → α → β → Prop} {R' : Hp → Hp → α' → β' → Prop} {F H : Hp} {ρ : PEnv} {σ : Sg} {ev : PEnv → Res β} {k : β → Res β'} {Q : α' → Hp → Prop} {T : α → Hp → Prop}
    (r : Rel K c F ρ σ H) (h : FinG K c R' F H ((ev ρ).bind k) Q) (ht : ∀ v d H1 F1, Grow F H F1 H1 → Rel K c F1 ρ σ H1 → R F1 H1 v d → FinG K c R' F1 H1 (k d) Q → T v H1) : tG K c R ev σ H T := by
  refine ⟨F, ρ, r, ?_⟩
  cases q : ev ρ with
  | ok d =>
    rw [q] at h
    exact fun v H1 F1 g rp => ht v d H1 F1 g (r.grow g) rp (FinG.grow g h)
  | exc C fs => rw [q] at h; exact h
  | stuck => rw [q] at h; exact h
theorem tG_map {α β : Type} {K : Kc} {c : Cc} {R R' : Hp → Hp → α → β → Prop} {H : Hp} {σ : Sg} {ev : PEnv → Res β} {Q : α → Hp → Prop}
    (h : tG K c R ev σ H Q) (i : ∀ F H v d, R' F H v d → R F H v d) : tG K c R' ev σ H Q := by
  obtain ⟨F, ρ, r, h⟩ := h
  refine ⟨F, ρ, r, ?_⟩
  cases q : ev ρ with
  | ok d => rw [q] at h; exact fun v H1 F1 g rp => h v H1 F1 g (i _ _ _ _ rp)
  | exc C fs => rw [q] at h; exact h
  | stuck => rw [q] at h; exact h

/-- v stands for d; a list of one's own is read too -/
def RepB (K : Kc) (F H : Hp) (v : V) (d : D) : Prop := Rep K F v d ∨ ∃ a vs ds, v = .ref a ∧ d = .lst ds ∧ H a = some (.lst vs) ∧ Reps K F vs ds
inductive RepsB (K : Kc) (F H : Hp) : List V → List D → Prop
  | nil : RepsB K F H [] []
  | cons {v : V} {vs : List V} {d : D} {ds : List D} : RepB K F H v d → RepsB K F H vs ds → RepsB K F H (v :: vs) (d :: ds)
theorem RepB.grow {K : Kc} {F H F' H' : Hp} {v : V} {d : D} (g : Grow F H F' H') (h : RepB K F H v d) : RepB K F' H' v d := by
  rcases h with h | ⟨a, vs, ds, h1, h2, h3, h4⟩
  · exact .inl (h.mono g.f)
  · exact .inr ⟨a, vs, ds, h1, h2, g.h _ _ h3, h4.mono g.f⟩
theorem RepsB.grow {K : Kc} {F H F' H' : Hp} (g : Grow F H F' H') : ∀ {vs : List V} {ds : List D}, RepsB K F H vs ds → RepsB K F' H' vs ds
  | _, _, .nil => .nil
  | _, _, .cons h r => .cons (h.grow g) (RepsB.grow g r)
theorem Reps.toB {K : Kc} {F H : Hp} : ∀ {vs : List V} {ds : List D}, Reps K F vs ds → RepsB K F H vs ds
  | _, _, .nil => .nil
  | _, _, .cons h r => .cons (.inl h) (Reps.toB r)
/-- a list, read -/
theorem RepB.lst {K : Kc} {F H : Hp} {v : V} {ds : List D} (le : Same F H) (h : RepB K F H v (.lst ds)) : ∃ a vs, v = .ref a ∧ H a = some (.lst vs) ∧ Reps K F vs ds := by
  rcases h with h | ⟨a, vs, ds', h1, h2, h3, h4⟩
  · cases h with
    | lst h r => exact ⟨_, _, rfl, le _ _ h, r⟩
  · cases h2; exact ⟨a, vs, h1, h3, h4⟩
theorem RepB.tup {K : Kc} {F H : Hp} {v : V} {ds : List D} (le : Same F H) (h : RepB K F H v (.tup ds)) : ∃ a vs, v = .ref a ∧ SqT K.K H a vs ∧ Reps K F vs ds := by
  rcases h with h | ⟨a, vs, ds', h1, h2, h3, h4⟩
  · cases h with
    | tup h r => exact ⟨_, _, rfl, same_seqT le h, r⟩
  · cases h2
theorem RepB.int {K : Kc} {F H : Hp} {v : V} {i : Int} (h : RepB K F H v (.int i)) : v = .int i := by
  rcases h with h | ⟨a, vs, ds', h1, h2, h3, h4⟩
  · cases h; rfl
  · cases h2
theorem RepB.str {K : Kc} {F H : Hp} {v : V} {i : Str} (h : RepB K F H v (.str i)) : v = .str i := by
  rcases h with h | ⟨a, vs, ds', h1, h2, h3, h4⟩
  · cases h; rfl
  · cases h2
theorem RepB.bl {K : Kc} {F H : Hp} {v : V} {i : Bool} (h : RepB K F H v (.bl i)) : v = .bl i := by
  rcases h with h | ⟨a, vs, ds', h1, h2, h3, h4⟩
  · cases h; rfl
  · cases h2
theorem RepB.non {K : Kc} {F H : Hp} {v : V} (h : RepB K F H v .non) : v = .non := by
  rcases h with h | ⟨a, vs, ds', h1, h2, h3, h4⟩
  · cases h; rfl
  · cases h2

abbrev rE (K : Kc) : Hp → Hp → V → D → Prop := fun F _ v d => Rep K F v d
abbrev rB (K : Kc) : Hp → Hp → V → D → Prop := fun F H v d => RepB K F H v d
abbrev rT : Hp → Hp → Bool → Bool → Prop := fun _ _ v d => v = d
abbrev rA (K : Kc) : Hp → Hp → List V → List D → Prop := fun F _ v d => Reps K F v d
abbrev rAB (K : Kc) : Hp → Hp → List V → List D → Prop := fun F H v d => RepsB K F H v d
abbrev tE (K : Kc) (c : Cc) (ev : Ev) : TE := tG K c (rE K) ev
abbrev tBo (K : Kc) (c : Cc) (ev : Ev) : TE := tG K c (rB K) ev
abbrev tT (K : Kc) (c : Cc) (tv : Tv) : TT := tG K c rT tv
abbrev tA (K : Kc) (c : Cc) (av : Av) : TA := tG K c (rA K) av
abbrev tAB (K : Kc) (c : Cc) (av : Av) : TA := tG K c (rAB K) av
/-- a new list, nobody's yet -/
def FinN (K : Kc) (c : Cc) (F H : Hp) (r : Res (List D)) (Q : VK) : Prop := match r with
  | .ok ds => ∀ p vs H1 F1, Grow F H F1 H1 → H1 p = none → Reps K F1 vs ds → vs.length ≤ sizeLine → Q (.ref p) (upd H1 p (.lst vs))
  | .exc C fs => ExcW K c C fs
  | .stuck => False
def tNw (K : Kc) (c : Cc) (lv : Av) : TE := fun σ H Q => ∃ F ρ, Rel K c F ρ σ H ∧ FinN K c F H (lv ρ) Q

abbrev _root_.L2.Cx.kc (X : Cx) (c : Cc) : Kc := ⟨X.K, c.cm⟩
structure SE (c : Cc) (X : Cx) (e : Expr) (ev : Ev) : Prop where
  pe : PE X e (tE (X.kc c) c ev)
structure SB (c : Cc) (X : Cx) (e : Expr) (ev : Ev) : Prop where
  pe : PE X e (tBo (X.kc c) c ev)
structure SN (c : Cc) (X : Cx) (e : Expr) (lv : Av) : Prop where
  pe : PE X e (tNw (X.kc c) c lv)
structure ST (c : Cc) (X : Cx) (e : Expr) (tv : Tv) : Prop where
  pt : PT X e (tT (X.kc c) c tv)
structure SW (c : Cc) (X : Cx) (e : Expr) (tv : Tv) : Prop where
  pw : PW X e (tT (X.kc c) c tv)
structure SA (c : Cc) (X : Cx) (es : List Expr) (av : Av) : Prop where
  pa : PA X es (tA (X.kc c) c av)
structure SAB (c : Cc) (X : Cx) (es : List Expr) (av : Av) : Prop where
  pa : PA X es (tAB (X.kc c) c av)

theorem pe_imp {X : Cx} {e : Expr} {t t' : TE} (h : PE X e t) (i : ∀ σ H Q, t' σ H Q → t σ H Q) : PE X e t' := ⟨fun pins s σ H Q I q => h.run pins s σ H Q I (i σ H Q q)⟩
theorem pt_imp {X : Cx} {e : Expr} {t t' : TT} (h : PT X e t) (i : ∀ σ H Q, t' σ H Q → t σ H Q) : PT X e t' := ⟨fun pins s σ H Q I q => h.run pins s σ H Q I (i σ H Q q)⟩
theorem pw_imp {X : Cx} {e : Expr} {t t' : TT} (h : PW X e t) (i : ∀ σ H Q, t' σ H Q → t σ H Q) : PW X e t' := ⟨fun wh pins s σ H Q I q => h.run wh pins s σ H Q I (i σ H Q q)⟩
theorem pa_imp {X : Cx} {e : List Expr} {t t' : TA} (h : PA X e t) (i : ∀ σ H Q, t' σ H Q → t σ H Q) : PA X e t' := ⟨fun pos pins s σ H Q I q => h.run pos pins s σ H Q I (i σ H Q q)⟩
theorem pk_imp {X : Cx} {e : List Keyword} {t t' : TA} (h : PK X e t) (i : ∀ σ H Q, t' σ H Q → t σ H Q) : PK X e t' := ⟨fun pos pins s σ H Q I q => h.run pos pins s σ H Q I (i σ H Q q)⟩
theorem ps_imp {X : Cx} {e : Stmt} {t t' : TS} (h : PS X e t) (i : ∀ D σ H, t' D σ H → t D σ H) : PS X e t' := ⟨fun pins s σ H Q I q => h.run pins s σ H Q I (i Q σ H q)⟩
theorem pss_imp {X : Cx} {e : List Stmt} {t t' : TS} (h : PSs X e t) (i : ∀ D σ H, t' D σ H → t D σ H) : PSs X e t' := ⟨fun pins s σ H Q I q => h.run pins s σ H Q I (i Q σ H q)⟩

/-! ### combinators -/
def eC (d : D) : Ev := fun _ => .ok d
/-- a name that holds a value -/
def eN (i : Nat) : Ev := fun ρ => match ρ[i]? with
  | some (.val d) => .ok d
  | _ => .stuck
/-- a name that is read here alone: a list of one's own, too -/
def eB (i : Nat) : Ev := fun ρ => match ρ[i]? with
  | some (.val d) => .ok d
  | some (.own ds) => .ok (.lst ds)
  | _ => .stuck
def e1 (g : D → Option D) (a : Ev) : Ev := fun ρ => (a ρ).bind fun x => Res.of (g x)
def e2 (g : D → D → Option D) (a b : Ev) : Ev := fun ρ => (a ρ).bind fun x => (b ρ).bind fun y => Res.of (g x y)
def aN : Av := fun _ => .ok []
def aC (a : Ev) (as : Av) : Av := fun ρ => (a ρ).bind fun x => (as ρ).bind fun xs => .ok (x :: xs)
def eF (g : List D → Option D) (as : Av) : Ev := fun ρ => (as ρ).bind fun xs => Res.of (g xs)
/-- of a new list -/
def lF (g : List D → Option (List D)) (as : Av) : Av := fun ρ => (as ρ).bind fun xs => Res.of (g xs)
def eL (l : Av) : Ev := fun ρ => (l ρ).bind fun ds => .ok (.lst ds)
def asB : D → Res Bool
  | .bl b => .ok b
  | _ => .stuck
def tV (a : Ev) : Tv := fun ρ => (a ρ).bind asB
def tAnd' (a b : Tv) : Tv := fun ρ => (a ρ).bind fun x => if x = true then b ρ else .ok false
def tOr' (a b : Tv) : Tv := fun ρ => (a ρ).bind fun x => if x = true then .ok true else b ρ
def tNot' (a : Tv) : Tv := fun ρ => (a ρ).bind fun x => .ok (!x)
def eIf (t : Tv) (a b : Ev) : Ev := fun ρ => (t ρ).bind fun x => if x = true then a ρ else b ρ

/-! ### what an operation on values does, on data -/
def Lift1 (K : Kc) (r : V → Hp → VK → Prop) (g : D → Option D) : Prop := ∀ {F H : Hp} {x : V} {dx dz : D} {Q : VK}, Same F H → RepB K F H x dx → g dx = some dz →
  (∀ v H' F', Grow F H F' H' → Rep K F' v dz → Q v H') → r x H Q
def Lift2 (K : Kc) (r : R2) (g : D → D → Option D) : Prop := ∀ {F H : Hp} {x y : V} {dx dy dz : D} {Q : VK}, Same F H → RepB K F H x dx → RepB K F H y dy → g dx dy = some dz →
  (∀ v H' F', Grow F H F' H' → Rep K F' v dz → Q v H') → r x y H Q
def LiftN (K : Kc) (r : List V → Hp → VK → Prop) (g : List D → Option D) : Prop := ∀ {F H : Hp} {xs : List V} {ds : List D} {dz : D} {Q : VK}, Same F H → RepsB K F H xs ds → g ds = some dz →
  (∀ v H' F', Grow F H F' H' → Rep K F' v dz → Q v H') → r xs H Q
def LiftL (K : Kc) (r : List V → Hp → VK → Prop) (g : List D → Option (List D)) : Prop := ∀ {F H : Hp} {xs : List V} {ds dz : List D} {Q : VK}, Same F H → RepsB K F H xs ds → g ds = some dz →
  (∀ p vs, H p = none → Reps K F vs dz → vs.length ≤ sizeLine → Q (.ref p) (upd H p (.lst vs))) → r xs H Q

section
variable {c : Cc} {X : Cx} {e a b : Expr} {es : List Expr} {ea eb : Ev} {av : Av} {lv : Av} {ta tb : Tv} {pos p : Pos}
theorem sb_of (h : SE c X e ea) : SB c X e ea := ⟨pe_imp h.pe fun σ H Q q => tG_map q fun _ _ _ _ z => .inl z⟩
theorem sab_of (h : SA c X es av) : SAB c X es av := ⟨pa_imp h.pa fun σ H Q q => tG_map q fun _ _ _ _ z => z.toB⟩
/-- a new list is a value -/
theorem se_new (h : SN c X e lv) : SE c X e (eL lv) := by
  refine ⟨pe_imp h.pe fun σ H Q ⟨F, ρ, r, q⟩ => ⟨F, ρ, r, ?_⟩⟩
  unfold eL at q
  cases z : lv ρ with
  | ok ds =>
    rw [z] at q
    intro p vs H1 F1 g n rp hz
    exact q (.ref p) _ _ (g.trans (Grow.laid g.le n)) (.lst upd_same (rp.mono (same_upd (g.le.free n))))
  | exc C fs => rw [z] at q; exact q
  | stuck => rw [z] at q; exact q
/-! names, constants -/
theorem Rel.val {K : Kc} {F H : Hp} {ρ : PEnv} {σ : Sg} {i : Nat} {d : D} (r : Rel K c F ρ σ H) (h : ρ[i]? = some (.val d)) : ∃ v, σ[i]? = some (some v) ∧ Rep K F v d := by
  obtain ⟨oa, h1, _⟩ := r.sl
  obtain ⟨_, v, e, q⟩ := h1 i _ h
  exact ⟨v, e, q⟩
theorem Rel.own {K : Kc} {F H : Hp} {ρ : PEnv} {σ : Sg} {i : Nat} {ds : List D} (r : Rel K c F ρ σ H) (h : ρ[i]? = some (.own ds)) (hi : i < c.n) : ∃ a vs, σ[i]? = some (some (.ref a)) ∧ H a = some (.lst vs) ∧ Reps K F vs ds := by
  obtain ⟨oa, h1, _⟩ := r.sl
  obtain ⟨a, vs, _, e, q1, q2⟩ := h1 i _ h
  rcases e with e | e
  · rw [List.getElem?_eq_none_iff, r.len] at e; omega
  · exact ⟨a, vs, e, q1, q2⟩
theorem se_nm (i : Nat) {x : Str} (hN : X.N[i]? = some x := by rfl) (hv : Vis X.env.scope x := by first | exact Or.inl rfl | exact Or.inr (Or.inl rfl) | exact Or.inr (Or.inr rfl)) (hd : (x == ("__debug__" : Str)) = false := by decide)
    (hcd : (x == ("__classdict__" : Str)) = false := by decide) : SE c X (.Name x p) (eN i) := by
  refine ⟨pe_imp (pe_var hN hv hd hcd) fun σ H Q ⟨F, ρ, r, q⟩ => ?_⟩
  unfold eN at q
  split at q
  · rename_i d h
    obtain ⟨v, e, rp⟩ := r.val h
    exact ⟨v, e, q v H F r.refl rp⟩
  · exact q.elim
theorem lt_n {N : List Str} {n i : Nat} {x : Str} (hn : n = N.length) (hN : N[i]? = some x) : i < n := by rw [hn]; exact (List.getElem?_eq_some_iff.mp hN).1
theorem sb_nm (i : Nat) {x : Str} (hN : X.N[i]? = some x := by rfl) (hn : c.n = X.N.length := by rfl) (hv : Vis X.env.scope x := by first | exact Or.inl rfl | exact Or.inr (Or.inl rfl) | exact Or.inr (Or.inr rfl)) (hd : (x == ("__debug__" : Str)) = false := by decide)
    (hcd : (x == ("__classdict__" : Str)) = false := by decide) : SB c X (.Name x p) (eB i) := by
  refine ⟨pe_imp (pe_var hN hv hd hcd) fun σ H Q ⟨F, ρ, r, q⟩ => ?_⟩
  unfold eB at q
  split at q
  · rename_i d h
    obtain ⟨v, e, rp⟩ := r.val h
    exact ⟨v, e, q v H F r.refl (.inl rp)⟩
  · rename_i d h
    obtain ⟨v, vs, e, h1, h2⟩ := r.own h (lt_n hn hN)
    exact ⟨.ref v, e, q _ H F r.refl (.inr ⟨v, vs, _, rfl, rfl, h1, h2⟩)⟩
  · exact q.elim
theorem se_cst {v : V} {d : D} (h : PE X e (tC v)) (r : ∀ F, Rep (X.kc c) F v d) : SE c X e (eC d) := ⟨pe_imp h fun σ H Q ⟨F, ρ, rl, q⟩ => q v H F rl.refl (r F)⟩
theorem se_int {i j} : SE c X (.Constant (.int i) j pos) (eC (.int i)) := se_cst pe_int fun _ => .int i
theorem se_bl {i j} : SE c X (.Constant (.bool i) j pos) (eC (.bl i)) := se_cst pe_bl fun _ => .bl i
theorem se_non {j} : SE c X (.Constant .none j pos) (eC .non) := se_cst pe_non fun _ => .non
theorem se_str {i j} : SE c X (.Constant (.str i) j pos) (eC (.str i)) := se_cst pe_str fun _ => .str i
theorem se_gint {x : Str} {i : Int} (hg : Gl X x) (hm : ∃ t, X.mg x = some (.int i t)) (hd : (x == ("__debug__" : Str)) = false := by decide) : SE c X (.Name x p) (eC (.int i)) := by
  obtain ⟨t, hm⟩ := hm
  exact se_cst (pe_glob (v := .int i) hg hm ⟨t, rfl⟩ hd) fun _ => .int i
theorem se_gstr {x i : Str} (hg : Gl X x) (hm : ∃ t, X.mg x = some (.str i t)) (hd : (x == ("__debug__" : Str)) = false := by decide) : SE c X (.Name x p) (eC (.str i)) := by
  obtain ⟨t, hm⟩ := hm
  exact se_cst (pe_glob (v := .str i) hg hm ⟨t, rfl⟩ hd) fun _ => .str i
/-! operators -/
theorem finOf {K : Kc} {R : Hp → Hp → V → D → Prop} {F H : Hp} {o : Option D} {Q : VK} (h : FinG K c R F H (Res.of o) Q) : ∃ d, o = some d ∧ ∀ v H' F', Grow F H F' H' → R F' H' v d → Q v H' := by
  cases o with
  | none => exact h.elim
  | some d => exact ⟨d, rfl, h⟩
theorem tOp_of {r : R2} {g : D → D → Option D} {ta tb : TE} (l : Lift2 (X.kc c) r g) {R : V → Hp → Prop} {σ : Sg} {H : Hp} (h : tG (X.kc c) c (rE (X.kc c)) (e2 g ea eb) σ H R) : tOp r (tBo (X.kc c) c ea) (tBo (X.kc c) c eb) σ H R := by
  obtain ⟨F, ρ, rl, q⟩ := h
  refine tG_bind rl q fun x dx H1 F1 g1 rl1 rx q1 => ?_
  refine tG_bind rl1 q1 fun y dy H2 F2 g2 rl2 ry q2 => ?_
  obtain ⟨dz, e, q3⟩ := finOf q2
  exact l rl2.le (rx.grow g2) ry e q3
theorem se_op {op : Operator} {r : R2} {g : D → D → Option D} (ho : OpR X (binaryOp op) r) (l : Lift2 (X.kc c) r g) (ha : SB c X a ea) (hb : SB c X b eb) : SE c X (.BinOp a op b pos) (e2 g ea eb) :=
  ⟨pe_imp (pe_op ho ha.pe hb.pe) fun σ H Q h => tOp_of (ta := fun _ _ _ => False) (tb := fun _ _ _ => False) l h⟩
theorem se_un {op : UnaryOp} {r : V → Hp → VK → Prop} {g : D → Option D} (ho : UnR X (unaryOp op) r) (l : Lift1 (X.kc c) r g) (ha : SB c X a ea) : SE c X (.UnaryOp op a pos) (e1 g ea) := by
  refine ⟨pe_imp (pe_un ho ha.pe) fun σ H Q ⟨F, ρ, rl, q⟩ => ?_⟩
  refine tG_bind rl q fun x dx H1 F1 g1 rl1 rx q1 => ?_
  obtain ⟨dz, e, q3⟩ := finOf q1
  exact l rl1.le rx e q3
theorem se_cmp {op : CmpOp} {r : R2} {g : D → D → Option D} (ho : OpR X (compareOp op) r) (l : Lift2 (X.kc c) r g) (ha : SB c X a ea) (hb : SB c X b eb) (hm : behindInMarks op b = false) : SE c X (.Compare a [op] [b] pos) (e2 g ea eb) :=
  ⟨pe_imp (pe_cmpR ho ha.pe hb.pe hm) fun σ H Q h => tOp_of (ta := fun _ _ _ => False) (tb := fun _ _ _ => False) l h⟩
/-- an expression's answer as a test -/
theorem tTest_of {K : Kc} {t : TE} {σ : Sg} {H : Hp} {Q : Bool → Hp → Prop} (h : tT K c (tV ea) σ H Q) (i : ∀ Q', tE K c ea σ H Q' → t σ H Q') : tTest t σ H Q := by
  obtain ⟨F, ρ, rl, q⟩ := h
  refine i _ (tG_bind rl q fun x dx H1 F1 g1 rl1 rx q1 => ?_)
  cases dx with
  | bl k => cases rx; exact ⟨k, rfl, q1 k H1 F1 rl1.refl rfl⟩
  | _ => exact q1.elim
theorem st_cmp {op : CmpOp} {r : R2} {g : D → D → Option D} (ho : OpR X (compareOp op) r) (l : Lift2 (X.kc c) r g) (ha : SB c X a ea) (hb : SB c X b eb) (hm : behindInMarks op b = false) : ST c X (.Compare a [op] [b] pos) (tV (e2 g ea eb)) :=
  ⟨pt_imp (pt_cmpR ho ha.pe hb.pe hm) fun σ H Q h => tTest_of h fun Q' z => tOp_of (ta := fun _ _ _ => False) (tb := fun _ _ _ => False) l z⟩
/-- a op b op' d -/
def eCh (g g' : D → D → Option D) (a b d : Ev) : Ev := fun ρ => (a ρ).bind fun x => (b ρ).bind fun y => (Res.of (g x y)).bind fun z => (asB z).bind fun k => if k = true then (d ρ).bind fun w => Res.of (g' y w) else .ok (.bl false)
theorem tChain_of {r r' : R2} {g g' : D → D → Option D} {ed : Ev} (l : Lift2 (X.kc c) r g) (l' : Lift2 (X.kc c) r' g') {R : V → Hp → Prop} {σ : Sg} {H : Hp} (h : tG (X.kc c) c (rE (X.kc c)) (eCh g g' ea eb ed) σ H R) : tChain r r' (tBo (X.kc c) c ea) (tBo (X.kc c) c eb) (tBo (X.kc c) c ed) σ H R := by
  obtain ⟨F, ρ, rl, q⟩ := h
  refine tG_bind rl q fun x dx H1 F1 g1 rl1 rx q1 => ?_
  refine tG_bind rl1 q1 fun y dy H2 F2 g2 rl2 ry q2 => ?_
  cases e : g dx dy with
  | none => rw [e] at q2; exact q2.elim
  | some dz =>
    rw [e] at q2
    refine l rl2.le (rx.grow g2) ry e fun v H3 F3 g3 rv => ?_
    have rl3 := rl2.grow g3
    cases dz with
    | bl k =>
      cases rv
      refine ⟨k, rfl, ?_⟩
      cases k with
      | false =>
        have q3 : FinG (X.kc c) c (rE (X.kc c)) F2 H2 (.ok (.bl false)) R := q2
        exact iteF (q3 _ _ _ g3 (.bl false))
      | true =>
        have q3 : FinG (X.kc c) c (rE (X.kc c)) F2 H2 ((ed ρ).bind fun w => Res.of (g' dy w)) R := q2
        refine iteT (tG_bind rl3 (q3.grow g3) fun w dw H4 F4 g4 rl4 rw' q4 => ?_)
        obtain ⟨dz, e, q5⟩ := finOf q4
        exact l' rl4.le (ry.grow (g3.trans g4)) rw' e q5
    | _ => exact (show False from q2).elim
theorem st_chain {op op' : CmpOp} {r r' : R2} {g g' : D → D → Option D} {d : Expr} {ed : Ev} (ho : OpR X (compareOp op) r) (ho' : OpR X (compareOp op') r') (l : Lift2 (X.kc c) r g) (l' : Lift2 (X.kc c) r' g') (ha : SB c X a ea) (hb : SB c X b eb) (hd : SB c X d ed)
    (hm : lastMarks [op, op'] [b, d] = false := by with_unfolding_all rfl) : ST c X (.Compare a [op, op'] [b, d] pos) (tV (eCh g g' ea eb ed)) :=
  ⟨pt_imp (pt_chain ho ho' ha.pe hb.pe hd.pe hm) fun σ H Q h => tTest_of h fun Q' z => tChain_of l l' z⟩
/-! tests -/
theorem st_val (h : SE c X e ea) (he : ∀ whole, isTrue e X.env whole = (do let v ← whole; standAt e.pos; holding [v] (truthy v)) := by intro _; rfl) : ST c X e (tV ea) :=
  ⟨pt_imp (pt_val h.pe he) fun σ H Q h => tTest_of h fun Q' z => z⟩
theorem st_w (h : SW c X e ta) : ST c X e ta := ⟨h.pw.pt⟩
theorem sw_and1 (h : ST c X a ta) : SW c X (.BoolOp .And [a] pos) ta := ⟨pw_and1 h.pt⟩
theorem sw_or1 (h : ST c X a ta) : SW c X (.BoolOp .Or [a] pos) ta := ⟨pw_or1 h.pt⟩
theorem sw_and {rest : List Expr} (h : ST c X a ta) (h2 : SW c X (.BoolOp .And (b :: rest) pos) tb) : SW c X (.BoolOp .And (a :: b :: rest) pos) (tAnd' ta tb) := by
  refine ⟨pw_imp (pw_and h.pt h2.pw) fun σ H Q ⟨F, ρ, rl, q⟩ => ?_⟩
  refine tG_bind rl q fun x dx H1 F1 g1 rl1 rx q1 => ?_
  cases (show x = dx from rx)
  cases x with
  | true => exact iteT ⟨F1, ρ, rl1, q1⟩
  | false => exact iteF ((show FinG (X.kc c) c rT F1 H1 (.ok false) Q from q1) _ _ _ rl1.refl rfl)
theorem sw_or {rest : List Expr} (h : ST c X a ta) (h2 : SW c X (.BoolOp .Or (b :: rest) pos) tb) : SW c X (.BoolOp .Or (a :: b :: rest) pos) (tOr' ta tb) := by
  refine ⟨pw_imp (pw_or h.pt h2.pw) fun σ H Q ⟨F, ρ, rl, q⟩ => ?_⟩
  refine tG_bind rl q fun x dx H1 F1 g1 rl1 rx q1 => ?_
  cases (show x = dx from rx)
  cases x with
  | false => exact iteF ⟨F1, ρ, rl1, q1⟩
  | true => exact iteT ((show FinG (X.kc c) c rT F1 H1 (.ok true) Q from q1) _ _ _ rl1.refl rfl)
theorem st_not (h : ST c X a ta) : ST c X (.UnaryOp .Not a pos) (tNot' ta) := by
  refine ⟨pt_imp (pt_not h.pt) fun σ H Q ⟨F, ρ, rl, q⟩ => ?_⟩
  refine tG_bind rl q fun x dx H1 F1 g1 rl1 rx q1 => ?_
  cases (show x = dx from rx)
  exact q1 _ _ _ rl1.refl rfl
theorem se_ifx {d : Expr} (h : ST c X d ta) (ha : SE c X a ea) (hb : SE c X b eb) : SE c X (.IfExp d a b pos) (eIf ta ea eb) := by
  refine ⟨pe_imp (pe_ifExp h.pt ha.pe hb.pe) fun σ H Q ⟨F, ρ, rl, q⟩ => ?_⟩
  refine tG_bind rl q fun x dx H1 F1 g1 rl1 rx q1 => ?_
  cases (show x = dx from rx)
  cases x with
  | true => exact iteT ⟨F1, ρ, rl1, q1⟩
  | false => exact iteF ⟨F1, ρ, rl1, q1⟩
/-! argument lists -/
theorem sa_nil : SA c X [] aN := ⟨pa_imp pa_nil fun σ H Q ⟨F, ρ, rl, q⟩ => q [] H F rl.refl .nil⟩
theorem sab_nil : SAB c X [] aN := sab_of sa_nil
theorem sa_cons (ha : SE c X e ea) (hr : SA c X es av) (hs : starEach (e :: es) X.env = (false, eval e X.env) :: starEach es X.env := by rfl) : SA c X (e :: es) (aC ea av) := by
  refine ⟨pa_imp (pa_cons ha.pe hr.pa hs) fun σ H Q ⟨F, ρ, rl, q⟩ => ?_⟩
  refine tG_bind rl q fun x dx H1 F1 g1 rl1 rx q1 => ?_
  refine tG_bind rl1 q1 fun xs ds H2 F2 g2 rl2 rs q2 => ?_
  exact q2 _ _ _ rl2.refl (.cons (rx.mono g2.f) rs)
theorem sab_cons (ha : SB c X e ea) (hr : SAB c X es av) (hs : starEach (e :: es) X.env = (false, eval e X.env) :: starEach es X.env := by rfl) : SAB c X (e :: es) (aC ea av) := by
  refine ⟨pa_imp (pa_cons ha.pe hr.pa hs) fun σ H Q ⟨F, ρ, rl, q⟩ => ?_⟩
  refine tG_bind rl q fun x dx H1 F1 g1 rl1 rx q1 => ?_
  refine tG_bind rl1 q1 fun xs ds H2 F2 g2 rl2 rs q2 => ?_
  exact q2 _ _ _ rl2.refl (.cons (rx.grow g2) rs)
/-! displays -/
theorem sn_lst (h : SA c X es av) (hz : es.length ≤ sizeLine := by decide) (hl : ∀ ρ ds, av ρ = .ok ds → ds.length ≤ sizeLine) : SN c X (.List es pos) av := by
  refine ⟨pe_imp (pe_lst h.pa) fun σ H Q ⟨F, ρ, rl, q⟩ => ⟨F, ρ, rl, ?_⟩⟩
  cases z : av ρ with
  | ok ds =>
    rw [z] at q
    intro vs H1 F1 g rs
    have e := rs.length
    have hz' : vs.length ≤ sizeLine := by rw [e]; exact hl ρ ds z
    exact ⟨hz', fun p n => q p vs H1 F1 g n rs hz'⟩
  | exc C fs => rw [z] at q; exact q
  | stuck => rw [z] at q; exact q
/-- a tuple of these -/
def eT (as : Av) : Ev := fun ρ => (as ρ).bind fun ds => .ok (.tup ds)
theorem se_tup {x1} (h : SA c X es av) (hl : ∀ ρ ds, av ρ = .ok ds → ds.length ≤ sizeLine) : SE c X (.Tuple es x1 pos) (eT av) := by
  refine ⟨pe_imp (pe_tup h.pa) fun σ H Q ⟨F, ρ, rl, q⟩ => ⟨F, ρ, rl, ?_⟩⟩
  unfold eT at q
  cases z : av ρ with
  | ok ds =>
    rw [z] at q
    intro vs H1 F1 g rs
    have e := rs.length
    refine ⟨by rw [e]; exact hl ρ ds z, fun p n => ?_⟩
    exact q (.ref p) _ _ (g.trans (Grow.laid g.le n)) (.tup (.inl (.inl upd_same)) (rs.mono (same_upd (g.le.free n))))
  | exc C fs => rw [z] at q; exact q
  | stuck => rw [z] at q; exact q
theorem aN_len : ∀ ρ ds, aN ρ = .ok ds → ds.length = 0 := fun ρ ds h => by cases h; rfl
theorem aC_len {n : Nat} (h : ∀ ρ ds, av ρ = .ok ds → ds.length = n) : ∀ ρ ds, aC ea av ρ = .ok ds → ds.length = n + 1 := fun ρ ds e => by
  unfold aC at e
  cases z : ea ρ with
  | ok d =>
    rw [z] at e
    cases w : av ρ with
    | ok xs => rw [w] at e; cases e; exact congrArg Nat.succ (h ρ xs w)
    | exc C fs => rw [w] at e; cases e
    | stuck => rw [w] at e; cases e
  | exc C fs => rw [z] at e; cases e
  | stuck => rw [z] at e; cases e
theorem len_le {n : Nat} (h : ∀ ρ ds, av ρ = .ok ds → ds.length = n) (hn : n ≤ 1000) : ∀ ρ ds, av ρ = .ok ds → ds.length ≤ sizeLine := fun ρ ds e => by rw [h ρ ds e]; exact Nat.le_of_lt (small1000 hn)
end
end Pu

namespace Pu
open PySem PySem.Spec PyProof.Rows L2

/-! ### operations on data -/
def opAdd : D → D → Option D
  | .int i, .int j => some (.int (i + j))
  | .str i, .str j => if i.length + j.length ≤ sizeLine then some (.str (i ++ j)) else none
  | _, _ => none
def opSub : D → D → Option D
  | .int i, .int j => some (.int (i - j))
  | _, _ => none
def small64 (i : Int) : Bool := decide (-(2 ^ 64) < i) && decide (i < 2 ^ 64)
def opMul : D → D → Option D
  | .int i, .int j => if (small64 j || small64 i) = true then some (.int (i * j)) else none
  | _, _ => none
def divOk (j : Int) : Bool := decide (0 < j) && decide (j < 1073741824)
def opDiv : D → D → Option D
  | .int i, .int j => if divOk j = true then some (.int (i / j)) else none
  | _, _ => none
def opMod : D → D → Option D
  | .int i, .int j => if decide (0 < j) = true then some (.int (i % j)) else none
  | _, _ => none
def opPow : D → D → Option D
  | .int i, .int j => if (decide (0 ≤ j) && decide (j ≤ 1000000) && decide (i.natAbs < 2 ^ 64)) = true then some (.int (i ^ j.toNat)) else none
  | _, _ => none
def opNeg : D → Option D
  | .int i => some (.int (-i))
  | _ => none
def opLt : D → D → Option D
  | .int i, .int j => some (.bl (decide (i < j)))
  | _, _ => none
def opLe : D → D → Option D
  | .int i, .int j => some (.bl (decide (i ≤ j)))
  | _, _ => none
def opGt : D → D → Option D
  | .int i, .int j => some (.bl (decide (j < i)))
  | _, _ => none
def opGe : D → D → Option D
  | .int i, .int j => some (.bl (decide (j ≤ i)))
  | _, _ => none
mutual
def D.toPy : D → Option PyData
  | .non => some .none
  | .bl b => some (.bool b)
  | .int i => some (.int i)
  | .str s => some (.str s)
  | .lst ds => (D.toPys ds).map .list
  | .tup ds => (D.toPys ds).map .tuple
  | _ => none
def D.toPys : List D → Option (List PyData)
  | [] => some []
  | d :: ds => (D.toPy d).bind fun x => (D.toPys ds).map (x :: ·)
end
def eqPy (x y : D) : Option Bool := (D.toPy x).bind fun a => (D.toPy y).bind fun b => if (SeqAt.shaped a && SeqAt.shaped b) = true then some (PyData.eqv a b) else none
/-- == -/
def eqD : D → D → Option Bool
  | .int i, .int j => some (decide (i = j))
  | .str i, .str j => some (decide (i = j))
  | .bl i, .bl j => some (decide (i = j))
  | .non, .non => some true
  | .non, .int _ => some false
  | .int _, .non => some false
  | .non, .str _ => some false
  | .str _, .non => some false
  | .non, .bl _ => some false
  | .bl _, .non => some false
  | .lst a, .lst b => eqPy (.lst a) (.lst b)
  | .tup a, .tup b => eqPy (.tup a) (.tup b)
  | _, _ => none
def opEq (x y : D) : Option D := (eqD x y).map .bl
def opNe (x y : D) : Option D := (eqD x y).map fun b => .bl (!b)
/-- is None -/
def isN : D → Bool
  | .non => true
  | _ => false
def opIsN : D → D → Option D
  | x, .non => some (.bl (isN x))
  | _, _ => none
def opNotN : D → D → Option D
  | x, .non => some (.bl (!isN x))
  | _, _ => none
def flat : D → Bool
  | .non => true
  | .bl _ => true
  | .int _ => true
  | .str _ => true
  | _ => false
def eqF : D → D → Bool
  | .non, .non => true
  | .bl a, .bl b => a == b
  | .bl a, .int b => (if a then 1 else 0) == b
  | .int a, .bl b => a == (if b then 1 else 0)
  | .int a, .int b => a == b
  | .str a, .str b => a == b
  | _, _ => false
def inF (x : D) (ds : List D) : Option Bool := if (flat x && ds.all flat) = true then some (ds.any fun y => eqF y x) else none
def inD : D → D → Option Bool
  | .str s, .str z => match s.cps.toList with
    | [c] => some (decide (c ∈ z.cps.toList))
    | _ => none
  | x, .lst ds => inF x ds
  | x, .tup ds => inF x ds
  | _, _ => none
def opIn (x y : D) : Option D := (inD x y).map .bl
def opNotIn (x y : D) : Option D := (inD x y).map fun b => .bl (!b)
def opIx : D → D → Option D
  | .lst ds, .int i => atI ds i
  | .tup ds, .int i => atI ds i
  | .str z, .int i => if z.length ≤ sizeLine then (atI z.cps.toList i).map fun c => .str ⟨#[c]⟩ else none
  | _, _ => none

section
variable {K : Kc}
theorem lift_int {C : Int → Int → Prop} {f : Int → Int → Int} {g : D → D → Option D} (h : ∀ x y z, g x y = some z → ∃ i j, x = .int i ∧ y = .int j ∧ C i j ∧ z = .int (f i j)) : Lift2 K (rI C fun i j => .int (f i j)) g := by
  intro F H x y dx dy dz Q le hx hy e q
  obtain ⟨i, j, rfl, rfl, hc, rfl⟩ := h _ _ _ e
  exact ⟨i, j, hx.int, hy.int, hc, q _ H F (Grow.refl le) (.int _)⟩
theorem lift_int0 {f : Int → Int → Int} {g : D → D → Option D} (h : ∀ x y z, g x y = some z → ∃ i j, x = .int i ∧ y = .int j ∧ z = .int (f i j)) : Lift2 K (rI0 fun i j => .int (f i j)) g := by
  intro F H x y dx dy dz Q le hx hy e q
  obtain ⟨i, j, rfl, rfl, rfl⟩ := h _ _ _ e
  exact ⟨i, j, hx.int, hy.int, q _ H F (Grow.refl le) (.int _)⟩
theorem lift_bl0 {f : Int → Int → Bool} {g : D → D → Option D} (h : ∀ x y z, g x y = some z → ∃ i j, x = .int i ∧ y = .int j ∧ z = .bl (f i j)) : Lift2 K (rI0 fun i j => .bl (f i j)) g := by
  intro F H x y dx dy dz Q le hx hy e q
  obtain ⟨i, j, rfl, rfl, rfl⟩ := h _ _ _ e
  exact ⟨i, j, hx.int, hy.int, q _ H F (Grow.refl le) (.bl _)⟩
theorem l_lt : Lift2 K (rI0 fun i j => .bl (decide (i < j))) opLt := lift_bl0 fun x y z e => by
  unfold opLt at e; split at e
  · cases e; exact ⟨_, _, rfl, rfl, rfl⟩
  · cases e
theorem l_le : Lift2 K (rI0 fun i j => .bl (decide (i ≤ j))) opLe := lift_bl0 fun x y z e => by
  unfold opLe at e; split at e
  · cases e; exact ⟨_, _, rfl, rfl, rfl⟩
  · cases e
theorem l_gt : Lift2 K (rI0 fun i j => .bl (decide (j < i))) opGt := lift_bl0 fun x y z e => by
  unfold opGt at e; split at e
  · cases e; exact ⟨_, _, rfl, rfl, rfl⟩
  · cases e
theorem l_ge : Lift2 K (rI0 fun i j => .bl (decide (j ≤ i))) opGe := lift_bl0 fun x y z e => by
  unfold opGe at e; split at e
  · cases e; exact ⟨_, _, rfl, rfl, rfl⟩
  · cases e
theorem l_sub : Lift2 K (rI0 fun i j => .int (i - j)) opSub := lift_int0 fun x y z e => by
  unfold opSub at e; split at e
  · cases e; exact ⟨_, _, rfl, rfl, rfl⟩
  · cases e
theorem l_mul : Lift2 K (rI CMul fun i j => .int (i * j)) opMul := lift_int fun x y z e => by
  unfold opMul at e; split at e
  · rename_i i j
    split at e
    · rename_i hc
      cases e
      refine ⟨_, _, rfl, rfl, ?_, rfl⟩
      simp only [small64, Bool.or_eq_true, Bool.and_eq_true, decide_eq_true_eq] at hc
      exact hc.elim (fun z => .inr z) fun z => .inl z
    · cases e
  · cases e
theorem l_div : Lift2 K (rI CDiv fun i j => .int (i / j)) opDiv := lift_int fun x y z e => by
  unfold opDiv at e; split at e
  · split at e
    · rename_i hc
      cases e
      simp only [divOk, Bool.and_eq_true, decide_eq_true_eq] at hc
      exact ⟨_, _, rfl, rfl, hc, rfl⟩
    · cases e
  · cases e
theorem l_mod : Lift2 K (rI (fun _ j => 0 < j) fun i j => .int (i % j)) opMod := lift_int fun x y z e => by
  unfold opMod at e; split at e
  · split at e
    · rename_i hc
      cases e
      exact ⟨_, _, rfl, rfl, of_decide_eq_true hc, rfl⟩
    · cases e
  · cases e
theorem l_pow : Lift2 K (rI CPow fun i j => .int (i ^ j.toNat)) opPow := lift_int fun x y z e => by
  unfold opPow at e; split at e
  · split at e
    · rename_i hc
      cases e
      simp only [Bool.and_eq_true, decide_eq_true_eq] at hc
      exact ⟨_, _, rfl, rfl, ⟨hc.1.1, hc.1.2, hc.2⟩, rfl⟩
    · cases e
  · cases e
theorem l_neg : Lift1 K (rU fun i => .int (-i)) opNeg := by
  intro F H x dx dz Q le hx e q
  unfold opNeg at e; split at e
  · cases e; exact ⟨_, hx.int, q _ H F (Grow.refl le) (.int _)⟩
  · cases e
abbrev rAddU : R2 := fun x y H Q => rI0 (fun i j => .int (i + j)) x y H Q ∨ ∃ i j, x = .str i ∧ y = .str j ∧ i.length + j.length ≤ sizeLine ∧ Q (.str (i ++ j)) H
theorem op_addU {X : Cx} : OpR X (binaryOp .Add) rAddU := op_add.or op_add_str
theorem l_add : Lift2 K rAddU opAdd := by
  intro F H x y dx dy dz Q le hx hy e q
  unfold opAdd at e; split at e
  · cases e; exact .inl ⟨_, _, hx.int, hy.int, q _ H F (Grow.refl le) (.int _)⟩
  · split at e
    · rename_i hc
      cases e; exact .inr ⟨_, _, hx.str, hy.str, hc, q _ H F (Grow.refl le) (.str _)⟩
    · cases e
  · cases e
mutual
theorem rep_dp {F H : Hp} (le : Same F H) : ∀ {d : D} {v : V} {p : PyData}, Rep K F v d → D.toPy d = some p → Dp K.K H v p
  | .non, _, _, .non, e => by unfold D.toPy at e; cases e; exact .non
  | .bl b, _, _, .bl _, e => by unfold D.toPy at e; cases e; exact .bl _
  | .int b, _, _, .int _, e => by unfold D.toPy at e; cases e; exact .int _
  | .str b, _, _, .str _, e => by unfold D.toPy at e; cases e; exact .str _
  | .lst ds, _, _, .lst h r, e => by
    unfold D.toPy at e
    obtain ⟨ps, e1, e2⟩ := Option.map_eq_some_iff.mp e
    subst e2
    exact .lst (.inl (.inl (le _ _ h))) (reps_dp le r e1)
  | .tup ds, _, _, .tup h r, e => by
    unfold D.toPy at e
    obtain ⟨ps, e1, e2⟩ := Option.map_eq_some_iff.mp e
    subst e2
    exact .tup (same_seqT le h) (reps_dp le r e1)
  | .obj C fs, _, _, _, e => by unfold D.toPy at e; cases e
  | .scr ns, _, _, _, e => by unfold D.toPy at e; cases e
theorem reps_dp {F H : Hp} (le : Same F H) : ∀ {ds : List D} {vs : List V} {ps : List PyData}, Reps K F vs ds → D.toPys ds = some ps → DpAll K.K H vs ps
  | [], _, _, .nil, e => by unfold D.toPys at e; cases e; exact .nil
  | d :: ds, _, _, .cons h r, e => by
    unfold D.toPys at e
    obtain ⟨x, e1, e2⟩ := Option.bind_eq_some_iff.mp e
    obtain ⟨xs, e3, e4⟩ := Option.map_eq_some_iff.mp e2
    subst e4
    exact .cons (rep_dp le h e1) (reps_dp le r e3)
end
theorem repB_dp {F H : Hp} (le : Same F H) {d : D} {v : V} {p : PyData} (h : RepB K F H v d) (e : D.toPy d = some p) : Dp K.K H v p := by
  rcases h with h | ⟨a, vs, ds, rfl, rfl, h1, h2⟩
  · exact rep_dp le h e
  · unfold D.toPy at e
    obtain ⟨ps, e1, e2⟩ := Option.map_eq_some_iff.mp e
    subst e2
    exact .lst (.inl (.inl h1)) (reps_dp le h2 e1)
abbrev rEqU (K : PySem.W.Frag) : R2 := fun x y H Q => rEq x y H Q ∨ rEqD K x y H Q
abbrev rNeU (K : PySem.W.Frag) : R2 := fun x y H Q => rNe x y H Q ∨ rNeD K x y H Q
theorem op_eqU {X : Cx} (hu : X.A.units + 64 < cLine) : OpR X (compareOp .Eq) (rEqU X.K) := op_eq.or (op_eqD hu)
theorem op_neU {X : Cx} (hu : X.A.units + 64 < cLine) : OpR X (compareOp .NotEq) (rNeU X.K) := op_ne.or (op_neD hu)
theorem eq_lift {F H : Hp} {x y : V} {dx dy : D} {b : Bool} (le : Same F H) (hx : RepB K F H x dx) (hy : RepB K F H y dy) (e : eqD dx dy = some b) :
    (scal x y = true ∧ b = decide (x = y)) ∨ ∃ d e, Dp K.K H x d ∧ Dp K.K H y e ∧ SeqAt.shaped d = true ∧ SeqAt.shaped e = true ∧ b = PyData.eqv d e := by
  have dat : ∀ {dx dy : D}, RepB K F H x dx → RepB K F H y dy → eqPy dx dy = some b → (scal x y = true ∧ b = decide (x = y)) ∨ ∃ d e, Dp K.K H x d ∧ Dp K.K H y e ∧ SeqAt.shaped d = true ∧ SeqAt.shaped e = true ∧ b = PyData.eqv d e := fun hx hy e => by
    unfold eqPy at e
    obtain ⟨p, e1, e2⟩ := Option.bind_eq_some_iff.mp e
    obtain ⟨p', e3, e4⟩ := Option.bind_eq_some_iff.mp e2
    split at e4
    · rename_i hs
      cases e4
      rw [Bool.and_eq_true] at hs
      exact .inr ⟨p, p', repB_dp le hx e1, repB_dp le hy e3, hs.1, hs.2, rfl⟩
    · cases e4
  unfold eqD at e
  split at e
  · rw [hx.int, hy.int]; cases e; exact .inl ⟨rfl, by simp⟩
  · rw [hx.str, hy.str]; cases e; exact .inl ⟨rfl, by simp⟩
  · rw [hx.bl, hy.bl]; cases e; exact .inl ⟨rfl, by simp⟩
  · rw [hx.non, hy.non]; cases e; exact .inl ⟨rfl, by simp⟩
  · rw [hx.non, hy.int]; cases e; exact .inl ⟨rfl, by simp⟩
  · rw [hx.int, hy.non]; cases e; exact .inl ⟨rfl, by simp⟩
  · rw [hx.non, hy.str]; cases e; exact .inl ⟨rfl, by simp⟩
  · rw [hx.str, hy.non]; cases e; exact .inl ⟨rfl, by simp⟩
  · rw [hx.non, hy.bl]; cases e; exact .inl ⟨rfl, by simp⟩
  · rw [hx.bl, hy.non]; cases e; exact .inl ⟨rfl, by simp⟩
  · exact dat hx hy e
  · exact dat hx hy e
  · cases e
theorem l_eq : Lift2 K (rEqU K.K) opEq := by
  intro F H x y dx dy dz Q le hx hy e q
  obtain ⟨b, e1, rfl⟩ := Option.map_eq_some_iff.mp e
  have q' := q (.bl b) H F (Grow.refl le) (.bl b)
  rcases eq_lift le hx hy e1 with ⟨h1, rfl⟩ | ⟨p1, p2, h1, h2, h3, h4, rfl⟩
  · exact .inl ⟨h1, q'⟩
  · exact .inr ⟨p1, p2, h1, h2, h3, h4, q'⟩
theorem l_ne : Lift2 K (rNeU K.K) opNe := by
  intro F H x y dx dy dz Q le hx hy e q
  obtain ⟨b, e1, rfl⟩ := Option.map_eq_some_iff.mp e
  have q' := q (.bl (!b)) H F (Grow.refl le) (.bl (!b))
  rcases eq_lift le hx hy e1 with ⟨h1, rfl⟩ | ⟨p1, p2, h1, h2, h3, h4, rfl⟩
  · exact .inl ⟨h1, q'⟩
  · exact .inr ⟨p1, p2, h1, h2, h3, h4, q'⟩
theorem isN_rep {F H : Hp} {x : V} {d : D} (h : RepB K F H x d) : decide (x = .non) = isN d := by
  rcases h with h | ⟨a, vs, ds, rfl, rfl, _, _⟩
  · cases h <;> simp [isN]
  · simp [isN]
theorem l_isN : Lift2 K (fun x y H Q => y = .non ∧ Q (.bl (decide (x = .non))) H) opIsN := by
  intro F H x y dx dy dz Q le hx hy e q
  unfold opIsN at e; split at e
  · cases e; exact ⟨hy.non, by rw [isN_rep hx]; exact q _ H F (Grow.refl le) (.bl _)⟩
  · cases e
theorem l_notN : Lift2 K (fun x y H Q => y = .non ∧ Q (.bl (!decide (x = .non))) H) opNotN := by
  intro F H x y dx dy dz Q le hx hy e q
  unfold opNotN at e; split at e
  · cases e; exact ⟨hy.non, by rw [isN_rep hx]; exact q _ H F (Grow.refl le) (.bl _)⟩
  · cases e
theorem flat_rep {F : Hp} {x : V} {d : D} (h : Rep K F x d) (f : flat d = true) : flatV x = true := by
  cases h <;> first | rfl | cases f
theorem eqF_rep {F : Hp} {x y : V} {d e : D} (h : Rep K F x d) (h' : Rep K F y e) (f : flat d = true) (f' : flat e = true) : eqV x y = eqF d e := by
  cases h <;> (first | cases f | skip) <;> cases h' <;> first | rfl | cases f'
theorem flats_rep {F : Hp} : ∀ {xs : List V} {ds : List D}, Reps K F xs ds → ds.all flat = true → xs.all flatV = true
  | _, _, .nil, _ => rfl
  | _, _, .cons h r, f => by
    rw [List.all_cons, Bool.and_eq_true] at f ⊢
    exact ⟨flat_rep h f.1, flats_rep r f.2⟩
theorem inF_rep {F : Hp} {x : V} {d : D} (h : Rep K F x d) (f : flat d = true) : ∀ {xs : List V} {ds : List D}, Reps K F xs ds → ds.all flat = true → inV x xs = ds.any fun y => eqF y d
  | _, _, .nil, _ => rfl
  | _, _, .cons h' r, f' => by
    rw [List.all_cons, Bool.and_eq_true] at f'
    unfold inV
    rw [List.any_cons, List.any_cons, eqF_rep h' h f'.1 f]
    exact congrArg (_ || ·) (inF_rep h f r f'.2)
theorem flatB {F H : Hp} {x : V} {d : D} (h : RepB K F H x d) (f : flat d = true) : Rep K F x d := by
  rcases h with h | ⟨a, vs, ds, rfl, rfl, _, _⟩
  · exact h
  · cases f
def rSign (neg : Bool) : R2 := fun x y H Q => ∃ (c : Nat) (z : Str), x = .str ⟨#[c]⟩ ∧ y = .str z ∧ Q (.bl (if neg then !decide (c ∈ z.cps.toList) else decide (c ∈ z.cps.toList))) H
abbrev rInU (K : PySem.W.Frag) (neg : Bool) : R2 := fun x y H Q => rIn K neg x y H Q ∨ rSign neg x y H Q
theorem op_inU {X : Cx} : OpR X (compareOp .In) (rInU X.K false) := op_in_seq.or op_in_sign
theorem op_notInU {X : Cx} : OpR X (compareOp .NotIn) (rInU X.K true) := op_notIn_seq.or op_notIn_sign
theorem in_lift {F H : Hp} {x y : V} {dx dy : D} {b : Bool} (neg : Bool) {Q : VK} (le : Same F H) (hx : RepB K F H x dx) (hy : RepB K F H y dy) (e : inD dx dy = some b) (q : Q (.bl (if neg then !b else b)) H) : rInU K.K neg x y H Q := by
  have seq : ∀ {ds : List D} {p : Addr} {vs : List V}, y = .ref p → (SqL K.K H p vs ∨ SqT K.K H p vs) → Reps K F vs ds → inF dx ds = some b → rInU K.K neg x y H Q := fun {ds p vs} ey hp hr e => by
    unfold inF at e
    split at e
    · rename_i hc
      cases e
      rw [Bool.and_eq_true] at hc
      have hx' := flatB hx hc.1
      refine .inl ⟨p, vs, ey, hp, flat_rep hx' hc.1, flats_rep hr hc.2, ?_⟩
      rw [inF_rep hx' hc.1 hr hc.2]
      exact q
    · cases e
  unfold inD at e
  split at e
  · rename_i s z
    split at e
    · rename_i ch hs
      cases e
      refine .inr ⟨ch, z, ?_, hy.str, q⟩
      rw [hx.str]
      obtain ⟨⟨l⟩⟩ := s
      have hs' : l = [ch] := hs
      rw [hs']
    · cases e
  · obtain ⟨a, vs, rfl, h1, h2⟩ := hy.lst le
    exact seq rfl (.inl (.inl (.inl h1))) h2 e
  · obtain ⟨a, vs, rfl, h1, h2⟩ := hy.tup le
    exact seq rfl (.inr h1) h2 e
  · cases e
theorem l_in : Lift2 K (rInU K.K false) opIn := by
  intro F H x y dx dy dz Q le hx hy e q
  obtain ⟨b, e1, rfl⟩ := Option.map_eq_some_iff.mp e
  exact in_lift false le hx hy e1 (q (.bl b) H F (Grow.refl le) (.bl b))
theorem l_notIn : Lift2 K (rInU K.K true) opNotIn := by
  intro F H x y dx dy dz Q le hx hy e q
  obtain ⟨b, e1, rfl⟩ := Option.map_eq_some_iff.mp e
  exact in_lift true le hx hy e1 (q (.bl (!b)) H F (Grow.refl le) (.bl (!b)))
theorem atI_rep {F : Hp} {vs : List V} {ds : List D} {i : Int} {d : D} (r : Reps K F vs ds) (e : atI ds i = some d) : ∃ v, atI vs i = some v ∧ Rep K F v d := by
  unfold atI at e ⊢
  obtain ⟨j, h1, h2⟩ := Option.bind_eq_some_iff.mp e
  obtain ⟨v, h3, h4⟩ := r.get h2
  exact ⟨v, by rw [r.length, h1]; exact h3, h4⟩
theorem l_ix : Lift2 K (rIx K.K) opIx := by
  intro F H x y dx dy dz Q le hx hy e q
  unfold opIx at e; split at e
  · obtain ⟨a, vs, rfl, h1, h2⟩ := hx.lst le
    obtain ⟨v, h3, h4⟩ := atI_rep h2 e
    exact .inl ⟨a, vs, _, v, rfl, hy.int, .inl (.inl h1), h3, q v H F (Grow.refl le) h4⟩
  · obtain ⟨a, vs, rfl, h1, h2⟩ := hx.tup le
    obtain ⟨v, h3, h4⟩ := atI_rep h2 e
    exact .inr (.inl ⟨a, vs, _, v, rfl, hy.int, h1, h3, q v H F (Grow.refl le) h4⟩)
  · split at e
    · rename_i hz
      obtain ⟨ch, e1, rfl⟩ := Option.map_eq_some_iff.mp e
      exact .inr (.inr ⟨_, _, ch, hx.str, hy.int, hz, e1, q _ H F (Grow.refl le) (.str _)⟩)
    · cases e
  · cases e
end

section
variable {c : Cc} {X : Cx} {e a b d : Expr} {es : List Expr} {ea eb ed : Ev} {av : Av} {lv : Av} {pos p : Pos}
theorem se_add (ha : SB c X a ea) (hb : SB c X b eb) : SE c X (.BinOp a .Add b pos) (e2 opAdd ea eb) := se_op op_addU l_add ha hb
theorem se_sub (ha : SB c X a ea) (hb : SB c X b eb) : SE c X (.BinOp a .Sub b pos) (e2 opSub ea eb) := se_op op_sub l_sub ha hb
theorem se_mul (ha : SB c X a ea) (hb : SB c X b eb) : SE c X (.BinOp a .Mult b pos) (e2 opMul ea eb) := se_op op_mul l_mul ha hb
theorem se_div (ha : SB c X a ea) (hb : SB c X b eb) : SE c X (.BinOp a .FloorDiv b pos) (e2 opDiv ea eb) := se_op op_fdiv l_div ha hb
theorem se_mod (ha : SB c X a ea) (hb : SB c X b eb) : SE c X (.BinOp a .Mod b pos) (e2 opMod ea eb) := se_op op_mod l_mod ha hb
theorem se_pow (ha : SB c X a ea) (hb : SB c X b eb) : SE c X (.BinOp a .Pow b pos) (e2 opPow ea eb) := se_op op_pow l_pow ha hb
theorem se_neg (ha : SB c X a ea) : SE c X (.UnaryOp .USub a pos) (e1 opNeg ea) := se_un un_neg l_neg ha
theorem se_ix (ha : SB c X a ea) (hb : SB c X b eb) (hs : PlainIx b := by exact fun _ _ => rfl) : SE c X (.Subscript a b pos) (e2 opIx ea eb) :=
  ⟨pe_imp (pe_ix ix_seq ha.pe hb.pe hs) fun σ H Q h => tOp_of (ta := fun _ _ _ => False) (tb := fun _ _ _ => False) l_ix h⟩
theorem se_ltc (ha : SB c X a ea) (hb : SB c X b eb) : SE c X (.Compare a [.Lt] [b] pos) (e2 opLt ea eb) := se_cmp op_lt l_lt ha hb (nomark _)
theorem se_lec (ha : SB c X a ea) (hb : SB c X b eb) : SE c X (.Compare a [.LtE] [b] pos) (e2 opLe ea eb) := se_cmp op_le l_le ha hb (nomark _)
theorem se_gtc (ha : SB c X a ea) (hb : SB c X b eb) : SE c X (.Compare a [.Gt] [b] pos) (e2 opGt ea eb) := se_cmp op_gt l_gt ha hb (nomark _)
theorem se_gec (ha : SB c X a ea) (hb : SB c X b eb) : SE c X (.Compare a [.GtE] [b] pos) (e2 opGe ea eb) := se_cmp op_ge l_ge ha hb (nomark _)
theorem se_eqc (hu : X.A.units + 64 < cLine) (ha : SB c X a ea) (hb : SB c X b eb) : SE c X (.Compare a [.Eq] [b] pos) (e2 opEq ea eb) := se_cmp (op_eqU hu) l_eq ha hb (nomark _)
theorem se_nec (hu : X.A.units + 64 < cLine) (ha : SB c X a ea) (hb : SB c X b eb) : SE c X (.Compare a [.NotEq] [b] pos) (e2 opNe ea eb) := se_cmp (op_neU hu) l_ne ha hb (nomark _)
theorem se_isN (ha : SB c X a ea) (hb : SB c X b eb) : SE c X (.Compare a [.Is] [b] pos) (e2 opIsN ea eb) := se_cmp op_isN l_isN ha hb (nomark _)
theorem se_notN (ha : SB c X a ea) (hb : SB c X b eb) : SE c X (.Compare a [.IsNot] [b] pos) (e2 opNotN ea eb) := se_cmp op_notN l_notN ha hb (nomark _)
theorem se_in (ha : SB c X a ea) (hb : SB c X b eb) (hm : behindInMarks .In b = false := by rfl) : SE c X (.Compare a [.In] [b] pos) (e2 opIn ea eb) := se_cmp op_inU l_in ha hb hm
theorem se_notIn (ha : SB c X a ea) (hb : SB c X b eb) (hm : behindInMarks .NotIn b = false := by rfl) : SE c X (.Compare a [.NotIn] [b] pos) (e2 opNotIn ea eb) := se_cmp op_notInU l_notIn ha hb hm
theorem st_lt (ha : SB c X a ea) (hb : SB c X b eb) : ST c X (.Compare a [.Lt] [b] pos) (tV (e2 opLt ea eb)) := st_cmp op_lt l_lt ha hb (nomark _)
theorem st_le (ha : SB c X a ea) (hb : SB c X b eb) : ST c X (.Compare a [.LtE] [b] pos) (tV (e2 opLe ea eb)) := st_cmp op_le l_le ha hb (nomark _)
theorem st_gt (ha : SB c X a ea) (hb : SB c X b eb) : ST c X (.Compare a [.Gt] [b] pos) (tV (e2 opGt ea eb)) := st_cmp op_gt l_gt ha hb (nomark _)
theorem st_ge (ha : SB c X a ea) (hb : SB c X b eb) : ST c X (.Compare a [.GtE] [b] pos) (tV (e2 opGe ea eb)) := st_cmp op_ge l_ge ha hb (nomark _)
theorem st_eq (hu : X.A.units + 64 < cLine) (ha : SB c X a ea) (hb : SB c X b eb) : ST c X (.Compare a [.Eq] [b] pos) (tV (e2 opEq ea eb)) := st_cmp (op_eqU hu) l_eq ha hb (nomark _)
theorem st_ne (hu : X.A.units + 64 < cLine) (ha : SB c X a ea) (hb : SB c X b eb) : ST c X (.Compare a [.NotEq] [b] pos) (tV (e2 opNe ea eb)) := st_cmp (op_neU hu) l_ne ha hb (nomark _)
theorem st_isN (ha : SB c X a ea) (hb : SB c X b eb) : ST c X (.Compare a [.Is] [b] pos) (tV (e2 opIsN ea eb)) := st_cmp op_isN l_isN ha hb (nomark _)
theorem st_notN (ha : SB c X a ea) (hb : SB c X b eb) : ST c X (.Compare a [.IsNot] [b] pos) (tV (e2 opNotN ea eb)) := st_cmp op_notN l_notN ha hb (nomark _)
theorem st_in (ha : SB c X a ea) (hb : SB c X b eb) (hm : behindInMarks .In b = false := by rfl) : ST c X (.Compare a [.In] [b] pos) (tV (e2 opIn ea eb)) := st_cmp op_inU l_in ha hb hm
theorem st_notIn (ha : SB c X a ea) (hb : SB c X b eb) (hm : behindInMarks .NotIn b = false := by rfl) : ST c X (.Compare a [.NotIn] [b] pos) (tV (e2 opNotIn ea eb)) := st_cmp op_notInU l_notIn ha hb hm
/-- a <= b <= d -/
theorem st_lele (ha : SB c X a ea) (hb : SB c X b eb) (hd : SB c X d ed) (hm : lastMarks [CmpOp.LtE, .LtE] [b, d] = false := by with_unfolding_all rfl) : ST c X (.Compare a [.LtE, .LtE] [b, d] pos) (tV (eCh opLe opLe ea eb ed)) := st_chain op_le op_le l_le l_le ha hb hd hm
theorem st_lelt (ha : SB c X a ea) (hb : SB c X b eb) (hd : SB c X d ed) (hm : lastMarks [CmpOp.LtE, .Lt] [b, d] = false := by with_unfolding_all rfl) : ST c X (.Compare a [.LtE, .Lt] [b, d] pos) (tV (eCh opLe opLt ea eb ed)) := st_chain op_le op_lt l_le l_lt ha hb hd hm
end
end Pu

namespace Pu
open PySem PySem.Spec PyProof.Rows L2

/-! ### built-in functions on data -/
def ints? : List D → Option (List Int)
  | [] => some []
  | .int i :: r => (ints? r).map (i :: ·)
  | _ :: _ => none
@[simp] theorem ints?_map : ∀ ns : List Int, ints? (ns.map D.int) = some ns
  | [] => rfl
  | n :: ns => by show (ints? (ns.map D.int)).map (n :: ·) = _; rw [ints?_map ns]; rfl
theorem ints?_eq : ∀ {ds : List D} {ns : List Int}, ints? ds = some ns → ds = ns.map D.int
  | [], ns, e => by cases e; rfl
  | d :: ds, ns, e => by
    unfold ints? at e
    split at e
    · cases e; rename_i h; cases h
    · rename_i h
      cases h
      obtain ⟨r, e1, e2⟩ := Option.map_eq_some_iff.mp e
      subst e2
      rw [ints?_eq e1]; rfl
    · cases e
def bls? : List D → Option (List Bool)
  | [] => some []
  | .bl i :: r => (bls? r).map (i :: ·)
  | _ :: _ => none
@[simp] theorem bls?_map : ∀ ns : List Bool, bls? (ns.map D.bl) = some ns
  | [] => rfl
  | n :: ns => by show (bls? (ns.map D.bl)).map (n :: ·) = _; rw [bls?_map ns]; rfl
theorem bls?_eq : ∀ {ds : List D} {ns : List Bool}, bls? ds = some ns → ds = ns.map D.bl
  | [], ns, e => by cases e; rfl
  | d :: ds, ns, e => by
    unfold bls? at e
    split at e
    · cases e; rename_i h; cases h
    · rename_i h
      cases h
      obtain ⟨r, e1, e2⟩ := Option.map_eq_some_iff.mp e
      subst e2
      rw [bls?_eq e1]; rfl
    · cases e
def strs? : List D → Option (List Str)
  | [] => some []
  | .str i :: r => (strs? r).map (i :: ·)
  | _ :: _ => none
@[simp] theorem strs?_map : ∀ ns : List Str, strs? (ns.map D.str) = some ns
  | [] => rfl
  | n :: ns => by show (strs? (ns.map D.str)).map (n :: ·) = _; rw [strs?_map ns]; rfl
theorem strs?_eq : ∀ {ds : List D} {ns : List Str}, strs? ds = some ns → ds = ns.map D.str
  | [], ns, e => by cases e; rfl
  | d :: ds, ns, e => by
    unfold strs? at e
    split at e
    · cases e; rename_i h; cases h
    · rename_i h
      cases h
      obtain ⟨r, e1, e2⟩ := Option.map_eq_some_iff.mp e
      subst e2
      rw [strs?_eq e1]; rfl
    · cases e
/-- the greatest, the least -/
def maxL : List Int → Int
  | [] => 0
  | [x] => x
  | x :: y :: r => max x (maxL (y :: r))
def minL : List Int → Int
  | [] => 0
  | [x] => x
  | x :: y :: r => min x (minL (y :: r))
theorem maxL_mem : ∀ {l : List Int}, l ≠ [] → maxL l ∈ l
  | [], h => absurd rfl h
  | [x], _ => by simp [maxL]
  | x :: y :: r, _ => by
    have := maxL_mem (l := y :: r) (by simp)
    unfold maxL
    by_cases h : x ≤ maxL (y :: r)
    · rw [Int.max_eq_right h]; exact List.mem_cons_of_mem _ this
    · rw [Int.max_eq_left (by omega)]; exact List.mem_cons_self
theorem maxL_ge : ∀ {l : List Int} {a : Int}, a ∈ l → a ≤ maxL l
  | [], _, h => by cases h
  | [x], a, h => by rw [List.mem_singleton.mp h]; exact Int.le_refl _
  | x :: y :: r, a, h => by
    unfold maxL
    rcases List.mem_cons.mp h with rfl | h
    · exact Int.le_max_left _ _
    · exact Int.le_trans (maxL_ge h) (Int.le_max_right _ _)
theorem minL_mem : ∀ {l : List Int}, l ≠ [] → minL l ∈ l
  | [], h => absurd rfl h
  | [x], _ => by simp [minL]
  | x :: y :: r, _ => by
    have := minL_mem (l := y :: r) (by simp)
    unfold minL
    by_cases h : x ≤ minL (y :: r)
    · rw [Int.min_eq_left h]; exact List.mem_cons_self
    · rw [Int.min_eq_right (by omega)]; exact List.mem_cons_of_mem _ this
theorem minL_le : ∀ {l : List Int} {a : Int}, a ∈ l → minL l ≤ a
  | [], _, h => by cases h
  | [x], a, h => by rw [List.mem_singleton.mp h]; exact Int.le_refl _
  | x :: y :: r, a, h => by
    unfold minL
    rcases List.mem_cons.mp h with rfl | h
    · exact Int.min_le_left _ _
    · exact Int.le_trans (Int.min_le_right _ _) (minL_le h)
theorem maxL_uniq {l : List Int} {m : Int} (h1 : m ∈ l) (h2 : ∀ a ∈ l, a ≤ m) : m = maxL l := by
  have h3 := maxL_mem (l := l) (fun z => by rw [z] at h1; cases h1)
  have h4 := h2 _ h3
  have h5 := maxL_ge h1
  omega
theorem minL_uniq {l : List Int} {m : Int} (h1 : m ∈ l) (h2 : ∀ a ∈ l, m ≤ a) : m = minL l := by
  have h3 := minL_mem (l := l) (fun z => by rw [z] at h1; cases h1)
  have h4 := h2 _ h3
  have h5 := minL_le h1
  omega
def fLen : List D → Option D
  | [.lst ds] => some (.int ds.length)
  | [.tup ds] => some (.int ds.length)
  | [.scr ns] => some (.int ns.length)
  | [.str s] => if s.length ≤ sizeLine then some (.int s.length) else none
  | _ => none
def fAbs : List D → Option D
  | [.int i] => some (.int (if i < 0 then -i else i))
  | _ => none
def fMax2 : List D → Option D
  | [.int i, .int j] => some (.int (max i j))
  | _ => none
def fMin2 : List D → Option D
  | [.int i, .int j] => some (.int (min i j))
  | _ => none
def fInt : List D → Option D
  | [.int i] => some (.int i)
  | [.bl b] => some (.int (if b then 1 else 0))
  | _ => none
def fSum : List D → Option D
  | [.lst ds] => (ints? ds).map fun ns => .int ns.sum
  | _ => none
def fMaxL : List D → Option D
  | [.lst ds] => (ints? ds).bind fun ns => if ns.isEmpty = true then none else some (.int (maxL ns))
  | _ => none
def fMinL : List D → Option D
  | [.lst ds] => (ints? ds).bind fun ns => if ns.isEmpty = true then none else some (.int (minL ns))
  | _ => none
def fAll : List D → Option D
  | [.lst ds] => (bls? ds).map fun bs => .bl (bs.all id)
  | _ => none
def fAny : List D → Option D
  | [.lst ds] => (bls? ds).map fun bs => .bl (bs.any id)
  | _ => none
def fGcd : List D → Option D
  | [.int i, .int j] => some (.int ((Nat.gcd i.natAbs j.natAbs : Nat) : Int))
  | _ => none
def fJoin : D → List D → Option D
  | .str a, [.lst ds] => (strs? ds).bind fun ys => if (ys.map (·.length)).sum + ys.length * a.length ≤ 16777216 then some (.str (Txt.join a ys)) else none
  | _, _ => none
/-- list(x): a new one -/
def fList : List D → Option (List D)
  | [.lst ds] => some ds
  | [.tup ds] => some ds
  | _ => none
section
variable {K : Kc}
theorem repsB1 {F H : Hp} {xs : List V} {d : D} (h : RepsB K F H xs [d]) : ∃ v, xs = [v] ∧ RepB K F H v d := by
  cases h with
  | cons h r => cases r; exact ⟨_, rfl, h⟩
theorem repsB2 {F H : Hp} {xs : List V} {d e : D} (h : RepsB K F H xs [d, e]) : ∃ v w, xs = [v, w] ∧ RepB K F H v d ∧ RepB K F H w e := by
  cases h with
  | cons h r =>
    obtain ⟨w, rfl, h'⟩ := repsB1 r
    exact ⟨_, _, rfl, h, h'⟩
theorem RepB.scr {F H : Hp} {v : V} {ns : List Int} (le : Same F H) (h : RepB K F H v (.scr ns)) : ∃ a, v = .ref a ∧ SqL K.K H a (ns.map V.int) := by
  rcases h with h | ⟨a, vs, ds', h1, h2, h3, h4⟩
  · cases h with
    | scr h => exact ⟨_, rfl, le.seq h⟩
  · cases h2
theorem l_len : LiftN K (fun xs H Q => ∃ x n, xs = [x] ∧ LenV K.K x H n ∧ Q (.int n) H) fLen := by
  intro F H xs ds dz Q le h e q
  unfold fLen at e; split at e
  · obtain ⟨v, rfl, hv⟩ := repsB1 h
    obtain ⟨a, vs, rfl, h1, h2⟩ := hv.lst le
    cases e
    exact ⟨_, _, rfl, .inl ⟨vs, .inl (.inl h1), h2.length.symm⟩, q _ H F (Grow.refl le) (.int _)⟩
  · obtain ⟨v, rfl, hv⟩ := repsB1 h
    obtain ⟨a, vs, rfl, h1, h2⟩ := hv.tup le
    cases e
    exact ⟨_, _, rfl, .inr ⟨vs, h1, h2.length.symm⟩, q _ H F (Grow.refl le) (.int _)⟩
  · obtain ⟨v, rfl, hv⟩ := repsB1 h
    obtain ⟨a, rfl, h1⟩ := hv.scr le
    cases e
    exact ⟨_, _, rfl, .inl ⟨_, h1, (List.length_map ..).symm⟩, q _ H F (Grow.refl le) (.int _)⟩
  · obtain ⟨v, rfl, hv⟩ := repsB1 h
    split at e
    · rename_i hz
      cases e
      exact ⟨_, _, rfl, by rw [hv.str]; exact ⟨hz, rfl⟩, q _ H F (Grow.refl le) (.int _)⟩
    · cases e
  · cases e
theorem l_abs : LiftN K (fun xs H Q => ∃ i, xs = [.int i] ∧ Q (.int (if i < 0 then -i else i)) H) fAbs := by
  intro F H xs ds dz Q le h e q
  unfold fAbs at e; split at e
  · obtain ⟨v, rfl, hv⟩ := repsB1 h
    cases e
    exact ⟨_, by rw [hv.int], q _ H F (Grow.refl le) (.int _)⟩
  · cases e
theorem l_max2 : LiftN K (fun xs H Q => ∃ i j, xs = [.int i, .int j] ∧ Q (.int (if j > i then j else i)) H) fMax2 := by
  intro F H xs ds dz Q le h e q
  unfold fMax2 at e; split at e
  · rename_i i j
    obtain ⟨v, w, rfl, hv, hw⟩ := repsB2 h
    cases e
    have z : max i j = if j > i then j else i := by
      by_cases hh : j > i
      · rw [if_pos hh]; omega
      · rw [if_neg hh]; omega
    exact ⟨_, _, by rw [hv.int, hw.int], q _ H F (Grow.refl le) (by rw [z]; exact .int _)⟩
  · cases e
theorem l_min2 : LiftN K (fun xs H Q => ∃ i j, xs = [.int i, .int j] ∧ Q (.int (if j < i then j else i)) H) fMin2 := by
  intro F H xs ds dz Q le h e q
  unfold fMin2 at e; split at e
  · rename_i i j
    obtain ⟨v, w, rfl, hv, hw⟩ := repsB2 h
    cases e
    have z : min i j = if j < i then j else i := by
      by_cases hh : j < i
      · rw [if_pos hh]; omega
      · rw [if_neg hh]; omega
    exact ⟨_, _, by rw [hv.int, hw.int], q _ H F (Grow.refl le) (by rw [z]; exact .int _)⟩
  · cases e
theorem l_int : LiftN K (fun xs H Q => (∃ i, xs = [.int i] ∧ Q (.int i) H) ∨ ∃ k, xs = [.bl k] ∧ Q (.int (if k then 1 else 0)) H) fInt := by
  intro F H xs ds dz Q le h e q
  unfold fInt at e; split at e
  · obtain ⟨v, rfl, hv⟩ := repsB1 h
    cases e
    exact .inl ⟨_, by rw [hv.int], q _ H F (Grow.refl le) (.int _)⟩
  · obtain ⟨v, rfl, hv⟩ := repsB1 h
    cases e
    exact .inr ⟨_, by rw [hv.bl], q _ H F (Grow.refl le) (.int _)⟩
  · cases e
theorem l_sum : LiftN K (rSum K.K) fSum := by
  intro F H xs ds dz Q le h e q
  unfold fSum at e; split at e
  · obtain ⟨v, rfl, hv⟩ := repsB1 h
    obtain ⟨a, vs, rfl, h1, h2⟩ := hv.lst le
    obtain ⟨ns, e1, rfl⟩ := Option.map_eq_some_iff.mp e
    have e2 := ints?_eq e1; subst e2
    have e3 := h2.ints; subst e3
    exact ⟨a, ns, rfl, .inl (.inl h1), q _ H F (Grow.refl le) (.int _)⟩
  · cases e
theorem l_maxL : LiftN K (rMax K.K) fMaxL := by
  intro F H xs ds dz Q le h e q
  unfold fMaxL at e; split at e
  · obtain ⟨v, rfl, hv⟩ := repsB1 h
    obtain ⟨a, vs, rfl, h1, h2⟩ := hv.lst le
    obtain ⟨ns, e1, e4⟩ := Option.bind_eq_some_iff.mp e
    have e2 := ints?_eq e1; subst e2
    have e3 := h2.ints; subst e3
    split at e4
    · cases e4
    · rename_i hne
      cases e4
      refine ⟨a, ns, rfl, .inl (.inl h1), ?_, fun m hm hg => ?_⟩
      · cases ns with
        | nil => exact absurd rfl hne
        | cons x r => exact Nat.succ_pos _
      · rw [maxL_uniq hm hg]
        exact q _ H F (Grow.refl le) (.int _)
  · cases e
theorem l_minL : LiftN K (rMin K.K) fMinL := by
  intro F H xs ds dz Q le h e q
  unfold fMinL at e; split at e
  · obtain ⟨v, rfl, hv⟩ := repsB1 h
    obtain ⟨a, vs, rfl, h1, h2⟩ := hv.lst le
    obtain ⟨ns, e1, e4⟩ := Option.bind_eq_some_iff.mp e
    have e2 := ints?_eq e1; subst e2
    have e3 := h2.ints; subst e3
    split at e4
    · cases e4
    · rename_i hne
      cases e4
      refine ⟨a, ns, rfl, .inl (.inl h1), ?_, fun m hm hg => ?_⟩
      · cases ns with
        | nil => exact absurd rfl hne
        | cons x r => exact Nat.succ_pos _
      · rw [minL_uniq hm hg]
        exact q _ H F (Grow.refl le) (.int _)
  · cases e
theorem l_all : LiftN K (rAll K.K) fAll := by
  intro F H xs ds dz Q le h e q
  unfold fAll at e; split at e
  · obtain ⟨v, rfl, hv⟩ := repsB1 h
    obtain ⟨a, vs, rfl, h1, h2⟩ := hv.lst le
    obtain ⟨ns, e1, rfl⟩ := Option.map_eq_some_iff.mp e
    have e2 := bls?_eq e1; subst e2
    have e3 := h2.bls; subst e3
    exact ⟨a, ns, rfl, .inl (.inl h1), q _ H F (Grow.refl le) (.bl _)⟩
  · cases e
theorem l_any : LiftN K (rAny K.K) fAny := by
  intro F H xs ds dz Q le h e q
  unfold fAny at e; split at e
  · obtain ⟨v, rfl, hv⟩ := repsB1 h
    obtain ⟨a, vs, rfl, h1, h2⟩ := hv.lst le
    obtain ⟨ns, e1, rfl⟩ := Option.map_eq_some_iff.mp e
    have e2 := bls?_eq e1; subst e2
    have e3 := h2.bls; subst e3
    exact ⟨a, ns, rfl, .inl (.inl h1), q _ H F (Grow.refl le) (.bl _)⟩
  · cases e
theorem l_gcd : LiftN K rGcd fGcd := by
  intro F H xs ds dz Q le h e q
  unfold fGcd at e; split at e
  · obtain ⟨v, w, rfl, hv, hw⟩ := repsB2 h
    cases e
    exact ⟨_, _, by rw [hv.int, hw.int], q _ H F (Grow.refl le) (.int _)⟩
  · cases e

end

section
variable {c : Cc} {X : Cx} {e a b d : Expr} {es : List Expr} {ea eb ed : Ev} {av : Av} {lv : Av} {pos p : Pos} {x : Str} {id T : String} {r : List V → Hp → VK → Prop} {g : List D → Option D}
theorem tCB_of (l : LiftN (X.kc c) r g) {σ : Sg} {H : Hp} {Q : VK} (h : tE (X.kc c) c (eF g av) σ H Q) : tCB r (tAB (X.kc c) c av) σ H Q := by
  obtain ⟨F, ρ, rl, q⟩ := h
  refine tG_bind rl q fun xs ds H1 F1 g1 rl1 rx q1 => ?_
  obtain ⟨dz, e, q3⟩ := finOf q1
  exact l rl1.le rx e q3
theorem se_callB (hc : CallR X (.builtin id) r) (l : LiftN (X.kc c) r g) (hg : Gl X x) (hm : X.mg x = none) (hv : bootBuiltins x = some (.builtin id)) (ha : SAB c X (e :: es) av) (hn : x ≠ "__name__" := by decide) (hdb : (x == ("__debug__" : Str)) = false := by decide)
    (he : starEach (e :: es) X.env = (false, eval e X.env) :: starEach es X.env := by rfl) (hpl : (backTo pos (starEach es X.env)).any (·.1) = false := by rfl) : SE c X (.Call (.Name x p) (e :: es) [] pos) (eF g av) :=
  ⟨pe_imp (pe_callB hc hg hm hv ha.pa hn hdb he hpl) fun σ H Q h => tCB_of l h⟩
theorem se_callTy (hc : CallR X (.type T) r) (l : LiftN (X.kc c) r g) (hg : Gl X x) (hm : X.mg x = none) (hv : bootBuiltins x = some (.type T)) (ha : SAB c X (e :: es) av) (hn : x ≠ "__name__" := by decide) (hdb : (x == ("__debug__" : Str)) = false := by decide)
    (he : starEach (e :: es) X.env = (false, eval e X.env) :: starEach es X.env := by rfl) (hpl : (backTo pos (starEach es X.env)).any (·.1) = false := by rfl) : SE c X (.Call (.Name x p) (e :: es) [] pos) (eF g av) :=
  ⟨pe_imp (pe_callTy hc hg hm hv ha.pa hn hdb he hpl) fun σ H Q h => tCB_of l h⟩
theorem se_callBf (hc : CallR X (.builtin id) r) (l : LiftN (X.kc c) r g) (hg : Gl X x) (hm : X.mg x = some (.builtin id)) (ha : SAB c X (e :: es) av) (hdb : (x == ("__debug__" : Str)) = false := by decide)
    (he : starEach (e :: es) X.env = (false, eval e X.env) :: starEach es X.env := by rfl) (hpl : (backTo pos (starEach es X.env)).any (·.1) = false := by rfl) : SE c X (.Call (.Name x p) (e :: es) [] pos) (eF g av) :=
  ⟨pe_imp (pe_callBfun hc hg hm ha.pa hdb he hpl) fun σ H Q h => tCB_of l h⟩
theorem se_len (hg : Gl X "len") (hm : X.mg "len" = none) (ha : SAB c X (e :: es) av) (he : starEach (e :: es) X.env = (false, eval e X.env) :: starEach es X.env := by rfl) (hpl : (backTo pos (starEach es X.env)).any (·.1) = false := by rfl) :
    SE c X (.Call (.Name "len" p) (e :: es) [] pos) (eF fLen av) := se_callB call_len l_len hg hm (by decide +kernel) ha (by decide) (by decide) he hpl
end
end Pu

namespace Pu
open PySem PySem.Spec PyProof.Rows L2

/-! ### a new object added to the heap alone -/
theorem SlotOk.hmono {K : Kc} {n : Nat} {oa : Nat → Option Addr} {F H H' : Hp} {x : Option (Option V)} {o : Option Addr} (g : Same H H') : ∀ {s : Slot}, SlotOk K n F H oa x o s → SlotOk K n F H' oa x o s
  | .un, h => h
  | .val d, h => h
  | .own ds, ⟨a, vs, h1, h2, h3, h4⟩ => ⟨a, vs, h1, h2, g _ _ h3, h4⟩
  | .ob C fs, ⟨a, dx, fv, h1, h2, h3, h4⟩ => ⟨a, dx, fv, h1, h2, g _ _ h3, h4⟩
  | .own2 js, ⟨a, ps, h1, h2, h3, h4, h5⟩ => ⟨a, ps, h1, h2, g _ _ h3, h4, h5⟩
  | .al j, h => h
theorem Rel.hmono {K : Kc} {c : Cc} {F H H' : Hp} {ρ : PEnv} {σ : Sg} (r : Rel K c F ρ σ H) (g : Same H H') : Rel K c F ρ σ H' := by
  obtain ⟨oa, h1, h2, h3, h4⟩ := r.sl
  exact ⟨r.b.trans g, r.f0, r.le.trans g, r.nw, r.len, r.len2, oa, fun i s e => (h1 i s e).hmono g, h2, h3, h4⟩
def oaSet (oa : Nat → Option Addr) (i : Nat) (o : Option Addr) : Nat → Option Addr := fun j => if j = i then o else oa j
theorem oaSet_same {oa : Nat → Option Addr} {i : Nat} {o : Option Addr} : oaSet oa i o i = o := if_pos rfl
theorem oaSet_ne {oa : Nat → Option Addr} {i j : Nat} {o : Option Addr} (h : ¬ j = i) : oaSet oa i o j = oa j := if_neg h
theorem oaSet_far {oa : Nat → Option Addr} {n i : Nat} {o : Option Addr} (h : i < n) : ∀ j, n ≤ j → (oa j).isSome = true → oaSet oa i o j = oa j := fun j l _ => oaSet_ne (by omega)
/-- slots set to a value that never changes, or to nothing -/
theorem Rel.setV {K : Kc} {c : Cc} {F H : Hp} {ρ : PEnv} {σ : Sg} {i : Nat} {s : Slot} {x : Option V} (r : Rel K c F ρ σ H) (hi : ∀ a, c.io ≠ some (i, a)) (hl : i < c.n)
    (hs : ∀ oa, (∀ i s, ρ[i]? = some s → SlotOk K c.n F H oa σ[i]? (oa i) s) → SlotOk K c.n F H oa (some x) none s) : Rel K c F (ρ.set i s) (σ.set i x) H := by
  obtain ⟨oa, h1, h2, h3, h4⟩ := r.sl
  refine ⟨r.b, r.f0, r.le, r.nw, by simp [r.len], by simp [r.len2], oaSet oa i none, fun j t e => ?_, fun j k a e1 e2 => ?_, fun j a e => ?_, fun j a e => ?_⟩
  · by_cases q : j = i
    · subst q
      rw [List.getElem?_set_self (Nat.lt_of_lt_of_le hl r.len2)] at e
      cases e
      rw [oaSet_same, List.getElem?_set_self (by rw [r.len]; exact hl)]
      exact (hs oa h1).oaNe (oaSet_far hl)
    · rw [List.getElem?_set_ne (Ne.symm q)] at e
      rw [oaSet_ne q, List.getElem?_set_ne (Ne.symm q)]
      exact (h1 j t e).oaNe (oaSet_far hl)
  · by_cases q : j = i
    · rw [q, oaSet_same] at e1; cases e1
    · by_cases q' : k = i
      · rw [q', oaSet_same] at e2; cases e2
      · rw [oaSet_ne q] at e1; rw [oaSet_ne q'] at e2; exact h2 j k a e1 e2
  · by_cases q : j = i
    · rw [q, oaSet_same] at e; cases e
    · rw [oaSet_ne q] at e
      obtain ⟨f, b, l⟩ := h3 j a e
      exact ⟨f, b, by simpa using l⟩
  · have q : j ≠ i := fun z => hi a (by rw [← z]; exact e)
    rw [oaSet_ne q]; exact h4 j a e
theorem Rel.set {K : Kc} {c : Cc} {F H : Hp} {ρ : PEnv} {σ : Sg} {i : Nat} {d : D} {v : V} (r : Rel K c F ρ σ H) (hi : ∀ a, c.io ≠ some (i, a)) (hl : i < c.n) (h : Rep K F v d) : Rel K c F (ρ.set i (.val d)) (σ.set i (some v)) H :=
  r.setV hi hl fun _ _ => ⟨rfl, v, rfl, h⟩
def wipeR (ρ : PEnv) : List Nat → PEnv
  | [] => ρ
  | v :: vs => (wipeR ρ vs).set v .un
theorem Rel.wipe {K : Kc} {c : Cc} {F H : Hp} {ρ : PEnv} {σ : Sg} (r : Rel K c F ρ σ H) : ∀ vs : List Nat, (∀ i ∈ vs, ∀ a, c.io ≠ some (i, a)) → (∀ i ∈ vs, i < c.n) → Rel K c F (wipeR ρ vs) (wipe σ vs) H
  | [], _, _ => r
  | v :: vs, h, g => (Rel.wipe r vs (fun i hi => h i (List.mem_cons_of_mem _ hi)) fun i hi => g i (List.mem_cons_of_mem _ hi)).setV (h v List.mem_cons_self) (g v List.mem_cons_self) fun _ _ => rfl
theorem Rel.noa {K : Kc} {c : Cc} {F H : Hp} {ρ : PEnv} {σ : Sg} {oa : Nat → Option Addr} (h1 : ∀ i s, ρ[i]? = some s → SlotOk K c.n F H oa σ[i]? (oa i) s) {p : Addr} (n : H p = none) : ∀ j a, oa j = some a → j < ρ.length → a ≠ p := fun j a e l z => by
  subst z
  obtain ⟨u, hu⟩ := (h1 j _ (List.getElem?_eq_getElem l)).there e
  rw [n] at hu; cases hu
/-- a slot gets a new list of its own -/
theorem Rel.setOwnG {K : Kc} {c : Cc} {F H : Hp} {ρ : PEnv} {σ : Sg} {i : Nat} {s : Slot} {vs : List V} {p : Addr} (r : Rel K c F ρ σ H) (hi : ∀ a, c.io ≠ some (i, a)) (hl : i < c.n) (n : H p = none)
    (h : ∀ oa, (∀ i s, ρ[i]? = some s → SlotOk K c.n F H oa σ[i]? (oa i) s) → SlotOk K c.n F (upd H p (.lst vs)) oa (some (some (.ref p))) (some p) s) :
    Rel K c F (ρ.set i s) (σ.set i (some (.ref p))) (upd H p (.lst vs)) := by
  have r' := r.hmono (same_upd (o := .lst vs) n)
  obtain ⟨oa, h1, h2, h3, h4⟩ := r.sl
  have np := Rel.noa h1 n
  have hl' : i < ρ.length := Nat.lt_of_lt_of_le hl r.len2
  refine ⟨r'.b, r'.f0, r'.le, r'.nw, by simp [r'.len], by simp [r'.len2], oaSet oa i (some p), fun j t e => ?_, fun j k a e1 e2 => ?_, fun j a e => ?_, fun j a e => ?_⟩
  · by_cases q : j = i
    · subst q
      rw [List.getElem?_set_self hl'] at e
      cases e
      rw [oaSet_same, List.getElem?_set_self (by rw [r.len]; exact hl)]
      exact (h oa h1).oaNe (oaSet_far hl)
    · rw [List.getElem?_set_ne (Ne.symm q)] at e
      rw [oaSet_ne q, List.getElem?_set_ne (Ne.symm q)]
      exact ((h1 j t e).hmono (same_upd n)).oaNe (oaSet_far hl)
  · by_cases q : j = i
    · rw [q, oaSet_same] at e1; cases e1
      by_cases q' : k = i
      · rw [q, q']
      · rw [oaSet_ne q'] at e2; exact absurd rfl (np k p e2 (h3 k p e2).2.2)
    · rw [oaSet_ne q] at e1
      by_cases q' : k = i
      · rw [q', oaSet_same] at e2; cases e2; exact absurd rfl (np j p e1 (h3 j p e1).2.2)
      · rw [oaSet_ne q'] at e2; exact h2 j k a e1 e2
  · by_cases q : j = i
    · rw [q, oaSet_same] at e; cases e
      exact ⟨r.le.free n, r.b.free n, by simpa [q] using hl'⟩
    · rw [oaSet_ne q] at e
      obtain ⟨f, b, l⟩ := h3 j a e
      exact ⟨f, b, by simpa using l⟩
  · have q : j ≠ i := fun z => hi a (by rw [← z]; exact e)
    rw [oaSet_ne q]; exact h4 j a e
theorem Rel.setOwn {K : Kc} {c : Cc} {F H : Hp} {ρ : PEnv} {σ : Sg} {i : Nat} {ds : List D} {vs : List V} {p : Addr} (r : Rel K c F ρ σ H) (hi : ∀ a, c.io ≠ some (i, a)) (hl : i < c.n) (n : H p = none) (h : Reps K F vs ds) :
    Rel K c F (ρ.set i (.own ds)) (σ.set i (some (.ref p))) (upd H p (.lst vs)) :=
  r.setOwnG hi hl n fun _ _ => ⟨p, vs, rfl, .inr rfl, upd_same, h⟩
/-- a list of one's own is changed -/
theorem Rel.putOwnG {K : Kc} {c : Cc} {F H : Hp} {ρ : PEnv} {σ : Sg} {i : Nat} {ds ds' : List D} {vs' : List V} {a : Addr} (r : Rel K c F ρ σ H) (e : ρ[i]? = some (.own ds))
    (ea : ∀ oa, (∀ i s, ρ[i]? = some s → SlotOk K c.n F H oa σ[i]? (oa i) s) → oa i = some a) (h : Reps K F vs' ds') :
    Rel K c F (ρ.set i (.own ds')) σ (upd H a (.lst vs')) := by
  obtain ⟨oa, h1, h2, h3, h4⟩ := r.sl
  obtain ⟨b, ws, o1, o2, o3, o4⟩ := h1 i _ e
  have o1' := ea oa h1
  rw [o1] at o1'; cases o1'
  have hl : i < ρ.length := (List.getElem?_eq_some_iff.mp e).1
  obtain ⟨f, bb, _⟩ := h3 i a o1
  have oth : ∀ {Z : Hp}, Z a = none → Same Z H → Same Z (upd H a (.lst vs')) := fun {Z} z s x o q => by
    by_cases w : x = a
    · subst w; rw [z] at q; cases q
    · rw [upd_ne w]; exact s x o q
  refine ⟨oth bb r.b, r.f0, oth f r.le, r.nw, r.len, by simp [r.len2], oa, fun j t q => ?_, h2, fun j x q => ?_, h4⟩
  · by_cases w : j = i
    · subst w
      rw [List.getElem?_set_self hl] at q; cases q
      exact ⟨a, vs', o1, o2, upd_same, h⟩
    · rw [List.getElem?_set_ne (Ne.symm w)] at q
      have o := h1 j t q
      cases t with
      | un => exact o
      | val d => exact o
      | al k => exact o
      | own ds2 =>
        obtain ⟨x, us, p1, p2, p3, p4⟩ := o
        have nx : x ≠ a := fun z => w (h2 j i a (by rw [← z]; exact p1) o1)
        exact ⟨x, us, p1, p2, by rw [upd_ne nx]; exact p3, p4⟩
      | own2 js =>
        obtain ⟨x, us, p1, p2, p3, p4, p5⟩ := o
        have nx : x ≠ a := fun z => w (h2 j i a (by rw [← z]; exact p1) o1)
        exact ⟨x, us, p1, p2, by rw [upd_ne nx]; exact p3, p4, p5⟩
      | ob C fs =>
        obtain ⟨x, dx, us, p1, p2, p3, p4⟩ := o
        have nx : x ≠ a := fun z => w (h2 j i a (by rw [← z]; exact p1) o1)
        exact ⟨x, dx, us, p1, p2, by rw [upd_ne nx]; exact p3, p4⟩
  · obtain ⟨f', b', l'⟩ := h3 j x q
    exact ⟨f', b', by simpa using l'⟩
theorem Rel.putOwn {K : Kc} {c : Cc} {F H : Hp} {ρ : PEnv} {σ : Sg} {i : Nat} {ds ds' : List D} {vs' : List V} {a : Addr} (r : Rel K c F ρ σ H) (e : ρ[i]? = some (.own ds)) (ea : σ[i]? = some (some (.ref a))) (h : Reps K F vs' ds') :
    Rel K c F (ρ.set i (.own ds')) σ (upd H a (.lst vs')) := r.putOwnG e (fun oa h1 => by
  obtain ⟨b, ws, o1, o2, o3, o4⟩ := h1 i _ e
  rw [ea] at o2
  rcases o2 with o2 | o2
  · cases o2
  · cases o2; exact o1) h
/-- an instance of one's own is changed -/
theorem Rel.putOb {K : Kc} {c : Cc} {F H : Hp} {ρ : PEnv} {σ : Sg} {i C : Nat} {fs fs' : List (Str × D)} {fv' : List (Str × V)} {a dx : Addr} (r : Rel K c F ρ σ H) (e : ρ[i]? = some (.ob C fs)) (ea : σ[i]? = some (some (.ref a))) (h : RepF K F fv' fs') :
    Rel K c F (ρ.set i (.ob C fs')) σ (upd H a (.ins (K.cm C) dx fv')) := by
  obtain ⟨oa, h1, h2, h3, h4⟩ := r.sl
  obtain ⟨b, dx0, ws, o1, o2, o3, o4⟩ := h1 i _ e
  rw [ea] at o2; cases o2
  have hl : i < ρ.length := (List.getElem?_eq_some_iff.mp e).1
  obtain ⟨f, bb, _⟩ := h3 i a o1
  have oth : ∀ {Z : Hp}, Z a = none → Same Z H → Same Z (upd H a (.ins (K.cm C) dx fv')) := fun {Z} z s x o q => by
    by_cases w : x = a
    · subst w; rw [z] at q; cases q
    · rw [upd_ne w]; exact s x o q
  refine ⟨oth bb r.b, r.f0, oth f r.le, r.nw, r.len, by simp [r.len2], oa, fun j t q => ?_, h2, fun j x q => ?_, h4⟩
  · by_cases w : j = i
    · subst w
      rw [List.getElem?_set_self hl] at q; cases q
      exact ⟨a, dx, fv', o1, ea, upd_same, h⟩
    · rw [List.getElem?_set_ne (Ne.symm w)] at q
      have o := h1 j t q
      cases t with
      | un => exact o
      | val d => exact o
      | al k => exact o
      | own2 js =>
        obtain ⟨x, us, p1, p2, p3, p4, p5⟩ := o
        have nx : x ≠ a := fun z => w (h2 j i a (by rw [← z]; exact p1) o1)
        exact ⟨x, us, p1, p2, by rw [upd_ne nx]; exact p3, p4, p5⟩
      | own ds2 =>
        obtain ⟨x, us, p1, p2, p3, p4⟩ := o
        have nx : x ≠ a := fun z => w (h2 j i a (by rw [← z]; exact p1) o1)
        exact ⟨x, us, p1, p2, by rw [upd_ne nx]; exact p3, p4⟩
      | ob C fs =>
        obtain ⟨x, dx2, us, p1, p2, p3, p4⟩ := o
        have nx : x ≠ a := fun z => w (h2 j i a (by rw [← z]; exact p1) o1)
        exact ⟨x, dx2, us, p1, p2, by rw [upd_ne nx]; exact p3, p4⟩
  · obtain ⟨f', b', l'⟩ := h3 j x q
    exact ⟨f', b', by simpa using l'⟩
/-- a list of one's own is told to change no more -/
def frz (i : Nat) (ρ : PEnv) : PEnv := match ρ[i]? with
  | some (.own ds) => ρ.set i (.val (.lst ds))
  | _ => ρ
theorem Rel.freeze {K : Kc} {c : Cc} {F H : Hp} {ρ : PEnv} {σ : Sg} {i : Nat} (r : Rel K c F ρ σ H) (hi : ∀ a, c.io ≠ some (i, a)) (hn : i < c.n) : ∃ F', Same F F' ∧ Rel K c F' (frz i ρ) σ H := by
  unfold frz
  split
  · rename_i ds e
    obtain ⟨oa, h1, h2, h3, h4⟩ := r.sl
    obtain ⟨a, vs, o1, o2, o3, o4⟩ := h1 i _ e
    have hl : i < ρ.length := (List.getElem?_eq_some_iff.mp e).1
    obtain ⟨f, bb, _⟩ := h3 i a o1
    have m : Same F (upd F a (.lst vs)) := same_upd f
    refine ⟨upd F a (.lst vs), m, r.b, r.f0.trans m, fun x o q => ?_, fun x o q => ?_, r.len, by simp [r.len2], oaSet oa i none, fun j t q => ?_, fun j k x e1 e2 => ?_, fun j x q => ?_, fun j x q => ?_⟩
    · by_cases w : x = a
      · subst w; rw [upd_same] at q; cases q; exact o3
      · rw [upd_ne w] at q; exact r.le x o q
    · by_cases w : x = a
      · subst w; exact .inr bb
      · rw [upd_ne w] at q; exact r.nw x o q
    · by_cases w : j = i
      · subst w
        rw [List.getElem?_set_self hl] at q; cases q
        rw [oaSet_same]
        refine ⟨rfl, .ref a, o2.resolve_left fun z => ?_, .lst upd_same (o4.mono m)⟩
        have := List.getElem?_eq_none_iff.mp z
        have := r.len
        omega
      · rw [List.getElem?_set_ne (Ne.symm w)] at q
        rw [oaSet_ne w]
        have o := (h1 j t q).oaNe (oaSet_far (o := none) hn)
        cases t with
        | un => exact o
        | al k => exact o
        | own2 js => exact o
        | val d => exact ⟨o.1, o.2.choose, o.2.choose_spec.1, o.2.choose_spec.2.mono m⟩
        | own ds2 =>
          obtain ⟨x, us, p1, p2, p3, p4⟩ := o
          exact ⟨x, us, p1, p2, p3, p4.mono m⟩
        | ob C fs =>
          obtain ⟨x, dx2, us, p1, p2, p3, p4⟩ := o
          exact ⟨x, dx2, us, p1, p2, p3, p4.mono m⟩
    · by_cases q : j = i
      · rw [q, oaSet_same] at e1; cases e1
      · by_cases q' : k = i
        · rw [q', oaSet_same] at e2; cases e2
        · rw [oaSet_ne q] at e1; rw [oaSet_ne q'] at e2; exact h2 j k x e1 e2
    · by_cases w : j = i
      · rw [w, oaSet_same] at q; cases q
      · rw [oaSet_ne w] at q
        obtain ⟨f', b', l'⟩ := h3 j x q
        refine ⟨?_, b', by simpa using l'⟩
        have nx : x ≠ a := fun z => w (h2 j i a (by rw [← z]; exact q) o1)
        rw [upd_ne nx]; exact f'
    · have w : j ≠ i := fun z => hi x (by rw [← z]; exact q)
      rw [oaSet_ne w]; exact h4 j x q
  · exact ⟨F, Same.refl F, r⟩

end Pu

namespace Pu
open PySem PySem.Spec PyProof.Rows L2
/-! ### targets -/
abbrev Gv := D → PEnv → Option PEnv
def gN (i : Nat) : Gv := fun d ρ => some (ρ.set i (.val d))
def gTs : List Nat → List D → PEnv → Option PEnv
  | [], [], ρ => some ρ
  | i :: is, d :: ds, ρ => gTs is ds (ρ.set i (.val d))
  | _, _, _ => none
def gT (is : List Nat) : Gv := fun d ρ => match d with
  | .tup ds => gTs is ds ρ
  | _ => none
/-- what a target does: the slots ix alone are touched -/
def tGt (K : Kc) (c : Cc) (ix : List Nat) (g : Gv) : TG := fun v σ H Q => ∃ F ρ d ρ', Rel K c F ρ σ H ∧ Rep K F v d ∧ g d ρ = some ρ' ∧ ∀ σ', Rel K c F ρ' σ' H → wipe σ' ix = wipe σ ix → Q σ' H
def tGts (K : Kc) (c : Cc) (is : List Nat) : TGs := fun vs σ H Q => ∃ F ρ ds ρ', Rel K c F ρ σ H ∧ Reps K F vs ds ∧ gTs is ds ρ = some ρ' ∧ ∀ σ', Rel K c F ρ' σ' H → wipe σ' is = wipe σ is → Q σ' H
theorem pg_imp {X : Cx} {e : Expr} {t t' : TG} (h : PG X e t) (i : ∀ v σ H Q, t' v σ H Q → t v σ H Q) : PG X e t' := ⟨fun pins s σ H v u Q I r q => h.run pins s σ H v u Q I r (i v σ H Q q)⟩
theorem pgs_imp {X : Cx} {e : List Expr} {t t' : TGs} (h : PGs X e t) (i : ∀ v σ H Q, t' v σ H Q → t v σ H Q) : PGs X e t' := ⟨fun pins s σ H v u Q I r q => h.run pins s σ H v u Q I r (i v σ H Q q)⟩
structure SG (c : Cc) (X : Cx) (tg : Expr) (ix : List Nat) (g : Gv) : Prop where
  io : ∀ i ∈ ix, ∀ a, c.io ≠ some (i, a)
  lt : ∀ i ∈ ix, i < c.n
  pg : PG X tg (tGt (X.kc c) c ix g)
structure SGs (c : Cc) (X : Cx) (tgs : List Expr) (is : List Nat) : Prop where
  io : ∀ i ∈ is, ∀ a, c.io ≠ some (i, a)
  lt : ∀ i ∈ is, i < c.n
  pg : PGs X tgs (tGts (X.kc c) c is)
theorem wipe_get (σ : Sg) : ∀ (vs : List Nat) (j : Nat), (wipe σ vs)[j]? = if j ∈ vs ∧ j < σ.length then some none else σ[j]?
  | [], j => by simp [wipe]
  | v :: vs, j => by
    unfold wipe
    rw [List.getElem?_set, wipe_length, wipe_get σ vs j]
    by_cases e : v = j
    · subst e
      by_cases l : v < σ.length
      · simp [l]
      · simp [l]
    · have e' : j ≠ v := fun z => e z.symm
      simp [e, e']
theorem wipe_ext {σ σ' : Sg} {vs : List Nat} (hl : σ.length = σ'.length) (h : ∀ j, j ∉ vs → σ[j]? = σ'[j]?) : wipe σ vs = wipe σ' vs := by
  apply List.ext_getElem?
  intro j
  rw [wipe_get, wipe_get, hl]
  by_cases e : j ∈ vs
  · by_cases l : j < σ'.length
    · simp [e, l]
    · have l' : ¬ j < σ.length := by omega
      rw [if_neg (fun z => l z.2), if_neg (fun z => l z.2), List.getElem?_eq_none_iff.mpr (Nat.le_of_not_lt l'), List.getElem?_eq_none_iff.mpr (Nat.le_of_not_lt l)]
  · simp [e]; exact h j e
theorem wipe_out {σ σ' : Sg} {vs : List Nat} (h : wipe σ vs = wipe σ' vs) (j : Nat) (hj : j ∉ vs) : σ[j]? = σ'[j]? := by
  have q := congrArg (·[j]?) h
  simp only [wipe_get] at q
  simpa [hj] using q
theorem wipe_wipe (σ : Sg) (vs : List Nat) : wipe (wipe σ vs) vs = wipe σ vs := by
  refine wipe_ext (wipe_length σ vs) fun j hj => ?_
  rw [wipe_get]
  simp [hj]
theorem wipe_len {σ σ' : Sg} {vs : List Nat} (h : wipe σ vs = wipe σ' vs) : σ.length = σ'.length := by
  have q := congrArg List.length h
  rwa [wipe_length, wipe_length] at q
section
variable {c : Cc} {X : Cx} {e a b d tg iter : Expr} {es : List Expr} {ea eb ed : Ev} {av : Av} {lv : Av} {pos p : Pos} {x : Str}
theorem sg_name {i : Nat} {x : Str} (hN : X.N.Nodup) (hi : X.N[i]? = some x := by rfl) (hx : Loc X.env.scope x := by first | exact Or.inl rfl | exact Or.inr rfl) (io : ∀ a, c.io ≠ some (i, a) := by intro _ h; cases h)
    (hf : X.fn x = true ∨ X.env.scope.names.lookup x = some .local := by first | exact .inl rfl | exact .inr rfl | assumption) (hn : c.n = X.N.length := by rfl) : SG c X (.Name x p) [i] (gN i) := by
  have hl : i < c.n := lt_n hn hi
  refine ⟨fun j hj => by rw [List.mem_singleton.mp hj]; exact io, fun j hj => by rw [List.mem_singleton.mp hj]; exact hl, pg_imp (pg_name hN hi hx hf) fun v σ H Q ⟨F, ρ, d, ρ', r, rp, eg, k⟩ => ?_⟩
  cases eg
  refine k _ (r.set io hl rp) (wipe_ext (by simp) fun j hj => ?_)
  have hj' : j ≠ i := fun z => hj (by simp [z])
  rw [List.getElem?_set_ne (Ne.symm hj')]
theorem sgs_nil : SGs c X [] [] := ⟨fun _ h => (nomatch h), fun _ h => (nomatch h), pgs_imp pgs_nil fun vs σ H Q ⟨F, ρ, ds, ρ', r, rp, eg, k⟩ => by
  cases rp with
  | nil => cases eg; exact ⟨rfl, k σ r rfl⟩
  | cons _ _ => cases eg⟩
theorem sgs_cons {i : Nat} {is : List Nat} (h : SG c X e [i] (gN i)) (t : SGs c X es is) (hs : (assignEach (e :: es) X.env).map (·.2) = assign e X.env :: (assignEach es X.env).map (·.2) := by rfl) : SGs c X (e :: es) (i :: is) := by
  refine ⟨fun j hj => ?_, fun j hj => ?_, pgs_imp (pgs_cons h.pg t.pg hs) fun vs σ H Q ⟨F, ρ, ds, ρ', r, rp, eg, k⟩ => ?_⟩
  · rcases List.mem_cons.mp hj with z | z
    · rw [z]; exact h.io i List.mem_cons_self
    · exact t.io j z
  · rcases List.mem_cons.mp hj with z | z
    · rw [z]; exact h.lt i List.mem_cons_self
    · exact t.lt j z
  · cases rp with
    | nil => cases eg
    | @cons v vs d ds rp rps =>
      refine ⟨v, vs, rfl, F, ρ, d, ρ.set i (.val d), r, rp, rfl, fun σ' r' w => ?_⟩
      refine ⟨F, _, ds, ρ', r', rps, eg, fun σ2 r2 w2 => k σ2 r2 ?_⟩
      refine wipe_ext ((wipe_len w2).trans (wipe_len w)) fun j hj => ?_
      rw [wipe_out w2 j (fun z => hj (List.mem_cons_of_mem _ z)), wipe_out w j (fun z => hj (by rw [List.mem_singleton.mp z]; exact List.mem_cons_self))]
theorem gTs_len : ∀ {is : List Nat} {ds : List D} {ρ : PEnv} {ρ' : PEnv}, gTs is ds ρ = some ρ' → ds.length = is.length
  | [], [], _, _, _ => rfl
  | [], _ :: _, _, _, e => by cases e
  | _ :: _, [], _, _, e => by cases e
  | i :: is, d :: ds, ρ, ρ', e => congrArg Nat.succ (gTs_len (is := is) (ds := ds) (ρ := ρ.set i (.val d)) e)
theorem sg_tup {is : List Nat} {k : Nat} (hc : X.calm = true) (h : SGs c X es is) (n : Nat) (hl : is.length = n := by rfl)
    (hn : (assignEach es X.env).length = n := by rfl) (hst : (assignEach es X.env).findIdx? (·.1) = none := by rfl) : SG c X (.Tuple es k pos) is (gT is) := by
  refine ⟨h.io, h.lt, pg_imp (pg_tup hc h.pg hn hst) fun v σ H Q ⟨F, ρ, d, ρ', r, rp, eg, kk⟩ => ?_⟩
  cases d with
  | tup ds =>
    cases rp with
    | @tup a vs ds hs rps =>
      exact ⟨a, vs, rfl, same_seqT r.le hs, by rw [rps.length, gTs_len eg]; exact hl, F, ρ, ds, ρ', r, rps, eg, kk⟩
  | _ => cases eg
end
end Pu

namespace Pu
open PySem PySem.Spec PyProof.Rows L2
/-! ### what is walked -/
section
variable {c : Cc} {X : Cx} {e a b d tg iter : Expr} {es : List Expr} {ea eb ed : Ev} {av : Av} {lv : Av} {pos p : Pos} {x : Str}
def FinI (K : Kc) (c : Cc) (F H : Hp) (r : Res (List D)) (R : It → Hp → Prop) : Prop := match r with
    | .ok ds => ∀ J H1 F1, Grow F H F1 H1 → Walk J ds.length (Same F1) (fun i H x H' => ∀ F, Same F1 F → Same F H → ∃ F' d, Grow F H F' H' ∧ ds[i]? = some d ∧ Rep K F' x d) → R J H1
    | .exc C fs => ExcW K c C fs
    | .stuck => False
def tIt (K : Kc) (c : Cc) (it : Av) : TI := fun σ H R => ∃ F ρ, Rel K c F ρ σ H ∧ FinI K c F H (it ρ) R
theorem pi_imp {X : Cx} {tg iter : Expr} {t t' : TI} (h : PI X tg iter t) (i : ∀ σ H R, t' σ H R → t σ H R) : PI X tg iter t' := ⟨fun pins s σ H R I q => h.run pins s σ H R I (i σ H R q)⟩
structure SI (c : Cc) (X : Cx) (tg iter : Expr) (it : Av) : Prop where
  pi : PI X tg iter (tIt (X.kc c) c it)
theorem PI.or {wi wi' : TI} (h : PI X tg iter wi) (h' : PI X tg iter wi') : PI X tg iter (fun σ H R => wi σ H R ∨ wi' σ H R) :=
  ⟨fun pins s σ H R I q => q.elim (fun q => h.run pins s σ H R I q) fun q => h'.run pins s σ H R I q⟩
def asSeq : D → Res (List D)
  | .lst ds => .ok ds
  | .tup ds => .ok ds
  | .str z => .ok (z.cps.toList.map fun c => .str ⟨#[c]⟩)
  | _ => .stuck
def iS (a : Ev) : Av := fun ρ => (a ρ).bind asSeq
/-- a list or a tuple -/
theorem si_seq (h : SE c X iter ea) : SI c X tg iter (iS ea) := by
  refine ⟨pi_imp (PI.or (PI.or (pi_list h.pe) (pi_tup h.pe)) (pi_str h.pe)) fun σ H R ⟨F, ρ, rl, q⟩ => ?_⟩
  unfold iS at q
  cases z : ea ρ with
  | ok d =>
    rw [z] at q
    cases d with
    | lst ds =>
      refine .inl (.inl ⟨F, ρ, rl, ?_⟩)
      rw [z]
      intro v H1 F1 g rp
      cases rp with
      | lst h1 h2 =>
        rename_i a vs
        refine ⟨a, rfl, ⟨vs, .inl (.inl (g.le _ _ h1))⟩, q _ H1 F1 g ?_⟩
        rw [← h2.length]
        refine Walk.mono walk_list (fun H' s => .inl (.inl (s _ _ h1))) fun i H2 x H3 hi s y F2 s2 s3 => ?_
        obtain ⟨rfl, y⟩ := y
        obtain ⟨d, e1, e2⟩ := h2.getV y
        exact ⟨F2, d, Grow.refl s3, e1, e2.mono s2⟩
    | tup ds =>
      refine .inl (.inr ⟨F, ρ, rl, ?_⟩)
      rw [z]
      intro v H1 F1 g rp
      cases rp with
      | tup h1 h2 =>
        rename_i a vs
        refine ⟨a, rfl, ⟨vs, same_seqT g.le h1⟩, q _ H1 F1 g ?_⟩
        rw [← h2.length]
        refine Walk.mono walk_tup (fun H' s => same_seqT s h1) fun i H2 x H3 hi s y F2 s2 s3 => ?_
        obtain ⟨rfl, y⟩ := y
        obtain ⟨d, e1, e2⟩ := h2.getV y
        exact ⟨F2, d, Grow.refl s3, e1, e2.mono s2⟩
    | str x =>
      refine .inr ⟨F, ρ, rl, ?_⟩
      rw [z]
      intro v H1 F1 g rp
      cases rp
      refine ⟨x, rfl, q _ H1 F1 g ?_⟩
      rw [List.length_map, Array.length_toList]
      refine Walk.mono walk_str (fun H' s => True.intro) fun i H2 y H3 hi s yy F2 s2 s3 => ?_
      obtain ⟨rfl, c, e1, rfl⟩ := yy
      refine ⟨F2, .str ⟨#[c]⟩, Grow.refl s3, ?_, .str _⟩
      rw [List.getElem?_map, Array.getElem?_toList, e1]
      rfl
    | _ => exact q.elim
  | exc C fs => rw [z] at q; exact .inl (.inl ⟨F, ρ, rl, by rw [z]; exact q⟩)
  | stuck => rw [z] at q; exact q.elim
def rgD (lo hi : Int) : List D := (List.range (hi - lo).toNat).map fun i => D.int (lo + (i : Nat))
theorem rgD_length (lo hi : Int) : (rgD lo hi).length = (hi - lo).toNat := by unfold rgD; rw [List.length_map, List.length_range]
theorem rgD_get {lo hi : Int} {i : Nat} (h : i < (hi - lo).toNat) : (rgD lo hi)[i]? = some (.int (lo + i)) := by
  unfold rgD
  rw [List.getElem?_map, List.getElem?_range h]; rfl
def rgOk (i : Int) : Bool := decide (-(2 ^ 62) ≤ i) && decide (i < 2 ^ 62)
def asR1 : List D → Res (List D)
  | [.int j] => if rgOk j = true then .ok (rgD 0 j) else .stuck
  | _ => .stuck
def asR2 : List D → Res (List D)
  | [.int i, .int j] => if (rgOk i && rgOk j) = true then .ok (rgD i j) else .stuck
  | _ => .stuck
def iR1 (a : Av) : Av := fun ρ => (a ρ).bind asR1
def iR2 (a : Av) : Av := fun ρ => (a ρ).bind asR2
theorem walk_rg {K : Kc} {lo hi : Int} {F1 : Hp} : Walk (Itr lo (hi - lo).toNat) (rgD lo hi).length (Same F1) (fun i H x H' => ∀ F, Same F1 F → Same F H → ∃ F' d, Grow F H F' H' ∧ (rgD lo hi)[i]? = some d ∧ Rep K F' x d) := by
  rw [rgD_length]
  refine Walk.mono walk_range (fun _ _ => trivial) fun i H2 x H3 hi s y F2 s2 s3 => ?_
  obtain ⟨rfl, rfl⟩ := y
  exact ⟨F2, _, Grow.refl s3, rgD_get hi, .int _⟩
theorem si_range1 (hg : Gl X "range") (hm : X.mg "range" = none) (ha : SA c X [a] av) (hs : starEach [a] X.env = [(false, eval a X.env)] := by rfl) : SI c X tg (.Call (.Name "range" p) [a] [] pos) (iR1 av) := by
  refine ⟨pi_imp (pi_range1 hg hm ha.pa hs) fun σ H R ⟨F, ρ, rl, q⟩ => ⟨F, ρ, rl, ?_⟩⟩
  unfold iR1 at q
  cases z : av ρ with
  | ok ds =>
    rw [z] at q
    intro vs H1 F1 g rs
    have q' : match asR1 ds with | .ok ds => ∀ J H1 F1, Grow F H F1 H1 → Walk J ds.length (Same F1) (fun i H x H' => ∀ F, Same F1 F → Same F H → ∃ F' d, Grow F H F' H' ∧ ds[i]? = some d ∧ Rep (X.kc c) F' x d) → R J H1 | .exc C fs => ExcW (X.kc c) c C fs | .stuck => False := q
    unfold asR1 at q'
    split at q'
    · rename_i ds' e
      split at e
      · rename_i j
        split at e
        · rename_i hj
          cases e
          cases rs with
          | cons r1 r2 =>
            cases r2; cases r1
            simp only [rgOk, Bool.and_eq_true, decide_eq_true_eq] at hj
            refine ⟨j, rfl, hj.1, hj.2, q' _ H1 F1 g ?_⟩
            have w := walk_rg (K := X.kc c) (lo := 0) (hi := j) (F1 := F1)
            rw [Int.sub_zero] at w
            exact w
        · cases e
      · cases e
    · rename_i e
      split at e
      · split at e <;> cases e
      · cases e
    · exact q'.elim
  | exc C fs => rw [z] at q; exact q
  | stuck => rw [z] at q; exact q.elim
theorem si_range2 (hg : Gl X "range") (hm : X.mg "range" = none) (ha : SA c X [a, b] av) (hs : starEach [a, b] X.env = [(false, eval a X.env), (false, eval b X.env)] := by rfl) (hs2 : starEach [b] X.env = [(false, eval b X.env)] := by rfl) :
    SI c X tg (.Call (.Name "range" p) [a, b] [] pos) (iR2 av) := by
  refine ⟨pi_imp (pi_range2 hg hm ha.pa hs hs2) fun σ H R ⟨F, ρ, rl, q⟩ => ⟨F, ρ, rl, ?_⟩⟩
  unfold iR2 at q
  cases z : av ρ with
  | ok ds =>
    rw [z] at q
    intro vs H1 F1 g rs
    have q' : match asR2 ds with | .ok ds => ∀ J H1 F1, Grow F H F1 H1 → Walk J ds.length (Same F1) (fun i H x H' => ∀ F, Same F1 F → Same F H → ∃ F' d, Grow F H F' H' ∧ ds[i]? = some d ∧ Rep (X.kc c) F' x d) → R J H1 | .exc C fs => ExcW (X.kc c) c C fs | .stuck => False := q
    unfold asR2 at q'
    split at q'
    · rename_i ds' e
      split at e
      · rename_i i j
        split at e
        · rename_i hj
          cases e
          cases rs with
          | cons r1 r2 =>
            cases r2 with
            | cons r2 r3 =>
              cases r3; cases r2; cases r1
              simp only [rgOk, Bool.and_eq_true, decide_eq_true_eq] at hj
              exact ⟨i, j, rfl, ⟨hj.1.1, hj.1.2, hj.2.1, hj.2.2⟩, q' _ H1 F1 g walk_rg⟩
        · cases e
      · cases e
    · rename_i e
      split at e
      · split at e <;> cases e
      · cases e
    · exact q'.elim
  | exc C fs => rw [z] at q; exact q
  | stuck => rw [z] at q; exact q.elim
end
end Pu

namespace Pu
open PySem PySem.Spec PyProof.Rows L2
open Builtin in
set_option maxHeartbeats 1000000 in
theorem meets_enumerate_newB1 {v : Value} {o : Obj} {H : Heap → Prop} (B : Begins v o H) :
    Meets (Builtin.«enumerate.__new__» ⟨[.type "enumerate", v], []⟩) (fun _ R s => H s.heap ∧
      R (.ok (.ret (.ref (s.heap.push o).objs.size))) { s with heap := (s.heap.push o).push { cls := .type "enumerate", data := .fields #[.none, .bool false, .ref s.heap.objs.size, rawInt 0, .none, .none] } }) :=
  .of_wp fun prog w A R s h => by
    obtain ⟨hp, g, d, tk, os⟩ := s; obtain ⟨h1, h⟩ := h
    have hsub := sub_enumerate
    have q1 : ∀ {A' : Around} {E : Value → Shared → Prop} {Q : Value → Shared → Prop}, Q (.ref hp.objs.size) ⟨hp.push o, g, d, tk, os⟩ → wpAny (model prog w) A' (pyIter v) Q E ⟨hp, g, d, tk, os⟩ :=
      fun q => B.iter prog w _ _ ⟨hp, g, d, tk, os⟩ _ h1 q
    wp_walk using q1
    refine wpAny_stack_any fun st => wpAny_pure ?_
    split
    · rename_i c _ _ _ _ _
      cases (c == Value.type "enumerate")
      · wp_walk using q1
        exact ⟨_, rfl, h⟩
      · wp_walk using q1
        exact ⟨_, rfl, h⟩
    · wp_walk using q1
      exact ⟨_, rfl, h⟩
theorem enum_begins1 {prog : Program} {w : World} {A : Around} {E : Value → Shared → Prop} {s : Shared} {v : Value} {o : Obj} {H : Heap → Prop} {Q : Value → Shared → Prop} (B : Begins v o H) (h1 : H s.heap)
    (h : ∀ h', IsEnum h' (s.heap.objs.size + 1) s.heap.objs.size 0 .none → h'.get? s.heap.objs.size = some o → h'.objs.size = s.heap.objs.size + 2 →
      (∀ b o, s.heap.get? b = some o → h'.get? b = some o) → Q (.ref (s.heap.objs.size + 1)) { s with heap := h' }) :
    wpAny (model prog w) A (call (.type "enumerate") [v]) Q E s := by
  refine callType_new F.called_enumerate (by decide) (F.typeCall_enumerate_1 _) (F.newCall_enumerate_1 _) (fun obj => F.args_object_init_2 obj _) F.entry_enumerate_new
    (meets_enumerate_newB1 B) ⟨h1, ?_⟩
  have hz : (s.heap.push o).objs.size = s.heap.objs.size + 1 := Heap.size_push ..
  show _ ∧ _
  rw [hz]
  have he : IsEnum ((s.heap.push o).push { cls := .type "enumerate", data := .fields #[.none, .bool false, .ref s.heap.objs.size, rawInt 0, .none, .none] }) (s.heap.objs.size + 1) s.heap.objs.size 0 .none := by
    have := Heap.get?_push_size (s.heap.push o) (o := { cls := .type "enumerate", data := .fields #[.none, .bool false, .ref s.heap.objs.size, rawInt 0, .none, .none] }) rfl
    rw [hz] at this; exact this
  refine ⟨⟨_, he, rfl⟩, h _ he (Heap.get?_push_of_some _ (Heap.get?_push_size _ B.free)) (by rw [Heap.size_push, hz]) fun b o x => Heap.get?_push_of_some _ (Heap.get?_push_of_some _ x)⟩
def Itet (K : PySem.W.Frag) (a : Addr) : It :=
  ⟨fun i H => ∃ (xs : List V) (x : V), SqT K H a xs ∧ xs[i]? = some x, fun i H v H' => ∃ T x, v = .ref T ∧ H T = none ∧ H' = upd H T (.tup [.int (i : Nat), x]) ∧ ∀ xs, SqT K H a xs → xs[i]? = some x, fun i H => ∃ xs : List V, SqT K H a xs ∧ xs.length = i⟩
theorem turn_enumT {P : Program} {w : World} {K : PySem.W.Frag} {elts : List Expr} {kk : Nat} {tpos : Pos} (a e it : Addr) :
    Turn P w K (.Tuple elts kk tpos) (Itet K a) [e, it] e (fun i h => (∃ old, IsEnum h e it ((i : Nat) : Int) old) ∧ h.IsTupleIter it a i ∧ e ≠ it) where
  mem := by simp
  obj := fun i h st b hb => by
    obtain ⟨⟨old, he⟩, ⟨o, ho, hc, hd⟩, _⟩ := st
    have e' : b = e ∨ b = it := by simpa using hb
    rcases e' with z | z
    · rw [z]; exact ⟨_, he, fun v q => nomatch q⟩
    · rw [z]; exact ⟨o, ho, fun v q => by rw [hd] at q; cases q⟩
  keep := fun i h h' st k => let ⟨⟨old, he⟩, hi, hne⟩ := st; ⟨⟨old, k e (by simp) _ he⟩, hi.at fun o q => k it (by simp) o q, hne⟩
  item := by
    intro X hP hw hK hc i pins s σ H E I hf st hg
    subst hP hw hK
    obtain ⟨⟨old, he⟩, hit, hne⟩ := st
    obtain ⟨xs, x, hq, hx⟩ := hg
    obtain ⟨its, rv, p, hz⟩ := I.tuple hq
    obtain ⟨u, hu, ru⟩ := rv.get hx
    have hT : s.heap.IsTuple a its.toArray := p
    have hel : e < s.heap.objs.size := Heap.lt_size he
    have hil : it < s.heap.objs.size := by obtain ⟨_, q, _⟩ := hit; exact Heap.lt_size q
    have hai : a ≠ it := fun z => by
      obtain ⟨o, q, q2, _⟩ := hit
      obtain ⟨o', q', q2', _⟩ := p
      rw [z, q] at q'; cases q'
      rw [q2] at q2'; revert q2'; decide
    have hea : e ≠ a := fun z => by
      obtain ⟨o', q', q2', _⟩ := p
      rw [← z, he] at q'; cases q'
      exact absurd (show Value.type "enumerate" = Value.type "tuple" from q2') (by decide)
    have hlt : i < its.toArray.size := by
      rw [List.size_toArray]
      exact (List.getElem?_eq_some_iff.mp hu).1
    refine wpAny_pyNext_enum_itemD (Draws.tuple (A := X.A.in1) (I.ok.hd hc) it a hai its.toArray) he ⟨hit, hT⟩ hlt hne (by simp [hne, hea]) fun u' h' tk hu' ho hit' hTT hsz hk => ?_
    have eu : u' = u := by
      have := hu'.symm.trans (show its.toArray[i]? = some u by simpa using hu)
      exact Option.some.inj this
    subst eu
    refine ⟨_, rfl, wpAny_letOwnedTupleGo_enum (s := { s with heap := h', toks := tk + 1 }) ho fun h'' he' sb => ?_⟩
    have hT2 : h''.get? s.heap.objs.size = some { cls := .type "tuple", data := .seq #[.int i tk, u'] } := (sb.2 _ (Nat.ne_of_gt hel)).trans hTT
    have new : ObjOk X.prog X.w (upd H s.heap.objs.size (.tup [.int (i : Nat), x])) h'' s.heap.objs.size (.tup [.int (i : Nat), x]) :=
      ⟨by show 2 ≤ sizeLine; decide, [.int i tk, u'], .cons ⟨_, rfl⟩ (.cons ru .nil), ⟨_, hT2, rfl, _, rfl⟩⟩
    have I1 : Inv X pins σ (upd H s.heap.objs.size (.tup [.int (i : Nat), x])) { s with heap := h'', toks := tk + 1 } :=
      I.turnedNew (ch := [e, it]) (fun b ob hb q => (sb.2 b (fun z => hb (by simp [z]))).trans (hk b ob (fun z => hb (by simp [z])) (fun z => hb (by simp [z])) q)) hf (Nat.le_refl _) new
    refine ⟨.ref s.heap.objs.size, _, I1, rfl, ⟨_, x, rfl, I.hok.fresh (Nat.le_refl _), rfl, fun ys hy => by rw [I.tuple_inj hy hq]; exact hx⟩, ⟨⟨u', ?_⟩, hit'.1.at fun o q => (sb.2 it (Ne.symm hne)).trans q, hne⟩, fun b hb => ?_⟩
    · have e1 : ((i + 1 : Nat) : Int) = (i : Int) + 1 := by omega
      rw [e1]; exact he'
    · have hb' : b < s.heap.objs.size := by
        have e' : b = e ∨ b = it := by simpa using hb
        rcases e' with z | z
        · rw [z]; exact hel
        · rw [z]; exact hil
      rw [upd_ne (Nat.ne_of_lt hb')]
      exact (hf b hb).1
  done := by
    intro X hP hw hK hc i pins s σ H E I hf st hg
    subst hP hw hK
    obtain ⟨⟨old, he⟩, hit, hne⟩ := st
    obtain ⟨xs, hq, hx⟩ := hg
    obtain ⟨its, rv, p, hz⟩ := I.tuple hq
    obtain ⟨f0, f1, f2, f3, f4, f5⟩ := hf it (by simp)
    have hT : s.heap.IsTuple a its.toArray := p
    have hai : a ≠ it := fun z => by
      obtain ⟨o, q, q2, _⟩ := hit
      obtain ⟨o', q', q2', _⟩ := p
      rw [z, q] at q'; cases q'
      rw [q2] at q2'; revert q2'; decide
    have hl := rv.length
    have hi : i = its.toArray.size := by rw [List.size_toArray]; omega
    subst hi
    exact wpAny_pyNext_enum_endD (Draws.tuple (A := X.A.in1) (I.ok.hd hc) it a hai its.toArray) he ⟨hit, hT⟩ fun h' eb => ⟨rfl, I.turned (t' := s.toks) (fun b o hb q => eb b o hb q) f0 f1 f3 f4 f5⟩
  self := fun A i s Q E st h => let ⟨⟨_, he⟩, _⟩ := st; wpAny_pyIter_enum he h
def iEnumT (K : PySem.W.Frag) (ta : TA) : TI := fun σ H R => ta σ H fun vs H1 => ∃ a xs, vs = [.ref a] ∧ SqT K H1 a xs ∧ R (Itet K a) H1
theorem pi_enumT {X : Cx} {e : Expr} {ta : TA} {p pos tpos : Pos} {elts : List Expr} {kk : Nat} (hg : Gl X "enumerate") (hm : X.mg "enumerate" = none) (ha : PA X [e] ta) (hs : starEach [e] X.env = [(false, eval e X.env)] := by rfl) :
    PI X (.Tuple elts kk tpos) (.Call (.Name "enumerate" p) [e] [] pos) (iEnumT X.K ta) := by
  refine ⟨fun pins s σ H R I h => ?_⟩
  refine Call_ (ld_blt I hg hm boot_enumerate (PyProof.Rows.callWith_type1 (thn (ha.run pos pins s σ H _ I h) fun us s1 ⟨vs, H1, I1, r1, q1⟩ => ?_) hs rfl))
  obtain ⟨a, xs, ex, hq, q⟩ := q1
  subst ex
  cases r1 with
  | cons r rr =>
    cases rr
    cases r
    obtain ⟨its, rv, p', hz⟩ := I1.tuple hq
    refine enum_begins1 (begins_tuple a its.toArray) (show s1.heap.IsTuple a its.toArray from p') fun h' he hit hsz hk => wpAny_pyIter_enum he ?_
    have I2 : Inv X pins σ H1 { s1 with heap := h' } := I1.kept (t' := s1.toks) hk
    refine ⟨s1.heap.objs.size + 1, [s1.heap.objs.size + 1, s1.heap.objs.size], _, _, H1, rfl, I2, turn_enumT a (s1.heap.objs.size + 1) s1.heap.objs.size, ⟨⟨.none, he⟩, ⟨_, hit, rfl, rfl⟩, Nat.succ_ne_self _⟩, fun b hb => ?_, q⟩
    have e' : b = s1.heap.objs.size + 1 ∨ b = s1.heap.objs.size := by simpa using hb
    have hle : s1.heap.objs.size ≤ b := by
      rcases e' with z | z
      · rw [z]; exact Nat.le_add_right _ _
      · rw [z]; exact Nat.le_refl _
    exact I1.fpOk hle (I1.hok.fresh hle)

/-! ### enumerate, zip as what is walked -/
def prs : Nat → List D → List D
  | _, [] => []
  | i, d :: ds => .tup [.int (i : Nat), d] :: prs (i + 1) ds
theorem prs_len : ∀ (i : Nat) (ds : List D), (prs i ds).length = ds.length
  | _, [] => rfl
  | i, d :: ds => congrArg Nat.succ (prs_len (i + 1) ds)
theorem prs_get : ∀ {ds : List D} {i j : Nat} {d : D}, ds[j]? = some d → (prs i ds)[j]? = some (.tup [.int ((i + j : Nat)), d])
  | [], i, j, d, h => by simp at h
  | x :: ds, i, 0, d, h => by simp at h; subst h; rfl
  | x :: ds, i, j + 1, d, h => by
    show (prs (i + 1) ds)[j]? = _
    rw [prs_get (i := i + 1) (j := j) (d := d) (by simpa using h)]
    have : i + 1 + j = i + (j + 1) := by omega
    rw [this]
def asE : List D → Res (List D)
  | [.lst ds] => .ok (prs 0 ds)
  | [.tup ds] => .ok (prs 0 ds)
  | _ => .stuck
def iE (a : Av) : Av := fun ρ => (a ρ).bind asE
def asZ : List D → Res (List D)
  | [.lst a, .lst b] => .ok ((a.zip b).map fun q => .tup [q.1, q.2])
  | _ => .stuck
def iZ (a : Av) : Av := fun ρ => (a ρ).bind asZ
section
variable {c : Cc} {X : Cx} {e a b d : Expr} {es : List Expr} {ea eb ed : Ev} {av : Av} {lv : Av} {pos p tpos : Pos} {x : Str} {elts : List Expr} {kk : Nat}
theorem pair_grow {K : Kc} {F2 H2 : Hp} {T : Addr} {x y : V} {d1 d2 : D} (s3 : Same F2 H2) (n : H2 T = none) (r1 : Rep K F2 x d1) (r2 : Rep K F2 y d2) :
    Grow F2 H2 (upd F2 T (.tup [x, y])) (upd H2 T (.tup [x, y])) ∧ Rep K (upd F2 T (.tup [x, y])) (.ref T) (.tup [d1, d2]) :=
  ⟨Grow.laid s3 n, .tup (.inl (.inl upd_same)) (.cons (r1.mono (same_upd (s3.free n))) (.cons (r2.mono (same_upd (s3.free n))) .nil))⟩
theorem si_enum (hg : Gl X "enumerate") (hm : X.mg "enumerate" = none) (ha : SA c X [e] av) (hs : starEach [e] X.env = [(false, eval e X.env)] := by rfl) : SI c X (.Tuple elts kk tpos) (.Call (.Name "enumerate" p) [e] [] pos) (iE av) := by
  refine ⟨pi_imp (PI.or (pi_enum hg hm ha.pa hs) (pi_enumT hg hm ha.pa hs)) fun σ H R ⟨F, ρ, rl, q⟩ => ?_⟩
  unfold iE at q
  cases z : av ρ with
  | ok ds =>
    rw [z] at q
    have q' : match asE ds with | .ok ds => ∀ J H1 F1, Grow F H F1 H1 → Walk J ds.length (Same F1) (fun i H x H' => ∀ F, Same F1 F → Same F H → ∃ F' d, Grow F H F' H' ∧ ds[i]? = some d ∧ Rep (X.kc c) F' x d) → R J H1 | .exc C fs => ExcW (X.kc c) c C fs | .stuck => False := q
    unfold asE at q'
    split at q'
    · rename_i ds' e
      split at e
      · rename_i l
        cases e
        refine .inl ⟨F, ρ, rl, ?_⟩
        rw [z]
        intro vs H1 F1 g rs
        cases rs with
        | cons r1 r2 =>
          cases r2
          cases r1 with
          | lst h1 h2 =>
            rename_i a ws
            refine ⟨a, ws, rfl, .inl (.inl (g.le _ _ h1)), q' _ H1 F1 g ?_⟩
            rw [prs_len, ← h2.length]
            refine Walk.mono walk_enum (fun H' s => .inl (.inl (s _ _ h1))) fun i H2 x H3 hi s y F2 s2 s3 => ?_
            obtain ⟨T, x', y', rfl, n, rfl, e1, e2⟩ := y
            cases e1
            obtain ⟨d, e3, e4⟩ := h2.getV e2
            obtain ⟨g2, r2⟩ := pair_grow (T := T) s3 n (Rep.int (i : Nat)) (e4.mono s2)
            exact ⟨_, _, g2, by rw [prs_get e3, Nat.zero_add], r2⟩
      · rename_i l
        cases e
        refine .inr ⟨F, ρ, rl, ?_⟩
        rw [z]
        intro vs H1 F1 g rs
        cases rs with
        | cons r1 r2 =>
          cases r2
          cases r1 with
          | tup h1 h2 =>
            rename_i a ws
            refine ⟨a, ws, rfl, same_seqT g.le h1, q' _ H1 F1 g ?_⟩
            rw [prs_len, ← h2.length]
            refine ⟨fun i H2 hi s => ⟨ws, ws[i], same_seqT s h1, by simp [hi]⟩, fun H2 s => ⟨ws, same_seqT s h1, rfl⟩, fun i H2 x H3 hi s y F2 s2 s3 => ?_⟩
            obtain ⟨T, x', rfl, n, rfl, e2⟩ := y
            obtain ⟨d, e3, e4⟩ := h2.getV (e2 _ (same_seqT s h1))
            obtain ⟨g2, r2⟩ := pair_grow (T := T) s3 n (Rep.int (i : Nat)) (e4.mono s2)
            exact ⟨_, _, g2, by rw [prs_get e3, Nat.zero_add], r2⟩
      · cases e
    · rename_i e
      split at e <;> cases e
    · exact q'.elim
  | exc C fs => rw [z] at q; exact .inl ⟨F, ρ, rl, by rw [z]; exact q⟩
  | stuck => rw [z] at q; exact q.elim
theorem si_zip (hg : Gl X "zip") (hm : X.mg "zip" = none) (ha : SA c X [a, b] av) (hpi : PI X (.Tuple elts kk tpos) (.Call (.Name "zip" p) [a, b] [] pos) (iZip X.K (tA (X.kc c) c av))) : SI c X (.Tuple elts kk tpos) (.Call (.Name "zip" p) [a, b] [] pos) (iZ av) := by
  refine ⟨pi_imp hpi fun σ H R ⟨F, ρ, rl, q⟩ => ⟨F, ρ, rl, ?_⟩⟩
  unfold iZ at q
  cases z : av ρ with
  | ok ds =>
    rw [z] at q
    have q' : match asZ ds with | .ok ds => ∀ J H1 F1, Grow F H F1 H1 → Walk J ds.length (Same F1) (fun i H x H' => ∀ F, Same F1 F → Same F H → ∃ F' d, Grow F H F' H' ∧ ds[i]? = some d ∧ Rep (X.kc c) F' x d) → R J H1 | .exc C fs => ExcW (X.kc c) c C fs | .stuck => False := q
    unfold asZ at q'
    split at q'
    · rename_i ds' e
      split at e
      · rename_i l m
        cases e
        intro vs H1 F1 g rs
        cases rs with
        | cons r1 r2 =>
          cases r2 with
          | cons r2 r3 =>
            cases r3
            cases r1 with
            | lst h1 h2 =>
              cases r2 with
              | lst h3 h4 =>
                rename_i a1 ws a2 us
                refine ⟨a1, a2, ws, us, rfl, .inl (.inl (g.le _ _ h1)), .inl (.inl (g.le _ _ h3)), q' _ H1 F1 g ?_⟩
                refine Walk.mono (walk_zip (n := _) (by rw [List.length_map, List.length_zip, h2.length, h4.length])) (fun H' s => ⟨.inl (.inl (s _ _ h1)), .inl (.inl (s _ _ h3))⟩) fun i H2 x H3 hi s y F2 s2 s3 => ?_
                obtain ⟨T, x', y', rfl, n, rfl, e1, e2⟩ := y
                obtain ⟨d1, f1, f2⟩ := h2.getV e1
                obtain ⟨d2, f3, f4⟩ := h4.getV e2
                obtain ⟨g2, r2⟩ := pair_grow (T := T) s3 n (f2.mono s2) (f4.mono s2)
                refine ⟨_, _, g2, ?_, r2⟩
                rw [List.getElem?_map, (List.getElem?_zip_eq_some (z := (d1, d2))).mpr ⟨f1, f3⟩]
                rfl
      · cases e
    · rename_i e
      split at e <;> cases e
    · exact q'.elim
  | exc C fs => rw [z] at q; exact q
  | stuck => rw [z] at q; exact q.elim
end
end Pu

namespace Pu
open PySem PySem.Spec PyProof.Rows L2

/-! ### statements -/
inductive Out where
  | nx (ρ : PEnv) | rt (d : D) | bk (ρ : PEnv) | ct (ρ : PEnv) | exc (C : Nat) (fs : List (Str × D)) | stuck
/-- what holds at a def's end -/
structure Bot (c : Cc) (F F' H' : Hp) : Prop where
  f : Same F F'
  le : Same F' H'
  b : Same c.B H'
  nw : ∀ a o, F' a = some o → c.F0 a = some o ∨ c.B a = none
def FinS (K : Kc) (c : Cc) (F : Hp) (o : Out) (D : Ends) : Prop := match o with
  | .nx ρ' => ∀ σ' H' F', Same F F' → Rel K c F' ρ' σ' H' → D.nx σ' H'
  | .bk ρ' => ∀ σ' H' F', Same F F' → Rel K c F' ρ' σ' H' → D.bk σ' H'
  | .ct ρ' => ∀ σ' H' F', Same F F' → Rel K c F' ρ' σ' H' → D.ct σ' H'
  | .rt d => ∀ v H' F', Bot c F F' H' → Rep K F' v d → D.rt v H'
  | .exc C fs => ExcW K c C fs
  | .stuck => False
abbrev Sv := PEnv → Out
def tSt (K : Kc) (c : Cc) (s : Sv) : TS := fun D σ H => ∃ F ρ, Rel K c F ρ σ H ∧ FinS K c F (s ρ) D
structure SS (c : Cc) (X : Cx) (st : Stmt) (s : Sv) : Prop where
  ps : PS X st (tSt (X.kc c) c s)
structure SSs (c : Cc) (X : Cx) (st : List Stmt) (s : Sv) : Prop where
  ps : PSs X st (tSt (X.kc c) c s)
theorem FinS.mono {K : Kc} {c : Cc} {F F' : Hp} {o : Out} {D : Ends} (m : Same F F') (h : FinS K c F o D) : FinS K c F' o D := by
  cases o with
  | nx ρ => exact fun σ' H' F2 s r => h σ' H' F2 (m.trans s) r
  | bk ρ => exact fun σ' H' F2 s r => h σ' H' F2 (m.trans s) r
  | ct ρ => exact fun σ' H' F2 s r => h σ' H' F2 (m.trans s) r
  | rt d => exact fun v H' F2 s r => h v H' F2 ⟨m.trans s.f, s.le, s.b, s.nw⟩ r
  | exc C fs => exact h
  | stuck => exact h
theorem Rel.bot {K : Kc} {c : Cc} {F F' H' : Hp} {ρ : PEnv} {σ : Sg} (m : Same F F') (r : Rel K c F' ρ σ H') : Bot c F F' H' := ⟨m, r.le, r.b, r.nw⟩
def Out.of {α : Type} (r : Res α) (k : α → Out) : Out := match r with
  | .ok a => k a
  | .exc C fs => .exc C fs
  | .stuck => .stuck
@[simp] theorem Out.of_ok {α : Type} (a : α) (k : α → Out) : Out.of (.ok a) k = k a := rfl
@[simp] theorem Out.of_exc {α : Type} (C : Nat) (fs : List (Str × D)) (k : α → Out) : Out.of (.exc C fs) k = .exc C fs := rfl
@[simp] theorem Out.of_stuck {α : Type} (k : α → Out) : Out.of (.stuck : Res α) k = .stuck := rfl
/-- an expression, then a statement's rest -/
theorem tG_st {α β : Type} {K : Kc} {c : Cc} {R : Hp → Hp → α → β → Prop} {F H : Hp} {ρ : PEnv} {σ : Sg} {ev : PEnv → Res β} {k : β → Out} {D : Ends} {T : α → Hp → Prop}
    (r : Rel K c F ρ σ H) (h : FinS K c F (Out.of (ev ρ) k) D) (ht : ∀ v d H1 F1, Grow F H F1 H1 → Rel K c F1 ρ σ H1 → R F1 H1 v d → FinS K c F1 (k d) D → T v H1) : tG K c R ev σ H T := by
  refine ⟨F, ρ, r, ?_⟩
  cases q : ev ρ with
  | ok d =>
    rw [q] at h
    exact fun v H1 F1 g rp => ht v d H1 F1 g (r.grow g) rp (FinS.mono g.f h)
  | exc C fs => rw [q] at h; exact h
  | stuck => rw [q] at h; exact h
/-! combinators -/
def sNil : Sv := fun ρ => .nx ρ
def sSeq (s t : Sv) : Sv := fun ρ => match s ρ with
  | .nx ρ' => t ρ'
  | o => o
def sSet (i : Nat) (a : Ev) : Sv := fun ρ => Out.of (a ρ) fun d => .nx (ρ.set i (.val d))
def sOwn (i : Nat) (l : Av) : Sv := fun ρ => Out.of (l ρ) fun ds => if i < ρ.length then .nx (ρ.set i (.own ds)) else .stuck
def sTo (g : Gv) (a : Ev) : Sv := fun ρ => Out.of (a ρ) fun d => match g d ρ with
  | some ρ' => .nx ρ'
  | none => .stuck
def sIf (t : Tv) (a b : Sv) : Sv := fun ρ => Out.of (t ρ) fun x => if x = true then a ρ else b ρ
def sRet (a : Ev) : Sv := fun ρ => Out.of (a ρ) .rt
def sDrop (a : Ev) : Sv := fun ρ => Out.of (a ρ) fun _ => .nx ρ
def sFrz (i : Nat) (s : Sv) : Sv := fun ρ => s (frz i ρ)
def forS (g : Gv) (body : Sv) : List D → PEnv → Out
  | [], ρ => .nx ρ
  | d :: ds, ρ => match g d ρ with
    | none => .stuck
    | some ρ1 => match body ρ1 with
      | .nx ρ2 => forS g body ds ρ2
      | .ct ρ2 => forS g body ds ρ2
      | .bk ρ2 => .nx ρ2
      | o => o
def sFor (it : Av) (g : Gv) (body : Sv) : Sv := fun ρ => Out.of (it ρ) fun ds => forS g body ds ρ
def whileS (t : Tv) (body : Sv) : Nat → PEnv → Out
  | 0, _ => .stuck
  | n + 1, ρ => Out.of (t ρ) fun b => if b = true then (match body ρ with
      | .nx ρ2 => whileS t body n ρ2
      | .ct ρ2 => whileS t body n ρ2
      | .bk ρ2 => .nx ρ2
      | o => o) else .nx ρ
def sApp (i : Nat) (a : Ev) : Sv := fun ρ => match ρ[i]? with
  | some (.own ds) => Out.of (a ρ) fun d => if ds.length < sizeLine then .nx (ρ.set i (.own (ds ++ [d]))) else .stuck
  | _ => .stuck
def putAt (i : Nat) (ρ : PEnv) (ds : List D) (d k : D) : Out := match k with
  | .int k => match ixN ds.length k with
    | some n => .nx (ρ.set i (.own (ds.set n d)))
    | none => .stuck
  | _ => .stuck
def sPut (i : Nat) (j a : Ev) : Sv := fun ρ => match ρ[i]? with
  | some (.own ds) => Out.of (a ρ) fun d => Out.of (j ρ) fun k => putAt i ρ ds d k
  | _ => .stuck
def putD (f : Str) (d : D) : List (Str × D) → List (Str × D)
  | [] => [(f, d)]
  | (g, x) :: r => if g = f then (g, d) :: r else (g, x) :: putD f d r
def sFld (i : Nat) (f : Str) (a : Ev) : Sv := fun ρ => match ρ[i]? with
  | some (.ob C fs) => Out.of (a ρ) fun d => if fs.length < 1000 then .nx (ρ.set i (.ob C (putD f d fs))) else .stuck
  | _ => .stuck

section
variable {c : Cc} {X : Cx} {e a b d tg iter : Expr} {es : List Expr} {ea eb ed : Ev} {av : Av} {lv : Av} {ta tb : Tv} {pos p p2 : Pos} {x : Str} {st : Stmt} {sts rest bd bd2 : List Stmt} {s t u : Sv} {g : Gv} {ix : List Nat}
theorem sss_nil : SSs c X [] sNil := ⟨pss_imp pss_nil fun D σ H ⟨F, ρ, r, q⟩ => q σ H F (Same.refl F) r⟩
theorem sss_one (h : SS c X st s) : SSs c X [st] s := ⟨pss_one h.ps⟩
theorem sss_cons (h : SS c X st s) (h2 : SSs c X rest t) : SSs c X (st :: rest) (sSeq s t) := by
  refine ⟨pss_imp (pss_cons h.ps h2.ps) fun D σ H ⟨F, ρ, r, q⟩ => ⟨F, ρ, r, ?_⟩⟩
  unfold sSeq at q
  cases z : s ρ with
  | nx ρ' =>
    rw [z] at q
    exact fun σ' H' F' m r' => ⟨F', ρ', r', FinS.mono m q⟩
  | rt d => rw [z] at q; exact q
  | bk d => rw [z] at q; exact q
  | ct d => rw [z] at q; exact q
  | exc C fs => rw [z] at q; exact q
  | stuck => rw [z] at q; exact q
theorem ss_frz {i : Nat} (h : SS c X st s) (io : ∀ a, c.io ≠ some (i, a) := by intro _ h; cases h) (hn : decide (i < c.n) = true := by rfl) : SS c X st (sFrz i s) := by
  refine ⟨ps_imp h.ps fun D σ H ⟨F, ρ, r, q⟩ => ?_⟩
  obtain ⟨F', m, r'⟩ := r.freeze io (of_decide_eq_true hn)
  exact ⟨F', _, r', FinS.mono m q⟩
theorem ss_pass : SS c X (.Pass pos) sNil := ⟨ps_imp ps_pass fun D σ H ⟨F, ρ, r, q⟩ => q σ H F (Same.refl F) r⟩
theorem ss_break : SS c X (.Break pos) .bk := ⟨ps_imp ps_break fun D σ H ⟨F, ρ, r, q⟩ => q σ H F (Same.refl F) r⟩
theorem ss_continue : SS c X (.Continue pos) .ct := ⟨ps_imp ps_continue fun D σ H ⟨F, ρ, r, q⟩ => q σ H F (Same.refl F) r⟩
theorem ss_never : SS c X st (fun _ => .stuck) := ⟨ps_imp ps_never fun D σ H ⟨F, ρ, r, q⟩ => q⟩
theorem sss_never : SSs c X sts (fun _ => .stuck) := ⟨pss_imp pss_never fun D σ H ⟨F, ρ, r, q⟩ => q⟩
theorem ss_set {i : Nat} (he : SE c X e ea) (hN : X.N.Nodup) (hi : X.N[i]? = some x := by rfl) (hx : Loc X.env.scope x := by first | exact Or.inl rfl | exact Or.inr rfl) (io : ∀ a, c.io ≠ some (i, a) := by intro _ h; cases h)
    (hs : swapsWith e (some (.Name x p)) pos.line X.env = pure false := by rfl) (hf : X.fn x = true ∨ X.env.scope.names.lookup x = some .local := by first | exact .inl rfl | exact .inr rfl | assumption) (hn : c.n = X.N.length := by rfl) : SS c X (.Assign [.Name x p] e pos) (sSet i ea) := by
  refine ⟨ps_imp (ps_set hN hi hx he.pe hs hf) fun D σ H ⟨F, ρ, r, q⟩ => ?_⟩
  refine tG_st r q fun v d H1 F1 g r1 rp q1 => ?_
  exact q1 _ _ F1 (Same.refl F1) (r1.set io (lt_n hn hi) rp)
theorem ss_own {i : Nat} (he : SN c X e lv) (hN : X.N.Nodup) (hi : X.N[i]? = some x := by rfl) (hx : Loc X.env.scope x := by first | exact Or.inl rfl | exact Or.inr rfl) (io : ∀ a, c.io ≠ some (i, a) := by intro _ h; cases h)
    (hs : swapsWith e (some (.Name x p)) pos.line X.env = pure false := by rfl) (hf : X.fn x = true ∨ X.env.scope.names.lookup x = some .local := by first | exact .inl rfl | exact .inr rfl | assumption) (hn : c.n = X.N.length := by rfl) : SS c X (.Assign [.Name x p] e pos) (sOwn i lv) := by
  refine ⟨ps_imp (ps_set hN hi hx he.pe hs hf) fun D σ H ⟨F, ρ, r, q⟩ => ⟨F, ρ, r, ?_⟩⟩
  unfold sOwn at q
  cases z : lv ρ with
  | ok ds =>
    rw [z] at q
    intro p vs H1 F1 g n rp _
    have q' : FinS (X.kc c) c F (if i < ρ.length then .nx (ρ.set i (.own ds)) else .stuck) D := q
    by_cases hl : i < ρ.length
    · rw [if_pos hl] at q'
      exact q' _ _ F1 g.f ((r.grow g).setOwn io (lt_n hn hi) n rp)
    · rw [if_neg hl] at q'; exact q'.elim
  | exc C fs => rw [z] at q; exact q
  | stuck => rw [z] at q; exact q
theorem ss_to (he : SE c X e ea) (hg : SG c X tg ix g) (hs : swapsWithSole [tg] e pos.line X.env = pure false := by rfl) (hw : swappedStores [tg] e X.env = pure none := by rfl)
    (h1 : (assignEach [tg] X.env).map (·.2) = [assign tg X.env] := by rfl) : SS c X (.Assign [tg] e pos) (sTo g ea) := by
  refine ⟨ps_imp (ps_asg he.pe hg.pg hs hw h1) fun D σ H ⟨F, ρ, r, q⟩ => ?_⟩
  refine tG_st r q fun v d H1 F1 g1 r1 rp q1 => ?_
  cases z : g d ρ with
  | none => rw [z] at q1; exact q1.elim
  | some ρ' =>
    rw [z] at q1
    exact ⟨F1, ρ, d, ρ', r1, rp, z, fun σ' r' _ => q1 σ' H1 F1 (Same.refl F1) r'⟩
theorem ss_if (hc : ST c X e ta) (ha : SSs c X bd s) (hb : SSs c X bd2 t) : SS c X (.If e bd bd2 pos) (sIf ta s t) := by
  refine ⟨ps_imp (ps_if hc.pt ha.ps hb.ps) fun D σ H ⟨F, ρ, r, q⟩ => ?_⟩
  refine tG_st r q fun v d H1 F1 g r1 rp q1 => ?_
  cases (show v = d from rp)
  cases v with
  | true => exact iteT ⟨F1, ρ, r1, q1⟩
  | false => exact iteF ⟨F1, ρ, r1, q1⟩
theorem ss_ret (he : SE c X e ea) : SS c X (.Return (some e) pos) (sRet ea) := by
  refine ⟨ps_imp (ps_ret he.pe) fun D σ H ⟨F, ρ, r, q⟩ => ?_⟩
  refine tG_st r q fun v d H1 F1 g r1 rp q1 => ?_
  exact q1 v H1 F1 (r1.bot (Same.refl F1)) rp
theorem ss_retN : SS c X (.Return none pos) (fun _ => .rt .non) := ⟨ps_imp ps_retN fun D σ H ⟨F, ρ, r, q⟩ => q .non H F (r.bot (Same.refl F)) .non⟩
theorem ss_expr (he : SE c X e ea) (hs : swapsWith e none pos.line X.env = pure false := by rfl) : SS c X (.Expr e pos) (sDrop ea) := by
  refine ⟨ps_imp (ps_expr he.pe hs) fun D σ H ⟨F, ρ, r, q⟩ => ?_⟩
  refine tG_st r q fun v d H1 F1 g r1 rp q1 => ?_
  exact q1 _ _ F1 (Same.refl F1) r1
/-- name op= e -/
def sAug (i : Nat) (f : D → D → Option D) (a : Ev) : Sv := fun ρ => match ρ[i]? with
  | some (.val d) => Out.of (a ρ) fun y => match f d y with
    | some z => .nx (ρ.set i (.val z))
    | none => .stuck
  | _ => .stuck
def LiftI (K : Kc) (r : TIp) (f : D → D → Option D) : Prop := ∀ {F H : Hp} {x y : V} {dx dy dz : D} {Q : VK}, Same F H → Rep K F x dx → Rep K F y dy → f dx dy = some dz → (∀ v, Rep K F v dz → Q v H) → r x y H Q
theorem ss_aug {i : Nat} {op : Operator} {ti : TIp} {f : D → D → Option D} (he : SE c X e ea) (ho : PIp X op ti) (l : LiftI (X.kc c) ti f) (hN : X.N.Nodup) (hi : X.N[i]? = some x := by rfl) (hx : Loc X.env.scope x := by first | exact Or.inl rfl | exact Or.inr rfl) (io : ∀ a, c.io ≠ some (i, a) := by intro _ h; cases h)
    (hf : X.fn x = true ∨ X.env.scope.names.lookup x = some .local := by first | exact .inl rfl | exact .inr rfl | assumption) (hn : c.n = X.N.length := by rfl) : SS c X (.AugAssign (.Name x p) op e pos) (sAug i f ea) := by
  refine ⟨ps_imp (ps_aug hN hi hx he.pe ho hf) fun D σ H ⟨F, ρ, r, q⟩ => ?_⟩
  unfold sAug at q
  split at q
  · rename_i d hd
    obtain ⟨v, e1, rp⟩ := r.val hd
    refine ⟨v, e1, tG_st r q fun y dy H1 F1 g r1 ry q1 => ?_⟩
    cases z : f d dy with
    | none => rw [z] at q1; exact q1.elim
    | some dz =>
      rw [z] at q1
      exact l r1.le (rp.mono g.f) ry z fun v rv => q1 _ _ F1 (Same.refl F1) (r1.set io (lt_n hn hi) rv)
  · exact q.elim

end
end Pu

namespace Pu
open PySem PySem.Spec PyProof.Rows L2
def opAddI : D → D → Option D
  | .int i, .int j => some (.int (i + j))
  | _, _ => none
section
variable {c : Cc} {X : Cx} {e a b d tg iter : Expr} {es : List Expr} {ea eb ed : Ev} {av : Av} {lv : Av} {ta tb : Tv} {pos p p2 apos : Pos} {x : Str} {st : Stmt} {sts rest bd bd2 : List Stmt} {s t u : Sv} {g : Gv} {ix : List Nat} {it : Av}
theorem li_add : LiftI (X.kc c) (ipI fun i j => i + j) opAddI := by
  intro F H x y dx dy dz Q le hx hy e q
  unfold opAddI at e; split at e
  · cases e; cases hx; cases hy; exact ⟨_, _, rfl, rfl, q _ (.int _)⟩
  · cases e
theorem li_sub : LiftI (X.kc c) (ipI fun i j => i - j) opSub := by
  intro F H x y dx dy dz Q le hx hy e q
  unfold opSub at e; split at e
  · cases e; cases hx; cases hy; exact ⟨_, _, rfl, rfl, q _ (.int _)⟩
  · cases e
/-! for, while -/
theorem ss_for (hp : PassesOwn (model X.prog X.w) X.A X.env X.xe) (hc : X.calm = true) (hi : SI c X tg iter it) (hg : SG c X tg ix g) (hb : SSs c X bd s)
    (hs : ∀ x, foldedSetIterable iter X.env x = pure x := by intro _; rfl) : SS c X (.For tg iter bd [] pos) (sFor it g s) := by
  refine ⟨ps_imp (ps_for hp hc hi.pi hg.pg hb.ps hs) fun D σ H ⟨F, ρ, r, q⟩ => ?_⟩
  refine ⟨F, ρ, r, ?_⟩
  unfold sFor at q
  cases z : it ρ with
  | ok ds =>
    rw [z] at q
    intro J H1 F1 g1 w
    have q0 : FinS (X.kc c) c F1 (forS g s ds ρ) D := FinS.mono g1.f q
    refine for_it w (fun i σ' H' => ∃ F' ρ', Same F1 F' ∧ Rel (X.kc c) c F' ρ' σ' H' ∧ FinS (X.kc c) c F' (forS g s (ds.drop i) ρ') D) ⟨F1, ρ, Same.refl F1, r.grow g1, q0⟩ ?_ ?_ ?_
    · rintro i σ' H' _ ⟨F', ρ', m, r', _⟩
      exact m.trans r'.le
    · rintro i x σ' H' H2 hi ⟨F', ρ', m, r', q'⟩ y
      obtain ⟨F2, d, g2, ed, rp⟩ := y F' m r'.le
      have hd : ds.drop i = d :: ds.drop (i + 1) := by
        have hi' : i < ds.length := hi
        rw [List.drop_eq_getElem_cons hi']
        congr 1
        rw [List.getElem?_eq_getElem hi'] at ed
        exact Option.some.inj ed
      rw [hd] at q'
      unfold forS at q'
      cases zg : g d ρ' with
      | none => rw [zg] at q'; exact q'.elim
      | some ρ1 =>
        rw [zg] at q'
        refine ⟨F2, ρ', d, ρ1, r'.grow g2, rp, zg, fun σ2 r2 _ => ⟨F2, ρ1, r2, ?_⟩⟩
        have q2 : FinS (X.kc c) c F2 (match s ρ1 with | .nx ρ2 => forS g s (ds.drop (i + 1)) ρ2 | .ct ρ2 => forS g s (ds.drop (i + 1)) ρ2 | .bk ρ2 => .nx ρ2 | o => o) D := FinS.mono g2.f q'
        cases zs : s ρ1 with
        | nx ρ2 => rw [zs] at q2; exact fun σ3 H3 F3 m3 r3 => ⟨F3, ρ2, (m.trans g2.f).trans m3, r3, FinS.mono m3 q2⟩
        | ct ρ2 => rw [zs] at q2; exact fun σ3 H3 F3 m3 r3 => ⟨F3, ρ2, (m.trans g2.f).trans m3, r3, FinS.mono m3 q2⟩
        | bk ρ2 => rw [zs] at q2; exact q2
        | rt d => rw [zs] at q2; exact q2
        | exc C fs => rw [zs] at q2; exact q2
        | stuck => rw [zs] at q2; exact q2
    · rintro σ' H' ⟨F', ρ', m, r', q'⟩
      rw [List.drop_length] at q'
      exact q' σ' H' F' (Same.refl F') r'
  | exc C fs => rw [z] at q; exact q
  | stuck => rw [z] at q; exact q
theorem ss_while (n : Nat) (hp : PassesOwn (model X.prog X.w) X.A X.env X.xe) (hc : ST c X e ta) (hb : SSs c X bd s) : SS c X (.While e bd [] pos) (whileS ta s n) := by
  refine ⟨ps_imp (ps_while hp hc.pt hb.ps) fun D σ H ⟨F, ρ, r, q⟩ => ?_⟩
  refine ⟨fun m σ' H' => ∃ F' ρ', Rel (X.kc c) c F' ρ' σ' H' ∧ FinS (X.kc c) c F' (whileS ta s m ρ') D, ⟨n, F, ρ, r, q⟩, ?_⟩
  rintro m σ' H' ⟨F', ρ', r', q'⟩
  cases m with
  | zero => exact q'.elim
  | succ m =>
    unfold whileS at q'
    refine tG_st r' q' fun v d H1 F1 g r1 rp q1 => ?_
    cases (show v = d from rp)
    cases v with
    | false => exact iteF (q1 σ' H1 F1 (Same.refl F1) r1)
    | true =>
      refine iteT ⟨fun σ2 H2 => ∃ F2 ρ2, Rel (X.kc c) c F2 ρ2 σ2 H2 ∧ FinS (X.kc c) c F2 (whileS ta s m ρ2) D, fun σ2 H2 h => ⟨m, Nat.lt_succ_self m, h⟩, F1, ρ', r1, ?_⟩
      have q2 : FinS (X.kc c) c F1 (match s ρ' with | .nx ρ2 => whileS ta s m ρ2 | .ct ρ2 => whileS ta s m ρ2 | .bk ρ2 => .nx ρ2 | o => o) D := q1
      cases zs : s ρ' with
      | nx ρ2 => rw [zs] at q2; exact fun σ3 H3 F3 m3 r3 => ⟨F3, ρ2, r3, FinS.mono m3 q2⟩
      | ct ρ2 => rw [zs] at q2; exact fun σ3 H3 F3 m3 r3 => ⟨F3, ρ2, r3, FinS.mono m3 q2⟩
      | bk ρ2 => rw [zs] at q2; exact q2
      | rt d => rw [zs] at q2; exact q2
      | exc C fs => rw [zs] at q2; exact q2
      | stuck => rw [zs] at q2; exact q2
/-! x.append(e), x[j] = e, o.f = e -/
theorem ss_app {i : Nat} (he : SE c X e ea) (hN : X.N[i]? = some x := by rfl) (hn0 : c.n = X.N.length := by rfl) (hv : Vis X.env.scope x := by first | exact Or.inl rfl | exact Or.inr (Or.inl rfl) | exact Or.inr (Or.inr rfl)) (hd : (x == ("__debug__" : Str)) = false := by decide)
    (hcd : (x == ("__classdict__" : Str)) = false := by decide)
    (hbase : attributeBase (.Name x p) "append" X.env (eval (.Name x p) X.env) = eval (.Name x p) X.env := by rfl)
    (hfew : ((backTo p2 (starEach [e] X.env)).all (fun x => !x.1) && (backToKw p2 (keywordEach [] X.env)).all (fun x => x.1.isSome)
      && decide ([e].length + ([] : List Keyword).length + (if ([] : List Keyword).isEmpty then 0 else 1) < 30)) = true := by rfl)
    (hline : (apos.endLine == p2.line) = true := by rfl) (hs : starEach [e] X.env = (false, eval e X.env) :: starEach [] X.env := by rfl) (hplain : (backTo p2 (starEach [] X.env)).any (·.1) = false := by rfl)
    (hsw : swapsWith (.Call (.Attribute (.Name x p) "append" apos) [e] [] p2) none pos.line X.env = pure false := by rfl) :
    SS c X (.Expr (.Call (.Attribute (.Name x p) "append" apos) [e] [] p2) pos) (sApp i ea) := by
  refine ⟨ps_imp (ps_expr (pe_bm PySem.F.plainAttrs_list PySem.F.slot_list_append PySem.F.type_list_append mt_append (pe_var hN hv hd hcd) (pa_cons he.pe pa_nil hs) hbase hfew hline hs hplain) hsw) fun D σ H ⟨F, ρ, r, q⟩ => ?_⟩
  unfold sApp at q
  split at q
  · rename_i ds hi
    obtain ⟨l, vs, e1, e2, e3⟩ := r.own hi (lt_n hn0 hN)
    refine ⟨.ref l, e1, .inl ⟨rfl, vs, .inl (.inl e2)⟩, ?_⟩
    refine tG_st r q fun v dv H1 F1 g r1 rp q1 => ?_
    by_cases hl : ds.length < sizeLine
    · rw [if_pos hl] at q1
      exact ⟨l, vs, v, rfl, rfl, g.h _ _ e2, by rw [e3.length]; exact hl, q1 σ _ F1 (Same.refl F1) (r1.putOwn hi e1 ((e3.mono g.f).append (.cons rp .nil)))⟩
    · rw [if_neg hl] at q1; exact q1.elim
  · exact q.elim
theorem ss_put {i : Nat} {ej : Ev} (hj : SE c X b ej) (he : SE c X e ea) (hN : X.N[i]? = some x := by rfl) (hn0 : c.n = X.N.length := by rfl) (hv : Vis X.env.scope x := by first | exact Or.inl rfl | exact Or.inr (Or.inl rfl) | exact Or.inr (Or.inr rfl)) (hd : (x == ("__debug__" : Str)) = false := by decide)
    (hcd : (x == ("__classdict__" : Str)) = false := by decide)
    (ha : ∀ v, assign (.Subscript (.Name x p) b p2) X.env v = (do
      let ov ← holding [v] (eval (.Name x p) X.env)
      let iv ← holding [v, ov] (eval b X.env)
      standAt p2
      holding [v, ov, iv] (setItem ov iv v)
      release [v, ov, iv] []) := by intro _; rfl) (hs : swapsWithSole [.Subscript (.Name x p) b p2] e pos.line X.env = pure false := by rfl) (hw : swappedStores [.Subscript (.Name x p) b p2] e X.env = pure none := by rfl)
    (h1 : (assignEach [.Subscript (.Name x p) b p2] X.env).map (·.2) = [assign (.Subscript (.Name x p) b p2) X.env] := by rfl) : SS c X (.Assign [.Subscript (.Name x p) b p2] e pos) (sPut i ej ea) := by
  refine ⟨ps_imp (ps_asg he.pe (pg_sub (pe_var hN hv hd hcd) hj.pe set_list ha) hs hw h1) fun D σ H ⟨F, ρ, r, q⟩ => ?_⟩
  unfold sPut at q
  split at q
  · rename_i ds hi
    obtain ⟨l, vs, e1, e2, e3⟩ := r.own hi (lt_n hn0 hN)
    refine tG_st r q fun v dv H1 F1 g r1 rp q1 => ?_
    refine ⟨.ref l, e1, tG_st r1 q1 fun w dk H2 F2 g2 r2 rk q2 => ?_⟩
    unfold putAt at q2
    split at q2
    · rename_i k
      split at q2
      · rename_i n hn
        cases rk
        exact ⟨l, vs, k, n, rfl, rfl, g2.h _ _ (g.h _ _ e2), by rw [e3.length]; exact hn, q2 σ _ F2 (Same.refl F2) (r2.putOwn hi e1 (Reps.set (rp.mono g2.f) n ((e3.mono g.f).mono g2.f)))⟩
      · exact q2.elim
    · exact q2.elim
  · exact q.elim
theorem RepF.put {K : Kc} {F : Hp} {f : Str} {v : V} {d : D} (h : Rep K F v d) : ∀ {fv : List (Str × V)} {fs : List (Str × D)}, RepF K F fv fs → RepF K F (putF f v fv) (putD f d fs)
  | _, _, .nil => .cons h .nil
  | _, _, .cons (n := n) r rs => by
    unfold putF putD
    by_cases e : n = f
    · rw [if_pos e, if_pos e]; exact .cons h rs
    · rw [if_neg e, if_neg e]; exact .cons r (RepF.put h rs)
theorem RepF.length {K : Kc} {F : Hp} : ∀ {fv : List (Str × V)} {fs : List (Str × D)}, RepF K F fv fs → fv.length = fs.length
  | _, _, .nil => rfl
  | _, _, .cons _ r => congrArg Nat.succ (RepF.length r)
theorem Rel.ob {K : Kc} {F H : Hp} {ρ : PEnv} {σ : Sg} {i C : Nat} {fs : List (Str × D)} (r : Rel K c F ρ σ H) (h : ρ[i]? = some (.ob C fs)) : ∃ a dx fv, σ[i]? = some (some (.ref a)) ∧ H a = some (.ins (K.cm C) dx fv) ∧ RepF K F fv fs := by
  obtain ⟨oa, h1, _⟩ := r.sl
  obtain ⟨a, dx, fv, _, e, q1, q2⟩ := h1 i _ h
  exact ⟨a, dx, fv, e, q1, q2⟩
theorem ss_fld {i C : Nat} {f : Str} (hC : Cls X.K (c.cm C)) (hf : NoAttr X.K (c.cm C) f) (he : SE c X e ea) (hN : X.N[i]? = some x := by rfl) (hv : Vis X.env.scope x := by first | exact Or.inl rfl | exact Or.inr (Or.inl rfl) | exact Or.inr (Or.inr rfl)) (hd : (x == ("__debug__" : Str)) = false := by decide)
    (hcd : (x == ("__classdict__" : Str)) = false := by decide) (hs : swapsWith e (some (.Attribute (.Name x p) f p2)) pos.line X.env = pure false := by rfl) :
    SS c X (.Assign [.Attribute (.Name x p) f p2] e pos) (fun ρ => match ρ[i]? with | some (.ob C' fs) => if C' = C then sFld i f ea ρ else .stuck | _ => .stuck) := by
  refine ⟨ps_imp (ps_fld (pe_var hN hv hd hcd) he.pe hs) fun D σ H ⟨F, ρ, r, q⟩ => ?_⟩
  dsimp only at q
  split at q
  · rename_i C' fs hi
    by_cases hcc : C' = C
    · subst hcc
      rw [if_pos rfl] at q
      unfold sFld at q
      rw [hi] at q
      obtain ⟨a, dx, fv, e1, e2, e3⟩ := r.ob hi
      refine tG_st r q fun v dv H1 F1 g r1 rp q1 => ?_
      by_cases hl : fs.length < 1000
      · rw [if_pos hl] at q1
        exact ⟨.ref a, e1, a, _, dx, fv, rfl, g.h _ _ e2, hC, hf, by rw [e3.length]; exact hl, q1 σ _ F1 (Same.refl F1) (r1.putOb hi e1 ((e3.mono g.f).put rp))⟩
      · rw [if_neg hl] at q1; exact q1.elim
    · rw [if_neg hcc] at q; exact q.elim
  · exact q.elim
end
end Pu

namespace Pu
open PySem PySem.Spec PyProof.Rows L2

/-! ### slices -/
abbrev Ov := PEnv → Res (Option Int)
def oN : Ov := fun _ => .ok none
def asI : D → Res (Option Int)
  | .int i => .ok (some i)
  | _ => .stuck
def oS (a : Ev) : Ov := fun ρ => (a ρ).bind asI
abbrev rO : Hp → Hp → Option Int → Option Int → Prop := fun _ _ v d => v = d
structure SO (c : Cc) (X : Cx) (e : Option Expr) (ov : Ov) : Prop where
  po : PO X e (tG (X.kc c) c rO ov)
def cutD (xs : List D) (lo hi : Option Int) : List D := (xs.drop (HT.sIx xs.length 0 lo)).take (HT.sIx xs.length xs.length hi - HT.sIx xs.length 0 lo)
/-- s[lo:hi] of a text -/
def eSlS (a : Ev) (lo hi : Ov) : Ev := fun ρ => (a ρ).bind fun x => (lo ρ).bind fun l => (hi ρ).bind fun h => match x with
  | .str z => if z.length ≤ sizeLine then .ok (.str (cutS z l h)) else .stuck
  | _ => .stuck
/-- xs[lo:hi] of a list -/
def lSl (a : Ev) (lo hi : Ov) : Av := fun ρ => (a ρ).bind fun x => (lo ρ).bind fun l => (hi ρ).bind fun h => match x with
  | .lst ds => if ds.length ≤ sizeLine then .ok (cutD ds l h) else .stuck
  | .scr ns => if ns.length ≤ sizeLine then .ok (cutD (ns.map D.int) l h) else .stuck
  | _ => .stuck
/-- a new list, wanted -/
theorem tN_bind {α β : Type} {K : Kc} {c : Cc} {R : Hp → Hp → α → β → Prop} {F H : Hp} {ρ : PEnv} {σ : Sg} {ev : PEnv → Res β} {k : β → Res (List D)} {Q : VK} {T : α → Hp → Prop}
    (r : Rel K c F ρ σ H) (h : FinN K c F H ((ev ρ).bind k) Q) (ht : ∀ v d H1 F1, Grow F H F1 H1 → Rel K c F1 ρ σ H1 → R F1 H1 v d → FinN K c F1 H1 (k d) Q → T v H1) : tG K c R ev σ H T := by
  refine ⟨F, ρ, r, ?_⟩
  cases q : ev ρ with
  | ok d =>
    rw [q] at h
    refine fun v H1 F1 g rp => ht v d H1 F1 g (r.grow g) rp ?_
    have h' : FinN K c F H (k d) Q := h
    cases z : k d with
    | ok ds => rw [z] at h'; exact fun p vs H2 F2 g2 n rs hz => h' p vs H2 F2 (g.trans g2) n rs hz
    | exc C fs => rw [z] at h'; exact h'
    | stuck => rw [z] at h'; exact h'
  | exc C fs => rw [q] at h; exact h
  | stuck => rw [q] at h; exact h
section
variable {c : Cc} {X : Cx} {e a b d tg iter : Expr} {es : List Expr} {ea eb ed : Ev} {av : Av} {lv : Av} {ta tb : Tv} {pos p p2 apos : Pos} {x : Str} {lo hi : Option Expr} {ol oh : Ov}
theorem so_none : SO c X none oN := ⟨⟨fun pins s σ H Q I ⟨F, ρ, r, q⟩ => po_none.run pins s σ H Q I (q none H F r.refl rfl)⟩⟩
theorem so_some (h : SE c X e ea) : SO c X (some e) (oS ea) := by
  refine ⟨⟨fun pins s σ H Q I ⟨F, ρ, r, q⟩ => (po_some h.pe).run pins s σ H Q I ?_⟩⟩
  refine tG_bind r q fun v dv H1 F1 g r1 rp q1 => ?_
  unfold asI at q1
  split at q1
  · cases rp; exact ⟨_, rfl, q1 _ H1 F1 r1.refl rfl⟩
  · exact q1.elim
theorem se_slS (ha : SB c X e ea) (hl : SO c X lo ol) (hh : SO c X hi oh) : SE c X (.Subscript e (.Slice lo hi none p2) pos) (eSlS ea ol oh) := by
  refine ⟨pe_imp (pe_slice sl_str ha.pe hl.po hh.po) fun σ H Q ⟨F, ρ, r, q⟩ => ?_⟩
  refine tG_bind r q fun v dv H1 F1 g r1 rp q1 => ?_
  refine tG_bind r1 q1 fun l dl H2 F2 g2 r2 rl q2 => ?_
  refine tG_bind r2 q2 fun h dh H3 F3 g3 r3 rh q3 => ?_
  cases (show l = dl from rl)
  cases (show h = dh from rh)
  cases dv with
  | str z =>
    have q3' : FinG (X.kc c) c (rE (X.kc c)) F3 H3 (if z.length ≤ sizeLine then .ok (.str (cutS z l h)) else .stuck) Q := q3
    by_cases hz : z.length ≤ sizeLine
    · rw [if_pos hz] at q3'
      exact ⟨z, rp.str, hz, q3' _ H3 F3 r3.refl (.str _)⟩
    · rw [if_neg hz] at q3'; exact q3'.elim
  | _ => exact q3.elim
theorem cutV_map (ns : List Int) (l h : Option Int) : cutV (ns.map V.int) l h = (((ns.drop (HT.sIx ns.length 0 l)).take (HT.sIx ns.length ns.length h - HT.sIx ns.length 0 l))).map V.int := by
  unfold cutV
  rw [List.length_map, ← List.map_drop, ← List.map_take]
theorem cutD_map (ns : List Int) (l h : Option Int) : cutD (ns.map D.int) l h = (((ns.drop (HT.sIx ns.length 0 l)).take (HT.sIx ns.length ns.length h - HT.sIx ns.length 0 l))).map D.int := by
  unfold cutD
  rw [List.length_map, ← List.map_drop, ← List.map_take]
theorem sn_sl (ha : SB c X e ea) (hl : SO c X lo ol) (hh : SO c X hi oh) : SN c X (.Subscript e (.Slice lo hi none p2) pos) (lSl ea ol oh) := by
  refine ⟨pe_imp (pe_slice sl_list ha.pe hl.po hh.po) fun σ H Q ⟨F, ρ, r, q⟩ => ?_⟩
  refine tN_bind r q fun v dv H1 F1 g r1 rp q1 => ?_
  refine tN_bind r1 q1 fun l dl H2 F2 g2 r2 rl q2 => ?_
  refine tN_bind r2 q2 fun h dh H3 F3 g3 r3 rh q3 => ?_
  cases (show l = dl from rl)
  cases (show h = dh from rh)
  cases dv with
  | lst ds =>
    have q3' : FinN (X.kc c) c F3 H3 (if ds.length ≤ sizeLine then .ok (cutD ds l h) else .stuck) Q := q3
    obtain ⟨a, vs, rfl, h1, h2⟩ := rp.lst r1.le
    have e2 := h2.length
    by_cases hz : ds.length ≤ sizeLine
    · rw [if_pos hz] at q3'
      refine ⟨a, vs, rfl, .inl (.inl (g3.h _ _ (g2.h _ _ h1))), fun p n => q3' p _ H3 F3 r3.refl n ?_ (Nat.le_trans (cutV_length _ _ _) (by rw [e2]; exact hz))⟩
      unfold cutV cutD
      rw [e2]
      exact Reps.take _ (Reps.drop _ ((h2.mono g2.f).mono g3.f))
    · rw [if_neg hz] at q3'; exact q3'.elim
  | scr ns =>
    have q3' : FinN (X.kc c) c F3 H3 (if ns.length ≤ sizeLine then .ok (cutD (ns.map D.int) l h) else .stuck) Q := q3
    obtain ⟨a, rfl, h1⟩ := rp.scr r1.le
    by_cases hz : ns.length ≤ sizeLine
    · rw [if_pos hz] at q3'
      refine ⟨a, _, rfl, g3.h.seq (g2.h.seq h1), fun p n => q3' p _ H3 F3 r3.refl n ?_ (Nat.le_trans (cutV_length _ _ _) (by rw [List.length_map]; exact hz))⟩
      rw [cutV_map, cutD_map]
      exact Reps.of_ints _
    · rw [if_neg hz] at q3'; exact q3'.elim
  | _ => exact q3.elim
/-! list(..), list + list -/
def lList (as : Av) : Av := fun ρ => (as ρ).bind fun xs => match xs with
  | [.lst ds] => if ds.length ≤ sizeLine then .ok ds else .stuck
  | [.tup ds] => if ds.length ≤ sizeLine then .ok ds else .stuck
  | _ => .stuck
theorem sn_list (hg : Gl X "list") (hm : X.mg "list" = none) (ha : SAB c X [e] av) (he : starEach [e] X.env = (false, eval e X.env) :: starEach [] X.env := by rfl) (hpl : (backTo pos (starEach [] X.env)).any (·.1) = false := by rfl) :
    SN c X (.Call (.Name "list" p) [e] [] pos) (lList av) := by
  refine ⟨pe_imp (pe_callTy call_list_of hg hm (by decide +kernel) ha.pa (by decide) (by decide) he hpl) fun σ H Q ⟨F, ρ, r, q⟩ => ?_⟩
  refine tN_bind r q fun vs ds H1 F1 g r1 rp q1 => ?_
  split at q1
  · rename_i es'
    obtain ⟨v, rfl, hv⟩ := repsB1 rp
    obtain ⟨a, ws, rfl, h1, h2⟩ := hv.lst r1.le
    by_cases hz : es'.length ≤ sizeLine
    · rw [if_pos hz] at q1
      exact ⟨a, ws, rfl, .inl (.inl (.inl h1)), fun l n => q1 l ws H1 F1 r1.refl n h2 (by rw [h2.length]; exact hz)⟩
    · rw [if_neg hz] at q1; exact q1.elim
  · rename_i es'
    obtain ⟨v, rfl, hv⟩ := repsB1 rp
    obtain ⟨a, ws, rfl, h1, h2⟩ := hv.tup r1.le
    by_cases hz : es'.length ≤ sizeLine
    · rw [if_pos hz] at q1
      exact ⟨a, ws, rfl, .inr h1, fun l n => q1 l ws H1 F1 r1.refl n h2 (by rw [h2.length]; exact hz)⟩
    · rw [if_neg hz] at q1; exact q1.elim
  · exact q1.elim
def lListR (a : Ev) : Av := fun ρ => (a ρ).bind fun x => match x with
  | .int n => if (decide (0 ≤ n) && decide (n ≤ 1000000)) = true then .ok (rgD 0 n) else .stuck
  | _ => .stuck
theorem rgV_rgD {K : Kc} {F : Hp} (lo hi : Int) : Reps K F (rgV lo hi) (rgD lo hi) := by
  unfold rgV rgD
  generalize (hi - lo).toNat = n
  have : ∀ l : List Nat, Reps K F (l.map fun i => V.int (lo + (i : Nat))) (l.map fun i => D.int (lo + (i : Nat))) := fun l => by
    induction l with
    | nil => exact .nil
    | cons x r ih => exact .cons (.int _) ih
  exact this _
theorem sn_listR {p3 p4 : Pos} (hc : X.calm = true) (hg : Gl X "list") (hm : X.mg "list" = none) (hg2 : Gl X "range") (hm2 : X.mg "range" = none) (ha : SE c X a ea) (na : starEach [a] X.env = (false, eval a X.env) :: starEach [] X.env := by rfl)
    (nb : starEach [.Call (.Name "range" p3) [a] [] p4] X.env = (false, eval (.Call (.Name "range" p3) [a] [] p4) X.env) :: starEach [] X.env := by rfl) : SN c X (.Call (.Name "list" p) [.Call (.Name "range" p3) [a] [] p4] [] pos) (lListR ea) := by
  refine ⟨pe_imp (pe_listRg hc hg hm (prg_1 hg2 hm2 ha.pe na) nb) fun σ H Q ⟨F, ρ, r, q⟩ => ?_⟩
  refine tN_bind r q fun v dv H1 F1 g r1 rp q1 => ?_
  cases dv with
  | int n =>
    have q1' : FinN (X.kc c) c F1 H1 (if (decide (0 ≤ n) && decide (n ≤ 1000000)) = true then .ok (rgD 0 n) else .stuck) Q := q1
    by_cases hz : (decide (0 ≤ n) && decide (n ≤ 1000000)) = true
    · rw [if_pos hz] at q1'
      rw [Bool.and_eq_true, decide_eq_true_eq, decide_eq_true_eq] at hz
      cases rp
      refine ⟨n, rfl, RgOk.of_le (Int.le_refl 0) (by omega) (by omega) hz.1, fun p' n' => q1' p' _ H1 F1 r1.refl n' (rgV_rgD 0 n) ?_⟩
      rw [rgV_length, sizeLine_eq]; omega
    · rw [if_neg hz] at q1'; exact q1'.elim
  | _ => exact q1.elim
def lCat (a b : Ev) : Av := fun ρ => (a ρ).bind fun x => (b ρ).bind fun y => match x, y with
  | .lst ds, .lst es => if ds.length + es.length ≤ sizeLine then .ok (ds ++ es) else .stuck
  | _, _ => .stuck
theorem sn_cat (ha : SB c X a ea) (hb : SB c X b eb) : SN c X (.BinOp a .Add b pos) (lCat ea eb) := by
  refine ⟨pe_imp (pe_op op_cat ha.pe hb.pe) fun σ H Q ⟨F, ρ, r, q⟩ => ?_⟩
  refine tN_bind r q fun v dv H1 F1 g r1 rp q1 => ?_
  refine tN_bind r1 q1 fun w dw H2 F2 g2 r2 rw' q2 => ?_
  split at q2
  · rename_i ds es'
    obtain ⟨a1, vs, rfl, h1, h2⟩ := rp.lst r1.le
    obtain ⟨a2, ws, rfl, h3, h4⟩ := rw'.lst r2.le
    by_cases hz : ds.length + es'.length ≤ sizeLine
    · rw [if_pos hz] at q2
      have hz' : vs.length + ws.length ≤ sizeLine := by rw [h2.length, h4.length]; exact hz
      exact ⟨a1, a2, vs, ws, rfl, rfl, g2.h _ _ h1, h3, hz', fun p' n => q2 p' _ H2 F2 r2.refl n ((h2.mono g2.f).append h4) (by rw [List.length_append]; exact hz')⟩
    · rw [if_neg hz] at q2; exact q2.elim
  · exact q2.elim
/-! sep.join(xs) -/
def eJoin (a b : Ev) : Ev := fun ρ => (a ρ).bind fun x => (b ρ).bind fun y => Res.of (fJoin x [y])
theorem se_join (ha : SE c X a ea) (hstr : ∀ ρ d, ea ρ = .ok d → ∃ s, d = .str s) (hb : SB c X b eb) (hs : starEach [b] X.env = [(false, eval b X.env)] := by rfl) (hbase : attributeBase a "join" X.env (eval a X.env) = eval a X.env := by rfl) (hline : (apos.endLine == pos.line) = true := by rfl) :
    SE c X (.Call (.Attribute a "join" apos) [b] [] pos) (eJoin ea eb) := by
  refine ⟨pe_imp (pe_join ha.pe hb.pe hs hbase hline) fun σ H Q ⟨F, ρ, r, q⟩ => ⟨F, ρ, r, ?_⟩⟩
  unfold eJoin at q
  cases z : ea ρ with
  | ok dv =>
    rw [z] at q
    obtain ⟨s, rfl⟩ := hstr ρ dv z
    intro v H1 F1 g rp
    cases rp
    refine ⟨⟨s, rfl⟩, ?_⟩
    have q0 : FinG (X.kc c) c (rE (X.kc c)) F1 H1 ((eb ρ).bind fun y => Res.of (fJoin (.str s) [y])) Q := FinG.grow g q
    refine tG_bind (r.grow g) q0 fun w dw H2 F2 g2 r2 rw' q2 => ?_
    obtain ⟨dz, e, q3⟩ := finOf q2
    unfold fJoin at e
    split at e
    · rename_i a' ds ea' eb'
      cases ea'
      cases eb'
      obtain ⟨ys, e1, e2⟩ := Option.bind_eq_some_iff.mp e
      have e3 := strs?_eq e1; subst e3
      obtain ⟨l, vs, rfl, h1, h2⟩ := rw'.lst r2.le
      have e4 := h2.strs; subst e4
      split at e2
      · rename_i hz
        cases e2
        exact ⟨s, l, ys, rfl, rfl, .inl (.inl (.inl h1)), hz, q3 _ H2 F2 r2.refl (.str _)⟩
      · cases e2
    · cases e
  | exc C fs => rw [z] at q; exact q
  | stuck => rw [z] at q; exact q
/-! max(xs, default = d) -/
def rMaxD (K : PySem.W.Frag) : List V → List V → Hp → VK → Prop := fun vs zs H Q => ∃ (a : Addr) (ns : List Int) (k : Int), vs = [V.ref a] ∧ zs = [V.int k] ∧ SqL K H a (ns.map V.int) ∧ Q (.int (if ns.isEmpty = true then k else maxL ns)) H
theorem foldl_max : ∀ (ns : List Int) (n : Int), ns.foldl max n = maxL (n :: ns)
  | [], n => rfl
  | k :: ns, n => by
    show ns.foldl max (max n k) = max n (maxL (k :: ns))
    rw [foldl_max ns (max n k)]
    cases ns with
    | nil => rfl
    | cons m r =>
      show max (max n k) (maxL (m :: r)) = max n (max k (maxL (m :: r)))
      omega
theorem ints_reads {h : Heap} : ∀ {us : List Value} {ns : List Int}, IntsAre us ns → ReadsAll h us (ns.map PyData.int) []
  | _, _, .nil => .nil
  | _, _, .cons n t r => by
    have := ReadsAll.cons (Reads.int (h := h) n t) (ints_reads (h := h) r)
    simpa using this
theorem alike_ints (ns : List Int) : PySem.W.AlikeAll (ns.map PyData.int) := by
  refine ⟨fun x hx y hy => ?_, fun x hx => ?_⟩
  · obtain ⟨a, _, rfl⟩ := List.mem_map.mp hx
    obtain ⟨b, _, rfl⟩ := List.mem_map.mp hy
    rfl
  · obtain ⟨a, _, rfl⟩ := List.mem_map.mp hx
    intro z; cases z
theorem depth_ints : ∀ ns : List Int, PyData.depthAll (ns.map PyData.int) ≤ 1
  | [] => by unfold PyData.depthAll; exact Nat.zero_le _
  | n :: ns => by
    have := depth_ints ns
    rw [List.map_cons]
    unfold PyData.depthAll
    have h : (PyData.int n).depth ≤ 1 := by unfold PyData.depth; decide
    omega
theorem cr_maxD (hc : X.calm = true) (hu : X.A.units + 64 < cLine) : CallRK X (.builtin "max") [Str.ofString "default"] (rMaxD X.K) := by
  intro pins s σ H xs zs us ws Q I r1 r2 h
  obtain ⟨a, ns, k, rfl, rfl, hs, q⟩ := h
  obtain ⟨its, rv, hl, _⟩ := I.list hs
  rw [Vals.ref1 r1]
  obtain ⟨u, rfl, t, rfl⟩ := vals1 r2
  have hd := depth_ints ns
  refine PySem.W.max_list_default (I.ok.hd hc) hl.isList (ints_reads rv.ints) (alike_ints ns) (by omega) (fun e h' tk hk => ?_) fun y ys i v h' tk bs e hv hr hk => ?_
  · have e' : ns = [] := List.map_eq_nil_iff.mp e
    subst e'
    exact ⟨.int k, H, I.kept hk, ⟨t, rfl⟩, q⟩
  · cases ns with
    | nil => cases e
    | cons n ns =>
      rw [List.map_cons] at e
      injection e with e1 e2
      subst e1 e2
      rw [PySem.W.maxD_ints, foldl_max] at hr
      cases hr
      exact ⟨.int _, H, I.kept hk, ⟨_, rfl⟩, q⟩
def eMaxD (as : Av) (k : Ev) : Ev := fun ρ => (as ρ).bind fun xs => (k ρ).bind fun z => match xs, z with
  | [.lst ds], .int k => match ints? ds with
    | some ns => .ok (.int (if ns.isEmpty = true then k else maxL ns))
    | none => .stuck
  | _, _ => .stuck
theorem se_maxD {kp : Pos} (hc : X.calm = true) (hu : X.A.units + 64 < cLine) (hg : Gl X "max") (hm : X.mg "max" = none) (ha : SAB c X [e] av) (hk : SE c X d ed)
    (he : backTo pos (starEach [e] X.env) = (false, eval e X.env) :: backTo pos (starEach [] X.env) := by rfl) (hpl : (backTo pos (starEach [e] X.env)).any (·.1) = false := by rfl)
    (hall : (backToKw pos (keywordEach [⟨some (Str.ofString "default"), d, kp⟩] X.env)).all (·.1.isSome) = true := by rfl) (hnone : (backToKw pos (keywordEach [⟨some (Str.ofString "default"), d, kp⟩] X.env)).any (·.1.isNone) = false := by rfl) (hks : (backToKw pos (keywordEach [⟨some (Str.ofString "default"), d, kp⟩] X.env)).filterMap (·.1) = [Str.ofString "default"] := by rfl) :
    SE c X (.Call (.Name "max" p) [e] [⟨some (Str.ofString "default"), d, kp⟩] pos) (eMaxD av ed) := by
  refine ⟨pe_imp (pe_callBK (cr_maxD hc hu) hg hm (by decide +kernel) ha.pa (pk_cons hk.pe pk_nil) (by decide) (by decide) he hpl hall hnone hks) fun σ H Q ⟨F, ρ, r, q⟩ => ?_⟩
  refine tG_bind r q fun vs ds H1 F1 g r1 rp q1 => ?_
  refine tG_bind r1 q1 fun z dz H2 F2 g2 r2 rz q2 => ?_
  split at q2
  · rename_i ds' k
    split at q2
    · rename_i ns hn
      have e1 := ints?_eq hn; subst e1
      obtain ⟨v, rfl, hv⟩ := repsB1 rp
      obtain ⟨a, ws, rfl, h1, h2⟩ := hv.lst r1.le
      have e2 := h2.ints; subst e2
      cases rz
      exact ⟨a, ns, k, rfl, rfl, .inl (.inl (g2.h _ _ h1)), q2 _ H2 F2 r2.refl (.int _)⟩
    · exact q2.elim
  · exact q2.elim
/-! o.f -/
def fld (C : Nat) (f : Str) : D → Option D
  | .obj C' fs => if C' = C then fs.lookup f else none
  | _ => none
theorem se_fld {C : Nat} {f : Str} (hC : Cls X.K (c.cm C)) (hf : NoAttr X.K (c.cm C) f) (ha : SE c X e ea) (hb : attributeBase e f X.env (eval e X.env) = eval e X.env := by rfl) : SE c X (.Attribute e f pos) (e1 (fld C f) ea) := by
  refine ⟨pe_imp (pe_fld ha.pe hb) fun σ H Q ⟨F, ρ, r, q⟩ => ?_⟩
  refine tG_bind r q fun v dv H1 F1 g r1 rp q1 => ?_
  obtain ⟨dz, e, q3⟩ := finOf q1
  unfold fld at e
  split at e
  · rename_i C' fs
    split at e
    · rename_i hcc
      subst hcc
      cases rp with
      | obj h1 h2 =>
        rename_i a dx fv
        obtain ⟨v, e1, e2⟩ := h2.look e
        exact ⟨a, _, dx, fv, v, rfl, r1.le _ _ h1, hC, hf, e1, q3 v H1 F1 r1.refl e2⟩
    · cases e
  · cases e
end
end Pu

namespace Pu
open PySem PySem.Spec PyProof.Rows L2

/-! ### comprehensions -/
def Res.nx {α : Type} (r : Res α) : Res α := match r with
  | .ok a => .ok a
  | _ => .stuck
@[simp] theorem Res.nx_ok {α : Type} (a : α) : (Res.ok a).nx = .ok a := rfl
@[simp] theorem Res.nx_exc {α : Type} (C : Nat) (fs : List (Str × D)) : (Res.exc C fs : Res α).nx = .stuck := rfl
@[simp] theorem Res.nx_stuck {α : Type} : (Res.stuck : Res α).nx = .stuck := rfl
def lcGo (g : Gv) (tt : Tv) (ev : Ev) (ρ : PEnv) : List D → Res (List D)
  | [] => .ok []
  | d :: ds => match g d ρ with
    | none => .stuck
    | some ρ1 => (tt ρ1).nx.bind fun b => if b = true then (ev ρ1).nx.bind fun y => (lcGo g tt ev ρ ds).bind fun ys => .ok (y :: ys) else lcGo g tt ev ρ ds
def lLc (it : Av) (g : Gv) (ix : List Nat) (tt : Tv) (ev : Ev) : Av := fun ρ => (it ρ).bind fun ds => if ds.length ≤ sizeLine then lcGo g tt ev (wipeR ρ ix) ds else .stuck
def tYes' : Tv := fun _ => .ok true
abbrev Cc.nox (c : Cc) : Cc := { c with E := fun _ _ _ => False }
theorem Rel.nox {K : Kc} {c : Cc} {F H : Hp} {ρ : PEnv} {σ : Sg} (r : Rel K c F ρ σ H) : Rel K c.nox F ρ σ H := ⟨r.b, r.f0, r.le, r.nw, r.len, r.len2, r.sl⟩
theorem Rel.unnox {K : Kc} {c : Cc} {F H : Hp} {ρ : PEnv} {σ : Sg} (r : Rel K c.nox F ρ σ H) : Rel K c F ρ σ H := ⟨r.b, r.f0, r.le, r.nw, r.len, r.len2, r.sl⟩
theorem lcGo_len {g : Gv} {tt : Tv} {ev : Ev} {ρ : PEnv} : ∀ {ds ys : List D}, lcGo g tt ev ρ ds = .ok ys → ys.length ≤ ds.length
  | [], ys, e => by cases e; exact Nat.le_refl _
  | d :: ds, ys, e => by
    unfold lcGo at e
    split at e
    · cases e
    · rename_i ρ1 _
      cases zt : tt ρ1 with
      | ok b =>
        rw [zt] at e
        cases b with
        | true =>
          have e' : (ev ρ1).nx.bind (fun y => (lcGo g tt ev ρ ds).bind fun ys => .ok (y :: ys)) = .ok ys := e
          cases ze : ev ρ1 with
          | ok y =>
            rw [ze] at e'
            cases zr : lcGo g tt ev ρ ds with
            | ok zs => rw [zr] at e'; cases e'; exact Nat.succ_le_succ (lcGo_len zr)
            | exc C fs => rw [zr] at e'; cases e'
            | stuck => rw [zr] at e'; cases e'
          | exc C fs => rw [ze] at e'; cases e'
          | stuck => rw [ze] at e'; cases e'
        | false =>
          have e' : lcGo g tt ev ρ ds = .ok ys := e
          exact Nat.le_succ_of_le (lcGo_len e')
      | exc C fs => rw [zt] at e; cases e
      | stuck => rw [zt] at e; cases e
theorem lcGo_exc {g : Gv} {tt : Tv} {ev : Ev} {ρ : PEnv} {C : Nat} {fs : List (Str × D)} : ∀ {ds : List D}, lcGo g tt ev ρ ds ≠ .exc C fs
  | [], e => by cases e
  | d :: ds, e => by
    unfold lcGo at e
    split at e
    · cases e
    · rename_i ρ1 _
      cases zt : tt ρ1 with
      | ok b =>
        rw [zt] at e
        cases b with
        | true =>
          have e' : (ev ρ1).nx.bind (fun y => (lcGo g tt ev ρ ds).bind fun ys => .ok (y :: ys)) = .exc C fs := e
          cases ze : ev ρ1 with
          | ok y =>
            rw [ze] at e'
            cases zr : lcGo g tt ev ρ ds with
            | ok zs => rw [zr] at e'; cases e'
            | exc C fs => exact lcGo_exc zr
            | stuck => rw [zr] at e'; cases e'
          | exc C fs => rw [ze] at e'; cases e'
          | stuck => rw [ze] at e'; cases e'
        | false => exact lcGo_exc (show lcGo g tt ev ρ ds = _ from e)
      | exc C fs => rw [zt] at e; cases e
      | stuck => rw [zt] at e; cases e
/-- the heap without what stands at D -/
def del (H : Hp) (a : Addr) : Hp := fun b => if b = a then none else H b
theorem del_same {H : Hp} {a : Addr} : del H a a = none := if_pos rfl
theorem del_ne {H : Hp} {a b : Addr} (h : b ≠ a) : del H a b = H b := if_neg h
theorem upd_del {H : Hp} {a : Addr} {o : HO} (h : H a = some o) : upd (del H a) a o = H := by
  funext b
  by_cases e : b = a
  · subst e; rw [upd_same, h]
  · rw [upd_ne e, del_ne e]
theorem del_le {H : Hp} {a : Addr} : Same (del H a) H := fun b o e => by
  by_cases q : b = a
  · subst q; rw [del_same] at e; cases e
  · rwa [del_ne q] at e
theorem del_upd {H : Hp} {a : Addr} {o : HO} : del (upd H a o) a = del H a := by
  funext b
  by_cases e : b = a
  · subst e; rw [del_same, del_same]
  · rw [del_ne e, upd_ne e, del_ne e]
theorem le_del {F H : Hp} {a : Addr} (h : Same F H) (n : F a = none) : Same F (del H a) := fun b o e => by
  by_cases q : b = a
  · subst q; rw [n] at e; cases e
  · rw [del_ne q]; exact h b o e

section
variable {c : Cc} {X : Cx} {elt tg iter : Expr} {ifs : List Expr} {scope : Scope} {own : List (Str × Nat)} {pos spos py p : Pos} {it : Av} {g : Gv} {ix : List Nat} {tt : Tv} {ev : Ev} {y : Str} {i : Nat}
structure STs (c : Cc) (X : Cx) (ifs : List Expr) (tv : Tv) : Prop where
  pts : PTs X ifs (tT (X.kc c) c tv)
theorem pts_imp {X : Cx} {es : List Expr} {t t' : TT} (h : PTs X es t) (i : ∀ σ H Q, t' σ H Q → t σ H Q) : PTs X es t' := ⟨fun pins s σ H Q I q => h.run pins s σ H Q I (i σ H Q q)⟩
theorem sts_nil : STs c X [] tYes' := ⟨pts_imp pts_nil fun σ H Q ⟨F, ρ, r, q⟩ => q true H F r.refl rfl⟩
theorem sts_one {e : Expr} {tv : Tv} (h : ST c X e tv) : STs c X [e] tv := ⟨pts_one h.pt⟩
abbrev Bk (X : Cx) (s : Shared) (H : Hp) (C : Addr) (cl : List (Str × Addr)) (fp : List Addr) (scope : Scope) : Cx := X.blk s H scope (compEnvC scope cl C X.env) fp
theorem all_lt {ix : List Nat} {n : Nat} (h : (ix.all fun j => decide (j < n)) = true) : ∀ j ∈ ix, j < n := fun j hj => of_decide_eq_true (List.all_eq_true.mp h j hj)
theorem tLc_of {K : Kc} {σ : Sg} {H : Hp} {Q : VK} (hix : ∀ j ∈ ix, ∀ a, c.io ≠ some (j, a)) (hlt : ∀ j ∈ ix, j < c.n) (h : tNw K c (lLc it g ix tt ev) σ H Q) :
    tLc (tIt K c it) (tGt K c.nox ix g) (tT K c.nox tt) (tE K c.nox ev) ix σ H Q := by
  obtain ⟨F, ρ, r, q⟩ := h
  refine ⟨F, ρ, r, ?_⟩
  unfold lLc at q
  cases z : it ρ with
  | exc C fs => rw [z] at q; exact q
  | stuck => rw [z] at q; exact q
  | ok ds =>
    rw [z] at q
    intro J H1 F1 g1 w D nD
    have q0 : FinN K c F H (if ds.length ≤ sizeLine then lcGo g tt ev (wipeR ρ ix) ds else .stuck) Q := q
    by_cases hz : ds.length ≤ sizeLine
    · rw [if_pos hz] at q0
      have nF1 : F1 D = none := g1.le.free nD
      have q1 : FinN K c F1 H1 (lcGo g tt ev (wipeR ρ ix) ds) Q := by
        cases zz : lcGo g tt ev (wipeR ρ ix) ds with
        | ok ys => rw [zz] at q0; exact fun p vs H2 F2 g2 n rs hz => q0 p vs H2 F2 (g1.trans g2) n rs hz
        | exc C fs => exact absurd zz lcGo_exc
        | stuck => rw [zz] at q0; exact q0
      have r1 := r.grow g1
      -- what holds between the turns
      refine lc_it w (fun i H' => ∃ F' acc done, Grow F1 H1 F' (del H' D) ∧ H' D = some (.lst acc) ∧ Reps K F' acc done ∧ F' D = none ∧ acc.length ≤ i ∧
        ∃ ys, lcGo g tt ev (wipeR ρ ix) (ds.drop i) = .ok ys ∧ lcGo g tt ev (wipeR ρ ix) ds = .ok (done ++ ys)) ?_ ?_ ?_ ?_
      · cases zz : lcGo g tt ev (wipeR ρ ix) ds with
        | ok ys =>
          refine ⟨F1, [], [], ?_, upd_same, .nil, nF1, Nat.le_refl _, ys, by simpa using zz, rfl⟩
          rw [del_upd]
          have e : del H1 D = H1 := by
            funext b
            by_cases e : b = D
            · subst e; rw [del_same, nD]
            · rw [del_ne e]
          rw [e]
          exact r1.refl
        | exc C fs => exact absurd zz lcGo_exc
        | stuck => rw [zz] at q1; exact q1.elim
      · rintro i H' _ ⟨F', acc, done, g2, _⟩
        exact (g2.f.trans g2.le).trans del_le
      · rintro i x H' H2 hi ⟨F', acc, done, g2, eD, rs, nD', hl, ys, e1, e2⟩ yy
        have le' : Same F' H' := g2.le.trans del_le
        obtain ⟨F2, d, g3, ed, rp⟩ := yy F' g2.f le'
        have hd : ds.drop i = d :: ds.drop (i + 1) := by
          have hi' : i < ds.length := hi
          rw [List.drop_eq_getElem_cons hi']
          congr 1
          rw [List.getElem?_eq_getElem hi'] at ed
          exact Option.some.inj ed
        rw [hd] at e1
        unfold lcGo at e1
        have nF2 : F2 D = none := by
          cases w : F2 D with
          | none => rfl
          | some o =>
            rcases g3.nw D o w with v | v
            · rw [nD'] at v; cases v
            · rw [eD] at v; cases v
        have eD2 : H2 D = some (.lst acc) := g3.h _ _ eD
        -- the growth without D
        have g4 : Grow F1 H1 F2 (del H2 D) := by
          refine ⟨g2.f.trans g3.f, fun b o e => ?_, le_del g3.le nF2, fun b o e => ?_⟩
          · have nb : b ≠ D := fun z => by rw [z, nD] at e; cases e
            rw [del_ne nb]
            exact g3.h _ _ (del_le _ _ (g2.h _ _ e))
          · rcases g3.nw b o e with v | v
            · exact g2.nw b o v
            · exact .inr (Same.free (H := H1) (H' := H') (g2.h.trans del_le) v)
        have r2 : Rel K c F2 ρ σ H2 := (r1.grow g4).hmono del_le
        have r2w : Rel K c.nox F2 (wipeR ρ ix) (wipe σ ix) H2 := (Rel.wipe r2 ix hix hlt).nox
        split at e1
        · cases e1
        · rename_i ρ1 zg
          refine ⟨F2, _, d, ρ1, r2w, rp, zg, fun σ2 r3 w3 => ⟨w3.trans (wipe_wipe σ ix), ?_⟩⟩
          refine ⟨F2, ρ1, r3, ?_⟩
          cases zt : tt ρ1 with
          | exc C fs => rw [zt] at e1; cases e1
          | stuck => rw [zt] at e1; cases e1
          | ok b =>
            rw [zt] at e1
            intro b' H3 F3 g5 eb
            cases (show b' = b from eb)
            have grow2 : ∀ {F3 H3 : Hp}, Grow F2 H2 F3 H3 → F3 D = none ∧ H3 D = some (.lst acc) ∧ Grow F1 H1 F3 (del H3 D) := fun {F3 H3} g5 => by
              have n3 : F3 D = none := by
                cases w : F3 D with
                | none => rfl
                | some o =>
                  rcases g5.nw D o w with v | v
                  · rw [nF2] at v; cases v
                  · rw [eD2] at v; cases v
              refine ⟨n3, g5.h _ _ eD2, g4.f.trans g5.f, fun b o e => ?_, le_del g5.le n3, fun b o e => ?_⟩
              · have nb : b ≠ D := fun z => by rw [z, nD] at e; cases e
                rw [del_ne nb]
                exact g5.h _ _ (del_le _ _ (g4.h _ _ e))
              · rcases g5.nw b o e with v | v
                · exact g4.nw b o v
                · exact .inr (Same.free (H := H1) (H' := H2) (g4.h.trans del_le) v)
            cases b with
            | false =>
              refine iteF ?_
              obtain ⟨n3, e3, g6⟩ := grow2 g5
              exact ⟨F3, acc, done, g6, e3, rs.mono (g3.f.trans g5.f), n3, Nat.le_succ_of_le hl, ys, e1, e2⟩
            | true =>
              refine iteT ⟨F3, ρ1, r3.grow g5, ?_⟩
              have e1' : (ev ρ1).nx.bind (fun y => (lcGo g tt ev (wipeR ρ ix) (ds.drop (i + 1))).bind fun ys => .ok (y :: ys)) = .ok ys := e1
              cases ze : ev ρ1 with
              | exc C fs => rw [ze] at e1'; cases e1'
              | stuck => rw [ze] at e1'; cases e1'
              | ok yd =>
                rw [ze] at e1'
                intro v H4 F4 g7 rv
                obtain ⟨n4, e4, g8⟩ := grow2 (g5.trans g7)
                cases zr : lcGo g tt ev (wipeR ρ ix) (ds.drop (i + 1)) with
                | exc C fs => rw [zr] at e1'; cases e1'
                | stuck => rw [zr] at e1'; cases e1'
                | ok zs =>
                  rw [zr] at e1'
                  cases e1'
                  have hi' : i < ds.length := hi
                  refine ⟨acc, e4, by omega, F4, acc ++ [v], done ++ [yd], ?_, upd_same, ?_, n4, by rw [List.length_append]; exact Nat.succ_le_succ hl, zs, rfl, by rw [e2, List.append_assoc]; rfl⟩
                  · rw [del_upd]; exact g8
                  · exact (rs.mono ((g3.f.trans g5.f).trans g7.f)).append (.cons rv .nil)
      · rintro H' ⟨F', acc, done, g2, eD, rs, nD', hl, ys, e1, e2⟩
        rw [List.drop_length] at e1
        cases e1
        rw [List.append_nil] at e2
        rw [e2] at q1
        have := q1 D acc (del H' D) F' g2 del_same rs (Nat.le_trans hl hz)
        rwa [upd_del eD] at this
    · rw [if_neg hz] at q0; exact q0.elim
theorem sn_lc (hc : X.calm = true) (hN : X.N.Nodup) (hi : SI c X tg iter it) (ok : BlkOk X.N X.env.scope scope own) (hix : own.map (·.2) = ix) (io : ∀ j ∈ ix, ∀ a, c.io ≠ some (j, a))
    (hg : ∀ (s : Shared) (H : Hp) (C : Addr) (cl : List (Str × Addr)) (fp : List Addr), SG c.nox (Bk X s H C cl fp scope) tg ix g) (ht : ∀ (s : Shared) (H : Hp) (C : Addr) (cl : List (Str × Addr)) (fp : List Addr), STs c.nox (Bk X s H C cl fp scope) ifs tt)
    (he : ∀ (s : Shared) (H : Hp) (C : Addr) (cl : List (Str × Addr)) (fp : List Addr), SE c.nox (Bk X s H C cl fp scope) elt ev) (hs : ∀ x, foldedSetIterable iter X.env x = pure x := by intro _; rfl) (hlt : (ix.all fun j => decide (j < c.n)) = true := by rfl)  :
    SN c X (.ListComp elt [⟨tg, iter, ifs, 0⟩] scope pos) (lLc it g ix tt ev) := by
  subst hix
  refine ⟨pe_imp (pe_lc (te := tE (X.kc c) c.nox ev) (g := tGt (X.kc c) c.nox _ g) (tt := tT (X.kc c) c.nox tt) hc hN hi.pi ok (fun s H C cl fp => (hg s H C cl fp).pg) (fun s H C cl fp => (ht s H C cl fp).pts) (fun s H C cl fp => (he s H C cl fp).pe) hs) fun σ H Q h => ?_⟩
  exact tLc_of io (all_lt hlt) h
/-- name = [..], the model's own statement; the list is the name's own -/
theorem ss_ownLc (hc : X.calm = true) (hN : X.N.Nodup) (hy : X.N[i]? = some y) (hyl : X.env.scope.names.lookup y = some .local) (hsw : swapsWith (.ListComp elt [⟨tg, iter, ifs, 0⟩] scope pos) (some (.Name y py)) spos.line X.env = pure true)
    (hi : SI c X tg iter it) (ok : BlkOk X.N X.env.scope scope own) (hix : own.map (·.2) = ix) (io : ∀ j ∈ ix, ∀ a, c.io ≠ some (j, a)) (io2 : ∀ a, c.io ≠ some (i, a))
    (hg : ∀ (s : Shared) (H : Hp) (C : Addr) (cl : List (Str × Addr)) (fp : List Addr), SG c.nox (Bk X s H C cl fp scope) tg ix g) (ht : ∀ (s : Shared) (H : Hp) (C : Addr) (cl : List (Str × Addr)) (fp : List Addr), STs c.nox (Bk X s H C cl fp scope) ifs tt)
    (he : ∀ (s : Shared) (H : Hp) (C : Addr) (cl : List (Str × Addr)) (fp : List Addr), SE c.nox (Bk X s H C cl fp scope) elt ev) (hs : ∀ x, foldedSetIterable iter X.env x = pure x := by intro _; rfl) (hlt : (ix.all fun j => decide (j < c.n)) = true := by rfl) (hn : c.n = X.N.length := by rfl) :
    SS c X (.Assign [.Name y py] (.ListComp elt [⟨tg, iter, ifs, 0⟩] scope pos) spos) (sOwn i (lLc it g ix tt ev)) := by
  subst hix
  refine ⟨ps_imp (ps_setLc (te := tE (X.kc c) c.nox ev) (g := tGt (X.kc c) c.nox _ g) (tt := tT (X.kc c) c.nox tt) hc hN hy hyl hsw hi.pi ok (fun s H C cl fp => (hg s H C cl fp).pg) (fun s H C cl fp => (ht s H C cl fp).pts) (fun s H C cl fp => (he s H C cl fp).pe) hs) fun D σ H ⟨F, ρ, r, q⟩ => ?_⟩
  refine tLc_of io (all_lt hlt) ⟨F, ρ, r, ?_⟩
  unfold sOwn at q
  cases z : lLc it g (own.map (·.2)) tt ev ρ with
  | ok ds =>
    rw [z] at q
    intro p vs H1 F1 g n rp _
    have q' : FinS (X.kc c) c F (if i < ρ.length then .nx (ρ.set i (.own ds)) else .stuck) D := q
    by_cases hl : i < ρ.length
    · rw [if_pos hl] at q'
      exact q' _ _ F1 g.f ((r.grow g).setOwn io2 (lt_n hn hy) n rp)
    · rw [if_neg hl] at q'; exact q'.elim
  | exc C fs => rw [z] at q; exact q
  | stuck => rw [z] at q; exact q
theorem ss_setLc (hc : X.calm = true) (hN : X.N.Nodup) (hy : X.N[i]? = some y) (hyl : X.env.scope.names.lookup y = some .local) (hsw : swapsWith (.ListComp elt [⟨tg, iter, ifs, 0⟩] scope pos) (some (.Name y py)) spos.line X.env = pure true)
    (hi : SI c X tg iter it) (ok : BlkOk X.N X.env.scope scope own) (hix : own.map (·.2) = ix) (io : ∀ j ∈ ix, ∀ a, c.io ≠ some (j, a)) (io2 : ∀ a, c.io ≠ some (i, a))
    (hg : ∀ (s : Shared) (H : Hp) (C : Addr) (cl : List (Str × Addr)) (fp : List Addr), SG c.nox (Bk X s H C cl fp scope) tg ix g) (ht : ∀ (s : Shared) (H : Hp) (C : Addr) (cl : List (Str × Addr)) (fp : List Addr), STs c.nox (Bk X s H C cl fp scope) ifs tt)
    (he : ∀ (s : Shared) (H : Hp) (C : Addr) (cl : List (Str × Addr)) (fp : List Addr), SE c.nox (Bk X s H C cl fp scope) elt ev) (hs : ∀ x, foldedSetIterable iter X.env x = pure x := by intro _; rfl) (hlt : (ix.all fun j => decide (j < c.n)) = true := by rfl) (hn : c.n = X.N.length := by rfl) :
    SS c X (.Assign [.Name y py] (.ListComp elt [⟨tg, iter, ifs, 0⟩] scope pos) spos) (sSet i (eL (lLc it g ix tt ev))) := by
  subst hix
  refine ⟨ps_imp (ps_setLc (te := tE (X.kc c) c.nox ev) (g := tGt (X.kc c) c.nox _ g) (tt := tT (X.kc c) c.nox tt) hc hN hy hyl hsw hi.pi ok (fun s H C cl fp => (hg s H C cl fp).pg) (fun s H C cl fp => (ht s H C cl fp).pts) (fun s H C cl fp => (he s H C cl fp).pe) hs) fun D σ H ⟨F, ρ, r, q⟩ => ?_⟩
  refine tLc_of io (all_lt hlt) ⟨F, ρ, r, ?_⟩
  unfold sSet eL at q
  cases z : lLc it g (own.map (·.2)) tt ev ρ with
  | ok ds =>
    rw [z] at q
    intro p vs H1 F1 g n rp _
    have g2 := g.trans (Grow.laid (o := .lst vs) g.le n)
    exact q _ _ _ g2.f ((r.grow g2).set io2 (lt_n hn hy) (.lst upd_same (rp.mono (same_upd (g.le.free n)))))
  | exc C fs => rw [z] at q; exact q
  | stuck => rw [z] at q; exact q
end
end Pu

namespace Pu
open PySem PySem.Spec PyProof.Rows L2

/-! ### promises -/
def ini (m : Nat) (ds : List D) : PEnv := ds.map Slot.val ++ List.replicate (m - ds.length) .un
def Out.res : Out → Res D
  | .nx _ => .ok .non
  | .rt d => .ok d
  | .exc C fs => .exc C fs
  | _ => .stuck
/-- a def of n parameters and m names -/
def runFn (n m : Nat) (s : Sv) (ds : List D) : Res D := if ds.length = n then (s (ini m ds)).res else .stuck
/-- it answers Fn, and raises nothing -/
def PS0 (K : Kc) (Fn : List D → Res D) : Sp := fun vs H Q _ => ∃ F ds r, Same F H ∧ Reps K F vs ds ∧ Fn ds = .ok r ∧ ∀ v H' F', Grow F H F' H' → Rep K F' v r → Q v H'
/-- it answers Fn, or raises as Fn says -/
def PSX (K : Kc) (Fn : List D → Res D) : Sp := fun vs H Q E => ∃ F ds, Same F H ∧ Reps K F vs ds ∧ FinG K ⟨K.cm, H, F, E, none, 0⟩ (rE K) F H (Fn ds) Q
theorem runFn_len {n m : Nat} {s : Sv} {ds : List D} (h : runFn n m s ds ≠ .stuck) : ds.length = n := by
  unfold runFn at h
  split at h
  · assumption
  · exact absurd rfl h
theorem start_get {N : List Str} {vs : List V} {i : Nat} {v : V} (h : vs[i]? = some v) : (L2.start N vs)[i]? = some (some v) := by
  unfold L2.start
  have hi : i < vs.length := (List.getElem?_eq_some_iff.mp h).1
  rw [List.getElem?_append_left (by simpa using hi), List.getElem?_map, h]; rfl
theorem rel_start {K : Kc} {E : XK} {F H : Hp} {vs : List V} {ds : List D} {N : List Str} (le : Same F H) (rs : Reps K F vs ds) (hl : ds.length ≤ N.length) : Rel K ⟨K.cm, H, F, E, none, N.length⟩ F (ini N.length ds) (L2.start N vs) H := by
  have e := rs.length
  refine ⟨Same.refl H, Same.refl F, le, fun a o e => .inl e, ?_, ?_, fun _ => none, fun i s hs => ?_, fun i j a h => (nomatch h), fun i a h => (nomatch h), fun i a h => (nomatch h)⟩
  · unfold L2.start
    simp only [List.length_append, List.length_map, List.length_replicate]; omega
  · unfold ini
    simp only [List.length_append, List.length_map, List.length_replicate]; omega
  · unfold ini at hs
    by_cases hi : i < ds.length
    · rw [List.getElem?_append_left (by simpa using hi), List.getElem?_map] at hs
      rw [List.getElem?_eq_getElem hi] at hs
      cases hs
      obtain ⟨v, e1, e2⟩ := rs.get (List.getElem?_eq_getElem hi)
      exact ⟨rfl, v, start_get e1, e2⟩
    · rw [List.getElem?_append_right (by simpa using hi), List.getElem?_replicate] at hs
      split at hs
      · cases hs; rfl
      · cases hs
theorem Bot.grow {c : Cc} {F F' H' : Hp} (b : Bot c F F' H') (e : F = c.F0) : Grow F c.B F' H' := ⟨b.f, b.b, b.le, fun a o q => by rw [e]; exact b.nw a o q⟩
section
variable {P : Program} {w : World} {K : Kc} {mg : Str → Option Value} {base : Heap}
theorem fn0 {x qual : Str} {st : Stmt} {f : Addr} {fd : FuncData} {N ps : List Str} {k n m : Nat} {s : Sv} (F : Fun K.K x qual st f fd) (S : FnScope N ps (defScope st)) (hn : ps.length = n) (hm : N.length = m)
    (hb : ∀ (cdv : Value) (A : Around) (outer : List PySem.Env) (s' : Shared) (H Fz : Hp) (E : XK), Room k (A.deeper (envOfC qual (defScope st) s'.heap.objs.size f cdv)) →
      SSs ⟨K.cm, H, Fz, fun _ _ _ => False, none, N.length⟩ (cxOf CX0 P w K.K mg base N qual (defScope st) f cdv A outer s' H E).nox (defBody st) s) : FnOk P w K.K mg base CX0 (k + 1) f fd ps (PS0 K (runFn n m s)) := by
  subst hn hm
  refine F.ok S (fun vs H Q E h => ?_) (fun cdv A outer s' H vs Q E hr h => ?_)
  · obtain ⟨F, ds, r, le, rs, e, _⟩ := h
    rw [rs.length]
    exact runFn_len (by rw [e]; intro z; cases z)
  · obtain ⟨Fz, ds, r, le, rs, e, q⟩ := h
    have hl : ds.length = ps.length := runFn_len (s := s) (m := N.length) (by rw [e]; intro z; cases z)
    have hN : ps.length ≤ N.length := by
      have := congrArg List.length S.pre
      rw [List.length_take] at this; omega
    refine ⟨_, (hb cdv A outer s' H Fz E hr).ps, Fz, ini N.length ds, rel_start le rs (by omega), ?_⟩
    unfold runFn at e
    rw [if_pos hl] at e
    have e' : (s (ini N.length ds)).res = .ok r := e
    cases z : s (ini N.length ds) with
    | nx ρ' =>
      rw [z] at e'
      cases e'
      exact fun σ' H' F' m r' => q .non H' F' ((r'.bot m).grow rfl) .non
    | rt d =>
      rw [z] at e'
      cases e'
      exact fun v H' F' b rp => q v H' F' (b.grow rfl) rp
    | bk ρ' => rw [z] at e'; cases e'
    | ct ρ' => rw [z] at e'; cases e'
    | exc C fs => rw [z] at e'; cases e'
    | stuck => rw [z] at e'; cases e'
theorem fnX {x qual : Str} {st : Stmt} {f : Addr} {fd : FuncData} {N ps : List Str} {k n m : Nat} {s : Sv} (F : Fun K.K x qual st f fd) (S : FnScope N ps (defScope st)) (hn : ps.length = n) (hm : N.length = m)
    (hb : ∀ (cdv : Value) (A : Around) (outer : List PySem.Env) (s' : Shared) (H Fz : Hp) (E : XK), Room k (A.deeper (envOfC qual (defScope st) s'.heap.objs.size f cdv)) →
      SSs ⟨K.cm, H, Fz, E, none, N.length⟩ (cxOf (L2.CX P w) P w K.K mg base N qual (defScope st) f cdv A outer s' H E) (defBody st) s) : FnOk P w K.K mg base (L2.CX P w) (k + 1) f fd ps (PSX K (runFn n m s)) := by
  subst hn hm
  refine F.okX S (fun vs H Q E h => ?_) (fun cdv A outer s' H vs Q E hr h => ?_)
  · obtain ⟨F, ds, le, rs, q⟩ := h
    rw [rs.length]
    exact runFn_len (s := s) (m := N.length) (fun z => by rw [z] at q; exact q)
  · obtain ⟨Fz, ds, le, rs, q⟩ := h
    have hl : ds.length = ps.length := runFn_len (s := s) (m := N.length) (fun z => by rw [z] at q; exact q)
    have hN : ps.length ≤ N.length := by
      have := congrArg List.length S.pre
      rw [List.length_take] at this; omega
    refine ⟨_, (hb cdv A outer s' H Fz E hr).ps, Fz, ini N.length ds, rel_start le rs (by omega), ?_⟩
    unfold runFn at q
    rw [if_pos hl] at q
    have q' : FinG K ⟨K.cm, H, Fz, E, none, N.length⟩ (rE K) Fz H ((s (ini N.length ds)).res) Q := q
    cases z : s (ini N.length ds) with
    | nx ρ' =>
      rw [z] at q'
      exact fun σ' H' F' m r' => q' .non H' F' ((r'.bot m).grow rfl) .non
    | rt d =>
      rw [z] at q'
      exact fun v H' F' b rp => q' v H' F' (b.grow rfl) rp
    | bk ρ' => rw [z] at q'; exact q'.elim
    | ct ρ' => rw [z] at q'; exact q'.elim
    | exc C fs => rw [z] at q'; exact q'
    | stuck => rw [z] at q'; exact q'.elim
end

/-! ### calls -/
def eCall (Fn : List D → Res D) (as : Av) : Ev := fun ρ => (as ρ).bind fun ds => (Fn ds).nx
def scal' : D → Res D
  | .non => .ok .non
  | .bl b => .ok (.bl b)
  | .int i => .ok (.int i)
  | .str s => .ok (.str s)
  | _ => .stuck
def eCallB (Fn : List D → Res D) (as : Av) : Ev := fun ρ => (as ρ).bind fun ds => (Fn ds).nx.bind scal'
def eCallX (Fn : List D → Res D) (as : Av) : Ev := fun ρ => (as ρ).bind Fn
def aApp (as ks : Av) : Av := fun ρ => (as ρ).bind fun xs => (ks ρ).bind fun ys => .ok (xs ++ ys)
def oOk (C : Nat) (m : Str) : D → Bool
  | .obj C' fs => decide (C' = C) && (fs.lookup m).isNone
  | _ => false
def eMeth (C : Nat) (m : Str) (Fn : List D → Res D) (o : Ev) (as : Av) : Ev := fun ρ => (o ρ).bind fun x => if oOk C m x = true then (as ρ).bind fun ds => (Fn (x :: ds)).nx else .stuck
def eProp (C : Nat) (Fn : List D → Res D) (o : Ev) : Ev := fun ρ => (o ρ).bind fun x => match x with
  | .obj C' fs => if C' = C then (Fn [.obj C' fs]).nx else .stuck
  | _ => .stuck
theorem nx_fin {K : Kc} {c : Cc} {F H : Hp} {r : Res D} {Q : VK} (h : FinG K c (rE K) F H r.nx Q) : ∃ d, r = .ok d ∧ ∀ v H' F', Grow F H F' H' → Rep K F' v d → Q v H' := by
  cases r with
  | ok d => exact ⟨d, rfl, h⟩
  | exc C fs => exact h.elim
  | stuck => exact h.elim
section
variable {c : Cc} {X : Cx} {e a b d o : Expr} {es : List Expr} {kws : List Keyword} {ea eb ed eo : Ev} {av kv : Av} {pos p apos kpos : Pos} {x : Str} {CX : CXT} {k : Nat} {f C' : Addr} {fd : FuncData} {ps ks : List Str} {Fn : List D → Res D} {E : XK}
theorem repsB_reps {K : Kc} {F H : Hp} (le : Same F H) : ∀ {vs : List V} {ds : List D}, RepsB K F H vs ds → Reps K H vs ds
  | _, _, .nil => .nil
  | _, _, .cons h r => .cons (by
      rcases h with h | ⟨a, vs, ds, rfl, rfl, h1, h2⟩
      · exact h.mono le
      · exact .lst h1 (h2.mono le)) (repsB_reps le r)
/-- f(e, ..) -/
theorem se_call (F : FnOk X.prog X.w X.K X.mg X.base CX k f fd ps (PS0 (X.kc c) Fn)) (hr : Room k X.A) (hg : Gl X x) (hm : X.mg x = some (.ref f)) (hk : PySem.W.keepIn X.K (.ref f) = true) (hb : Binds X.K fd ps []) (hx : Passes CX X E0)
    (ha : SA c X (e :: es) av) (hdb : (x == ("__debug__" : Str)) = false := by decide) (he : starEach (e :: es) X.env = (false, eval e X.env) :: starEach es X.env := by rfl) (hpl : (backTo pos (starEach es X.env)).any (·.1) = false := by rfl) :
    SE c X (.Call (.Name x p) (e :: es) [] pos) (eCall Fn av) := by
  refine ⟨pe_imp (pe_call (E := E0) F hr hg hm hk hb .nil hx ha.pa hdb he hpl) fun σ H Q ⟨F, ρ, r, q⟩ => ?_⟩
  refine tG_bind r q fun vs ds H1 F1 g r1 rp q1 => ?_
  obtain ⟨rd, e1, q2⟩ := nx_fin q1
  rw [List.append_nil]
  exact ⟨F1, ds, rd, r1.le, rp, e1, q2⟩
theorem se_callBr (F : FnOk X.prog X.w X.K X.mg X.base CX k f fd ps (PS0 (X.kc c) Fn)) (hr : Room k X.A) (hg : Gl X x) (hm : X.mg x = some (.ref f)) (hk : PySem.W.keepIn X.K (.ref f) = true) (hb : Binds X.K fd ps []) (hx : Passes CX X E0)
    (ha : SAB c X (e :: es) av) (hdb : (x == ("__debug__" : Str)) = false := by decide) (he : starEach (e :: es) X.env = (false, eval e X.env) :: starEach es X.env := by rfl) (hpl : (backTo pos (starEach es X.env)).any (·.1) = false := by rfl) :
    SE c X (.Call (.Name x p) (e :: es) [] pos) (eCallB Fn av) := by
  refine ⟨pe_imp (pe_call (E := E0) F hr hg hm hk hb .nil hx ha.pa hdb he hpl) fun σ H Q ⟨F, ρ, r, q⟩ => ?_⟩
  refine tG_bind r q fun vs ds H1 F1 g r1 rp q1 => ?_
  rw [List.append_nil]
  cases z : Fn ds with
  | ok rd =>
    rw [z] at q1
    have q2 : FinG (X.kc c) c (rE (X.kc c)) F1 H1 (scal' rd) Q := q1
    refine ⟨H1, ds, rd, Same.refl H1, repsB_reps r1.le rp, z, fun v H' F' g2 rv => ?_⟩
    have g3 : Grow F1 H1 F1 H' := ⟨Same.refl F1, g2.h, r1.le.trans g2.h, fun a o e => .inl e⟩
    cases rv <;> first
      | exact q2 _ H' F1 g3 .non
      | exact q2 _ H' F1 g3 (.bl _)
      | exact q2 _ H' F1 g3 (.int _)
      | exact q2 _ H' F1 g3 (.str _)
      | exact q2.elim
  | exc C fs => rw [z] at q1; exact q1.elim
  | stuck => rw [z] at q1; exact q1.elim
/-- f(e, ..), f may raise -/
theorem se_callX (F : FnOk X.prog X.w X.K X.mg X.base CX k f fd ps (PSX (X.kc c) Fn)) (hr : Room k X.A) (hg : Gl X x) (hm : X.mg x = some (.ref f)) (hk : PySem.W.keepIn X.K (.ref f) = true) (hb : Binds X.K fd ps []) (hx : Passes CX X c.E)
    (ha : SA c X (e :: es) av) (hdb : (x == ("__debug__" : Str)) = false := by decide) (he : starEach (e :: es) X.env = (false, eval e X.env) :: starEach es X.env := by rfl) (hpl : (backTo pos (starEach es X.env)).any (·.1) = false := by rfl) :
    SE c X (.Call (.Name x p) (e :: es) [] pos) (eCallX Fn av) := by
  refine ⟨pe_imp (pe_call (E := c.E) F hr hg hm hk hb .nil hx ha.pa hdb he hpl) fun σ H Q ⟨F, ρ, r, q⟩ => ?_⟩
  refine tG_bind r q fun vs ds H1 F1 g r1 rp q1 => ?_
  rw [List.append_nil]
  refine ⟨F1, ds, r1.le, rp, ?_⟩
  cases z : Fn ds with
  | ok rd => rw [z] at q1; exact q1
  | exc C fs => rw [z] at q1; exact fun H' dd F' fv s h2 h3 h4 => q1 H' dd F' fv (r1.b.trans s) h2 h3 h4
  | stuck => rw [z] at q1; exact q1
/-! keywords -/
structure SK (c : Cc) (X : Cx) (kws : List Keyword) (av : Av) : Prop where
  pk : PK X kws (tA (X.kc c) c av)
theorem sk_nil : SK c X [] aN := ⟨pk_imp pk_nil fun σ H Q ⟨F, ρ, rl, q⟩ => q [] H F rl.refl .nil⟩
theorem sk_cons {nm : Option Str} (ha : SE c X e ea) (hr : SK c X kws av) : SK c X (⟨nm, e, kpos⟩ :: kws) (aC ea av) := by
  refine ⟨pk_imp (pk_cons ha.pe hr.pk) fun σ H Q ⟨F, ρ, rl, q⟩ => ?_⟩
  refine tG_bind rl q fun x dx H1 F1 g1 rl1 rx q1 => ?_
  refine tG_bind rl1 q1 fun xs ds H2 F2 g2 rl2 rs q2 => ?_
  exact q2 _ _ _ rl2.refl (.cons (rx.mono g2.f) rs)
def gK {α : Type} (n : Nat) (us ws : List α) : List α := if us.length = n then us ++ ws else []
theorem kb_of {K : PySem.W.Frag} {x qual : Str} {st : Stmt} {n m : Nat} (F : Fun K x qual st f fd) (hp : ps.length = n + m) (hpos : 0 < n + m)
    (h : ∀ (kV doc pm : Value) (an : Option Addr) (cdv ct : Value) (us ws : List Value), us.length = n → ws.length = m → bindArgs (PySem.W.fnOf x qual (defArgs st) (defBody st) (defScope st) .none kV doc pm an cdv ct) ⟨us, ks.zip ws⟩ = pure (ps.zip (us ++ ws))) :
    KBinds K fd ps ks (gK n) (gK n) := by
  obtain ⟨oc, od, kV, doc, pm, an, cdv, ct, osl, rfl, lk, hcd⟩ := F.ex
  refine ⟨fun s us ws _ hl => ?_, fun {vs us zs ws} r1 r2 => ?_⟩
  · unfold gK at hl ⊢
    by_cases hu : us.length = n
    · rw [if_pos hu] at hl ⊢
      rw [List.length_append] at hl
      exact .of_eq (h kV doc pm an cdv ct us ws hu (by omega))
    · rw [if_neg hu] at hl
      have : ps.length = 0 := hl.symm
      omega
  · unfold gK
    rw [r1.length]
    by_cases hu : us.length = n
    · rw [if_pos hu, if_pos hu]; exact r1.append r2
    · rw [if_neg hu, if_neg hu]; exact .nil
/-- f(e, .., k = v, ..): n values written by place -/
theorem se_callK {n : Nat} (F : FnOk X.prog X.w X.K X.mg X.base CX k f fd ps (PS0 (X.kc c) Fn)) (hr : Room k X.A) (hg : Gl X x) (hm : X.mg x = some (.ref f)) (hk : PySem.W.keepIn X.K (.ref f) = true) (hb : KBinds X.K fd ps ks (gK n) (gK n)) (hx : Passes CX X E0)
    (ha : SA c X (e :: es) av) (hkw : SK c X kws kv) (hav : ∀ ρ ds, av ρ = .ok ds → ds.length = n) (hall : (backToKw pos (keywordEach kws X.env)).all (·.1.isSome) = true := by rfl) (hks : (backToKw pos (keywordEach kws X.env)).filterMap (·.1) = ks := by rfl)
    (hdb : (x == ("__debug__" : Str)) = false := by decide) (he : starEach (e :: es) X.env = (false, eval e X.env) :: starEach es X.env := by rfl)
    (hpl : ((backTo pos (starEach (e :: es) X.env)).any (·.1) || (backToKw pos (keywordEach kws X.env)).any (·.1.isNone)) = false := by rfl) :
    SE c X (.Call (.Name x p) (e :: es) kws pos) (eCall Fn (aApp av kv)) := by
  refine ⟨pe_imp (pe_callK (E := E0) F hr hg hm hk hb hx ha.pa hkw.pk hall hks hdb he hpl) fun σ H Q ⟨F, ρ, r, q⟩ => ⟨F, ρ, r, ?_⟩⟩
  unfold eCall aApp at q
  rw [Res.bind_assoc] at q
  cases z : av ρ with
  | ok xs =>
    rw [z] at q
    intro vs H1 F1 g rp
    have q0 := FinG.grow g q
    have q0' : FinG (X.kc c) c (rE (X.kc c)) F1 H1 (((kv ρ).bind fun ys => .ok (xs ++ ys)).bind fun ds => (Fn ds).nx) Q := q0
    rw [Res.bind_assoc] at q0'
    refine tG_bind (r.grow g) q0' fun zs ys H2 F2 g2 r2 rz q1 => ?_
    have q1' : FinG (X.kc c) c (rE (X.kc c)) F2 H2 (Fn (xs ++ ys)).nx Q := q1
    obtain ⟨rd, e1, q2⟩ := nx_fin q1'
    refine ⟨F2, xs ++ ys, rd, r2.le, ?_, e1, q2⟩
    unfold gK
    rw [if_pos (by rw [rp.length]; exact hav ρ xs z)]
    exact (rp.mono g2.f).append rz
  | exc C fs => rw [z] at q; exact q
  | stuck => rw [z] at q; exact q
/-- .. that may raise -/
theorem se_callKX {n : Nat} (F : FnOk X.prog X.w X.K X.mg X.base CX k f fd ps (PSX (X.kc c) Fn)) (hr : Room k X.A) (hg : Gl X x) (hm : X.mg x = some (.ref f)) (hk : PySem.W.keepIn X.K (.ref f) = true) (hb : KBinds X.K fd ps ks (gK n) (gK n)) (hx : Passes CX X c.E)
    (ha : SA c X (e :: es) av) (hkw : SK c X kws kv) (hav : ∀ ρ ds, av ρ = .ok ds → ds.length = n) (hall : (backToKw pos (keywordEach kws X.env)).all (·.1.isSome) = true := by rfl) (hks : (backToKw pos (keywordEach kws X.env)).filterMap (·.1) = ks := by rfl)
    (hdb : (x == ("__debug__" : Str)) = false := by decide) (he : starEach (e :: es) X.env = (false, eval e X.env) :: starEach es X.env := by rfl)
    (hpl : ((backTo pos (starEach (e :: es) X.env)).any (·.1) || (backToKw pos (keywordEach kws X.env)).any (·.1.isNone)) = false := by rfl) :
    SE c X (.Call (.Name x p) (e :: es) kws pos) (eCallX Fn (aApp av kv)) := by
  refine ⟨pe_imp (pe_callK (E := c.E) F hr hg hm hk hb hx ha.pa hkw.pk hall hks hdb he hpl) fun σ H Q ⟨F, ρ, r, q⟩ => ⟨F, ρ, r, ?_⟩⟩
  unfold eCallX aApp at q
  rw [Res.bind_assoc] at q
  cases z : av ρ with
  | ok xs =>
    rw [z] at q
    intro vs H1 F1 g rp
    have q0 := FinG.grow g q
    have q0' : FinG (X.kc c) c (rE (X.kc c)) F1 H1 (((kv ρ).bind fun ys => .ok (xs ++ ys)).bind Fn) Q := q0
    rw [Res.bind_assoc] at q0'
    refine tG_bind (r.grow g) q0' fun zs ys H2 F2 g2 r2 rz q1 => ?_
    have q1' : FinG (X.kc c) c (rE (X.kc c)) F2 H2 (Fn (xs ++ ys)) Q := q1
    refine ⟨F2, xs ++ ys, r2.le, ?_, ?_⟩
    · unfold gK
      rw [if_pos (by rw [rp.length]; exact hav ρ xs z)]
      exact (rp.mono g2.f).append rz
    · cases zz : Fn (xs ++ ys) with
      | ok rd => rw [zz] at q1'; exact q1'
      | exc C fs => rw [zz] at q1'; exact fun H' dd F' fv s h2 h3 h4 => q1' H' dd F' fv (r2.b.trans s) h2 h3 h4
      | stuck => rw [zz] at q1'; exact q1'
  | exc C fs => rw [z] at q; exact q
  | stuck => rw [z] at q; exact q
/-! methods, properties -/
theorem oOk_lk {C : Nat} {m : Str} {d : D} (h : oOk C m d = true) : ∃ fs, d = .obj C fs ∧ fs.lookup m = none := by
  unfold oOk at h
  split at h
  · rw [Bool.and_eq_true, decide_eq_true_eq] at h
    obtain ⟨rfl, h⟩ := h
    exact ⟨_, rfl, Option.isNone_iff_eq_none.mp h⟩
  · cases h
theorem se_meth {C : Nat} {m : Str} {pl : Sem Bool} (he : SE c X o eo) (hC : Cls X.K (c.cm C)) (hm : Meth X.K (c.cm C) m f) (F : FnOk X.prog X.w X.K X.mg X.base CX k f fd ps (PS0 (X.kc c) Fn)) (hr : Room k X.A) (hb : Binds X.K fd ps []) (hx : Passes CX X E0) (ha : SA c X (e :: es) av)
    (hst : starEach (e :: es) X.env = (false, eval e X.env) :: starEach es X.env := by rfl) (hpl : (backTo pos (starEach es X.env)).any (·.1) = false := by rfl)
    (ht : eval (.Call (.Attribute o m apos) (e :: es) [] pos) X.env = (do
      let ov ← eval o X.env
      standAt apos.atName
      let (f, first) ← holding [ov] (getMethod ov m pl)
      callWith pos f first (backTo pos (starEach (e :: es) X.env)) (backToKw pos (keywordEach [] X.env))) := by rfl) :
    SE c X (.Call (.Attribute o m apos) (e :: es) [] pos) (eMeth C m Fn eo av) := by
  refine ⟨pe_imp (pe_meth (E := E0) he.pe hC hm F hr hb .nil hx ha.pa hst hpl ht) fun σ H Q ⟨F, ρ, r, q⟩ => ?_⟩
  refine tG_bind r q fun v dv H1 F1 g r1 rp q1 => ?_
  by_cases ho : oOk C m dv = true
  · rw [if_pos ho] at q1
    obtain ⟨fs, rfl, hl⟩ := oOk_lk ho
    cases rp with
    | obj h1 h2 =>
      rename_i a dx fv
      refine ⟨a, dx, fv, rfl, r1.le _ _ h1, h2.lookN hl, tG_bind r1 q1 fun vs ds H2 F2 g2 r2 rs q2 => ?_⟩
      obtain ⟨rd, e1, q3⟩ := nx_fin q2
      rw [List.append_nil]
      exact ⟨F2, _, rd, r2.le, .cons (.obj (g2.f _ _ h1) (h2.mono g2.f)) rs, e1, q3⟩
  · rw [if_neg ho] at q1; exact q1.elim
theorem se_meth0 {C : Nat} {m : Str} {pl : Sem Bool} (he : SE c X o eo) (hC : Cls X.K (c.cm C)) (hm : Meth X.K (c.cm C) m f) (F : FnOk X.prog X.w X.K X.mg X.base CX k f fd ps (PS0 (X.kc c) Fn)) (hr : Room k X.A) (hb : Binds X.K fd ps []) (hx : Passes CX X E0)
    (ht : eval (.Call (.Attribute o m apos) [] [] pos) X.env = (do
      let ov ← eval o X.env
      standAt apos.atName
      let (f, first) ← holding [ov] (getMethod ov m pl)
      callWith pos f first (backTo pos (starEach [] X.env)) (backToKw pos (keywordEach [] X.env))) := by rfl) :
    SE c X (.Call (.Attribute o m apos) [] [] pos) (eMeth C m Fn eo aN) := by
  refine ⟨pe_imp (pe_meth0 (E := E0) he.pe hC hm F hr hb .nil hx ht) fun σ H Q ⟨F, ρ, r, q⟩ => ?_⟩
  refine tG_bind r q fun v dv H1 F1 g r1 rp q1 => ?_
  by_cases ho : oOk C m dv = true
  · rw [if_pos ho] at q1
    obtain ⟨fs, rfl, hl⟩ := oOk_lk ho
    cases rp with
    | obj h1 h2 =>
      rename_i a dx fv
      obtain ⟨rd, e1, q3⟩ := nx_fin (show FinG (X.kc c) c (rE (X.kc c)) F1 H1 (Fn [.obj C fs]).nx Q from q1)
      exact ⟨a, dx, fv, rfl, r1.le _ _ h1, h2.lookN hl, F1, _, rd, r1.le, .cons (.obj h1 h2) .nil, e1, q3⟩
  · rw [if_neg ho] at q1; exact q1.elim
theorem se_prop {C : Nat} {nm : Str} {pp : Addr} (he : SE c X o eo) (hC : Cls X.K (c.cm C)) (hp : PropOf X.K (c.cm C) nm pp f) (F : FnOk X.prog X.w X.K X.mg X.base CX k f fd ps (PS0 (X.kc c) Fn)) (hr : Room (k + 1) X.A) (hb : Binds X.K fd ps []) (hx : Passes CX X.nox E0)
    (hab : attributeBase o nm X.env (eval o X.env) = eval o X.env := by rfl) : SE c X (.Attribute o nm pos) (eProp C Fn eo) := by
  refine ⟨pe_imp (pe_prop (E := E0) he.pe hC hp F hr hb .nil hx hab) fun σ H Q ⟨F, ρ, r, q⟩ => ?_⟩
  refine tG_bind r q fun v dv H1 F1 g r1 rp q1 => ?_
  cases dv with
  | obj C'' fs =>
    have q1' : FinG (X.kc c) c (rE (X.kc c)) F1 H1 (if C'' = C then (Fn [.obj C'' fs]).nx else .stuck) Q := q1
    by_cases hcc : C'' = C
    · subst hcc
      rw [if_pos rfl] at q1'
      cases rp with
      | obj h1 h2 =>
        rename_i a dx fv
        obtain ⟨rd, e1, q3⟩ := nx_fin q1'
        exact ⟨a, dx, fv, rfl, r1.le _ _ h1, F1, _, rd, r1.le, .cons (.obj h1 h2) .nil, e1, q3⟩
    · rw [if_neg hcc] at q1'; exact q1'.elim
  | _ => exact q1.elim
end
end Pu

namespace Pu
open PySem PySem.Spec PyProof.Rows L2

/-! ### __init__ -/
/-- a new instance of class C, whose fields are as Fn says -/
def PIn (K : Kc) (C : Nat) (Fn : List D → Res (List (Str × D))) : Sp := fun vs H Q _ => ∃ x dx vs' F ds fs, vs = .ref x :: vs' ∧ H x = some (.ins (K.cm C) dx []) ∧ F x = none ∧ Same F H ∧ Reps K F vs' ds ∧ Fn ds = .ok fs ∧
  ∀ H' F' dx' fv, Grow F (del H x) F' (del H' x) → H' x = some (.ins (K.cm C) dx' fv) → RepF K F' fv fs → Q .non H'
def Slot.fsOf (C : Nat) : Option Slot → Res (List (Str × D))
  | some (Slot.ob C' fs) => if C' = C then .ok fs else .stuck
  | _ => .stuck
def Out.init (C : Nat) : Out → Res (List (Str × D))
  | .nx ρ => Slot.fsOf C ρ[0]?
  | _ => .stuck
def iniI (C m : Nat) (ds : List D) : PEnv := .ob C [] :: (ds.map Slot.val ++ List.replicate (m - 1 - ds.length) .un)
/-- an __init__ of n parameters (self among them) and m names -/
def runIn (C n m : Nat) (s : Sv) (ds : List D) : Res (List (Str × D)) := if ds.length + 1 = n then (s (iniI C m ds)).init C else .stuck
theorem rel_startI {K : Kc} {E : XK} {F H : Hp} {C : Nat} {x dx : Addr} {vs : List V} {ds : List D} {N : List Str} (hx : H x = some (.ins (K.cm C) dx [])) (nx : F x = none) (le : Same F H) (rs : Reps K F vs ds) (hl : ds.length + 1 ≤ N.length) :
    Rel K ⟨K.cm, del H x, F, E, some (0, x), N.length⟩ F (iniI C N.length ds) (L2.start N (.ref x :: vs)) H := by
  have e := rs.length
  refine ⟨del_le, Same.refl F, le, fun a o e => .inl e, ?_, ?_, oaSet (fun _ => none) 0 (some x), fun i s hs => ?_, fun i j a h1 h2 => ?_, fun i a h => ?_, fun i a h => ?_⟩
  · unfold L2.start
    simp only [List.length_append, List.length_map, List.length_replicate, List.length_cons]; omega
  · unfold iniI
    simp only [List.length_append, List.length_map, List.length_replicate, List.length_cons]; omega
  · cases i with
    | zero =>
      cases hs
      exact ⟨x, dx, [], rfl, start_get rfl, hx, .nil⟩
    | succ i =>
      have hs' : (ds.map Slot.val ++ List.replicate (N.length - 1 - ds.length) .un)[i]? = some s := hs
      by_cases hi : i < ds.length
      · rw [List.getElem?_append_left (by simpa using hi), List.getElem?_map] at hs'
        rw [List.getElem?_eq_getElem hi] at hs'
        cases hs'
        obtain ⟨v, e1, e2⟩ := rs.get (List.getElem?_eq_getElem hi)
        exact ⟨rfl, v, start_get (by simpa using e1), e2⟩
      · rw [List.getElem?_append_right (by simpa using hi), List.getElem?_replicate] at hs'
        split at hs'
        · cases hs'; rfl
        · cases hs'
  · by_cases q : i = 0
    · by_cases q' : j = 0
      · rw [q, q']
      · rw [oaSet_ne q'] at h2; cases h2
    · rw [oaSet_ne q] at h1; cases h1
  · by_cases q : i = 0
    · rw [q, oaSet_same] at h; cases h
      exact ⟨nx, del_same, by rw [q]; exact Nat.succ_pos _⟩
    · rw [oaSet_ne q] at h; cases h
  · cases h; rfl
section
variable {P : Program} {w : World} {K : Kc} {mg : Str → Option Value} {base : Heap}
theorem fnI {x qual : Str} {st : Stmt} {f : Addr} {fd : FuncData} {N ps : List Str} {k C n m : Nat} {s : Sv} (F : Fun K.K x qual st f fd) (S : FnScope N ps (defScope st)) (hn : ps.length = n) (hm : N.length = m)
    (hb : ∀ (cdv : Value) (A : Around) (outer : List PySem.Env) (s' : Shared) (H B Fz : Hp) (E : XK) (a : Addr), Room k (A.deeper (envOfC qual (defScope st) s'.heap.objs.size f cdv)) →
      SSs ⟨K.cm, B, Fz, fun _ _ _ => False, some (0, a), N.length⟩ (cxOf CX0 P w K.K mg base N qual (defScope st) f cdv A outer s' H E).nox (defBody st) s) : FnOk P w K.K mg base CX0 (k + 1) f fd ps (PIn K C (runIn C n m s)) := by
  subst hn hm
  refine F.ok S (fun vs H Q E h => ?_) (fun cdv A outer s' H vs Q E hr h => ?_)
  · obtain ⟨x, dx, vs', F, ds, fs, rfl, hx, nx, le, rs, e, _⟩ := h
    rw [List.length_cons, rs.length]
    unfold runIn at e
    split at e
    · assumption
    · cases e
  · obtain ⟨x, dx, vs', Fz, ds, fs, rfl, hx, nx, le, rs, e, q⟩ := h
    unfold runIn at e
    split at e
    · rename_i hl
      have hN : ps.length ≤ N.length := by
        have := congrArg List.length S.pre
        rw [List.length_take] at this; omega
      refine ⟨_, (hb cdv A outer s' H (del H x) Fz E x hr).ps, Fz, iniI C N.length ds, rel_startI hx nx le rs (by omega), ?_⟩
      cases z : s (iniI C N.length ds) with
      | nx ρ' =>
        rw [z] at e
        intro σ' H' F' m r'
        have e' : Slot.fsOf C ρ'[0]? = .ok fs := e
        unfold Slot.fsOf at e'
        split at e'
        · rename_i C' fs' h0
          split at e'
          · rename_i hcc
            subst hcc
            cases e'
            obtain ⟨oa, h1, h2, h3, h4⟩ := r'.sl
            obtain ⟨a, dx', fv, o1, o2, o3, o4⟩ := h1 0 _ h0
            have o5 := h4 0 x rfl
            rw [o1] at o5; cases o5
            obtain ⟨f1, b1, _⟩ := h3 0 x o1
            exact q H' F' dx' fv ⟨m, le_del r'.b del_same, le_del r'.le f1, fun b o e => r'.nw b o e⟩ o3 o4
          · cases e'
        · cases e'
      | rt d => rw [z] at e; cases e
      | bk ρ' => rw [z] at e; cases e
      | ct ρ' => rw [z] at e; cases e
      | exc C fs => rw [z] at e; cases e
      | stuck => rw [z] at e; cases e
    · cases e
end
/-! C(..): the instance is told to change no more -/
def eMake (C : Nat) (Fn : List D → Res (List (Str × D))) (as : Av) : Ev := fun ρ => (as ρ).bind fun ds => (Fn ds).nx.bind fun fs => .ok (.obj C fs)
theorem make_of {K : Kc} {C : Nat} {F H : Hp} {vs : List V} {ds : List D} {fs : List (Str × D)} {Fn : List D → Res (List (Str × D))} {E : XK} {Q : VK} (le : Same F H) (rs : Reps K F vs ds) (e : Fn ds = .ok fs)
    (q : ∀ v H' F', Grow F H F' H' → Rep K F' v (.obj C fs) → Q v H') (x dx : Addr) (hx : H x = none) (hd : H dx = none) (hne : dx ≠ x) :
    PIn K C Fn (.ref x :: vs) (upd (upd H dx (.own x)) x (.ins (K.cm C) dx [])) (fun v H2 => v = .non ∧ Q (.ref x) H2) E := by
  have nF : F x = none := le.free hx
  have s1 : Same H (upd (upd H dx (.own x)) x (.ins (K.cm C) dx [])) := (same_upd hd).trans (same_upd (by rw [upd_ne (Ne.symm hne)]; exact hx))
  refine ⟨x, dx, vs, F, ds, fs, rfl, upd_same, nF, le.trans s1, rs, e, fun H' F' dx' fv g hx' rf => ⟨rfl, ?_⟩⟩
  have nF' : F' x = none := by
    cases w : F' x with
    | none => rfl
    | some o =>
      have := g.le x o w
      rw [del_same] at this; cases this
  have m : Same F' (upd F' x (.ins (K.cm C) dx' fv)) := same_upd nF'
  refine q (.ref x) H' (upd F' x (.ins (K.cm C) dx' fv)) ⟨g.f.trans m, fun b o eb => ?_, fun b o eb => ?_, fun b o eb => ?_⟩ (.obj upd_same (rf.mono m))
  · have nb : b ≠ x := fun z => by rw [z, hx] at eb; cases eb
    exact del_le _ _ (g.h b o (by rw [del_ne nb]; exact s1 b o eb))
  · by_cases nb : b = x
    · subst nb; rw [upd_same] at eb; cases eb; exact hx'
    · rw [upd_ne nb] at eb; exact del_le _ _ (g.le b o eb)
  · by_cases nb : b = x
    · subst nb; exact .inr hx
    · rw [upd_ne nb] at eb
      rcases g.nw b o eb with z | z
      · exact .inl z
      · rw [del_ne nb] at z; exact .inr (s1.free z)
section
variable {c : Cc} {X : Cx} {e a b d o : Expr} {es : List Expr} {kws : List Keyword} {ea eb ed eo : Ev} {av kv : Av} {pos p apos kpos : Pos} {x : Str} {CX : CXT} {k C : Nat} {f : Addr} {fd : FuncData} {ps ks : List Str} {Fn : List D → Res (List (Str × D))} {E : XK}
theorem nxF {α : Type} {K : Kc} {c : Cc} {F H : Hp} {r : Res α} {k : α → Res D} {Q : VK} (h : FinG K c (rE K) F H (r.nx.bind k) Q) : ∃ a, r = .ok a ∧ FinG K c (rE K) F H (k a) Q := by
  cases r with
  | ok d => exact ⟨d, rfl, h⟩
  | exc C fs => exact h.elim
  | stuck => exact h.elim
theorem se_make (M : Mk X.K (c.cm C) f) (F : FnOk X.prog X.w X.K X.mg X.base CX k f fd ps (PIn (X.kc c) C Fn)) (hr : Room (k + 1) X.A) (hg : Gl X x) (hm : X.mg x = some (.ref (c.cm C))) (hb : Binds X.K fd ps []) (hx : Passes CX X E0)
    (ha : SA c X (e :: es) av) (hdb : (x == ("__debug__" : Str)) = false := by decide) (he : starEach (e :: es) X.env = (false, eval e X.env) :: starEach es X.env := by rfl) (hpl : (backTo pos (starEach es X.env)).any (·.1) = false := by rfl) :
    SE c X (.Call (.Name x p) (e :: es) [] pos) (eMake C Fn av) := by
  refine ⟨pe_imp (pe_make (E := E0) M F hr hg hm hb .nil hx ha.pa hdb he hpl) fun σ H Q ⟨F, ρ, r, q⟩ => ?_⟩
  refine tG_bind r q fun vs ds H1 F1 g r1 rp q1 => ?_
  obtain ⟨fs, e1, q2⟩ := nxF q1
  intro x dx hx hd hne
  rw [List.append_nil]
  exact make_of r1.le rp e1 q2 x dx hx hd hne
/-- C(e, .., k = v, ..) -/
theorem se_makeK {n : Nat} (M : Mk X.K (c.cm C) f) (F : FnOk X.prog X.w X.K X.mg X.base CX k f fd ps (PIn (X.kc c) C Fn)) (hr : Room (k + 1) X.A) (hg : Gl X x) (hm : X.mg x = some (.ref (c.cm C))) (hb : KBn X.K fd ps (n + 1) ks (fun us ws => us ++ ws) (fun us ws => us ++ ws)) (hx : Passes CX X E0)
    (ha : SA c X (e :: es) av) (hkw : SK c X kws kv) (hav : ∀ ρ ds, av ρ = .ok ds → ds.length = n) (hkv : ∀ ρ ds, kv ρ = .ok ds → ds.length = ks.length)
    (hall : (backToKw pos (keywordEach kws X.env)).all (·.1.isSome) = true := by rfl) (hks : (backToKw pos (keywordEach kws X.env)).filterMap (·.1) = ks := by rfl) (hdb : (x == ("__debug__" : Str)) = false := by decide)
    (he : starEach (e :: es) X.env = (false, eval e X.env) :: starEach es X.env := by rfl) (hpl : ((backTo pos (starEach (e :: es) X.env)).any (·.1) || (backToKw pos (keywordEach kws X.env)).any (·.1.isNone)) = false := by rfl) :
    SE c X (.Call (.Name x p) (e :: es) kws pos) (eMake C Fn (aApp av kv)) := by
  refine ⟨pe_imp (pe_makeK (E := E0) M F hr hg hm hb hx ha.pa hkw.pk hall hks hdb he hpl) fun σ H Q ⟨F, ρ, r, q⟩ => ⟨F, ρ, r, ?_⟩⟩
  unfold eMake aApp at q
  rw [Res.bind_assoc] at q
  cases z : av ρ with
  | ok xs =>
    rw [z] at q
    intro vs H1 F1 g rp
    have q0 := FinG.grow g q
    have q0' : FinG (X.kc c) c (rE (X.kc c)) F1 H1 (((kv ρ).bind fun ys => .ok (xs ++ ys)).bind fun ds => (Fn ds).nx.bind fun fs => .ok (.obj C fs)) Q := q0
    rw [Res.bind_assoc] at q0'
    refine ⟨F1, ρ, r.grow g, ?_⟩
    cases zk : kv ρ with
    | ok ys =>
      rw [zk] at q0'
      intro zs H2 F2 g2 rz
      have q1' : FinG (X.kc c) c (rE (X.kc c)) F2 H2 ((Fn (xs ++ ys)).nx.bind fun fs => .ok (.obj C fs)) Q := FinG.grow g2 q0'
      obtain ⟨fs, e1, q2⟩ := nxF q1'
      refine ⟨by rw [rp.length]; exact hav ρ xs z, by rw [rz.length]; exact hkv ρ ys zk, fun x dx hx hd hne => ?_⟩
      exact make_of g2.le ((rp.mono g2.f).append rz) e1 q2 x dx hx hd hne
    | exc C fs => rw [zk] at q0'; exact q0'
    | stuck => rw [zk] at q0'; exact q0'
  | exc C fs => rw [z] at q; exact q
  | stuck => rw [z] at q; exact q
theorem kbn_of {K : PySem.W.Frag} {x qual : Str} {st : Stmt} {n : Nat} (F : Fun K x qual st f fd)
    (h : ∀ (kV doc pm : Value) (an : Option Addr) (cdv ct : Value) (us ws : List Value), us.length = n → ws.length = ks.length → bindArgs (PySem.W.fnOf x qual (defArgs st) (defBody st) (defScope st) .none kV doc pm an cdv ct) ⟨us, ks.zip ws⟩ = pure (ps.zip (us ++ ws))) :
    KBn K fd ps n ks (fun us ws => us ++ ws) (fun us ws => us ++ ws) := by
  obtain ⟨oc, od, kV, doc, pm, an, cdv, ct, osl, rfl, lk, hcd⟩ := F.ex
  exact ⟨fun s us ws _ h1 h2 => .of_eq (h kV doc pm an cdv ct us ws h1 h2), fun r1 r2 => r1.append r2⟩
end
/-! ### a def that adds to a list of its caller's: its last parameter -/
def PIO (K : Kc) (Fn : List D → List D → Res (List D)) : Sp := fun vs H Q _ => ∃ vs' a xs F ds es rs, vs = vs' ++ [.ref a] ∧ H a = some (.lst xs) ∧ F a = none ∧ Same F H ∧ Reps K F vs' ds ∧ Reps K F xs es ∧ Fn ds es = .ok rs ∧
  ∀ H' F' xs', Grow F (del H a) F' (del H' a) → H' a = some (.lst xs') → Reps K F' xs' rs → Q .non H'
def Slot.ownOf : Option Slot → Res (List D)
  | some (Slot.own ds) => .ok ds
  | _ => .stuck
def Out.io (i : Nat) : Out → Res (List D)
  | .nx ρ => Slot.ownOf ρ[i]?
  | _ => .stuck
def iniO (m : Nat) (ds es : List D) : PEnv := ds.map Slot.val ++ .own es :: List.replicate (m - 1 - ds.length) .un
def runIO (n m : Nat) (s : Sv) (ds es : List D) : Res (List D) := if ds.length + 1 = n then (s (iniO m ds es)).io ds.length else .stuck
theorem rel_startO {K : Kc} {E : XK} {F H : Hp} {a : Addr} {xs vs : List V} {ds es : List D} {N : List Str} (ha : H a = some (.lst xs)) (na : F a = none) (le : Same F H) (rs : Reps K F vs ds) (re : Reps K F xs es) (hl : ds.length + 1 ≤ N.length) :
    Rel K ⟨K.cm, del H a, F, E, some (ds.length, a), N.length⟩ F (iniO N.length ds es) (L2.start N (vs ++ [.ref a])) H := by
  have e := rs.length
  refine ⟨del_le, Same.refl F, le, fun a o e => .inl e, ?_, ?_, oaSet (fun _ => none) ds.length (some a), fun i s hs => ?_, fun i j a h1 h2 => ?_, fun i b h => ?_, fun i a h => ?_⟩
  · unfold L2.start
    simp only [List.length_append, List.length_map, List.length_replicate, List.length_cons, List.length_nil]; omega
  · unfold iniO
    simp only [List.length_append, List.length_map, List.length_replicate, List.length_cons, List.length_nil]; omega
  · unfold iniO at hs
    by_cases hi : i < ds.length
    · rw [List.getElem?_append_left (by simpa using hi), List.getElem?_map] at hs
      rw [List.getElem?_eq_getElem hi] at hs
      cases hs
      obtain ⟨v, e1, e2⟩ := rs.get (List.getElem?_eq_getElem hi)
      refine ⟨oaSet_ne (by omega), v, start_get ?_, e2⟩
      rw [List.getElem?_append_left (by omega)]; exact e1
    · rw [List.getElem?_append_right (by simpa using hi), List.length_map] at hs
      by_cases hi2 : i = ds.length
      · subst hi2
        rw [Nat.sub_self] at hs
        cases hs
        refine ⟨a, xs, oaSet_same, .inr (start_get ?_), ha, re⟩
        rw [← e, List.getElem?_append_right (Nat.le_refl _), Nat.sub_self]; rfl
      · obtain ⟨j, hj⟩ : ∃ j, i - ds.length = j + 1 := ⟨i - ds.length - 1, by omega⟩
        rw [hj, List.getElem?_cons_succ, List.getElem?_replicate] at hs
        split at hs
        · cases hs; exact oaSet_ne hi2
        · cases hs
  · by_cases q : i = ds.length
    · by_cases q' : j = ds.length
      · rw [q, q']
      · rw [oaSet_ne q'] at h2; cases h2
    · rw [oaSet_ne q] at h1; cases h1
  · by_cases q : i = ds.length
    · rw [q, oaSet_same] at h; cases h
      refine ⟨na, del_same, ?_⟩
      unfold iniO
      rw [q]; simp only [List.length_append, List.length_map, List.length_cons]; omega
    · rw [oaSet_ne q] at h; cases h
  · cases h; exact oaSet_same
section
variable {P : Program} {w : World} {K : Kc} {mg : Str → Option Value} {base : Heap}
theorem fnO {x qual : Str} {st : Stmt} {f : Addr} {fd : FuncData} {N ps : List Str} {k n m i : Nat} {s : Sv} (F : Fun K.K x qual st f fd) (S : FnScope N ps (defScope st)) (hn : ps.length = n) (hm : N.length = m) (hi : n = i + 1)
    (hb : ∀ (cdv : Value) (A : Around) (outer : List PySem.Env) (s' : Shared) (H B Fz : Hp) (E : XK) (a : Addr), Room k (A.deeper (envOfC qual (defScope st) s'.heap.objs.size f cdv)) →
      SSs ⟨K.cm, B, Fz, fun _ _ _ => False, some (i, a), N.length⟩ (cxOf CX0 P w K.K mg base N qual (defScope st) f cdv A outer s' H E).nox (defBody st) s) : FnOk P w K.K mg base CX0 (k + 1) f fd ps (PIO K (runIO n m s)) := by
  subst hm
  refine F.ok S (fun vs H Q E h => ?_) (fun cdv A outer s' H vs Q E hr h => ?_)
  · obtain ⟨vs', a, xs, F, ds, es, rs, rfl, ha, na, le, r1, r2, e, _⟩ := h
    rw [List.length_append, r1.length, hn]
    unfold runIO at e
    split at e
    · assumption
    · cases e
  · obtain ⟨vs', a, xs, Fz, ds, es, rs, rfl, ha, na, le, r1, r2, e, q⟩ := h
    unfold runIO at e
    split at e
    · rename_i hl
      have hil : ds.length = i := by omega
      have hN : ps.length ≤ N.length := by
        have := congrArg List.length S.pre
        rw [List.length_take] at this; omega
      subst hil
      refine ⟨_, (hb cdv A outer s' H (del H a) Fz E a hr).ps, Fz, iniO N.length ds es, rel_startO ha na le r1 r2 (by omega), ?_⟩
      cases z : s (iniO N.length ds es) with
      | nx ρ' =>
        rw [z] at e
        intro σ' H' F' m r'
        have e' : Slot.ownOf ρ'[ds.length]? = .ok rs := e
        unfold Slot.ownOf at e'
        split at e'
        · rename_i ds' h0
          cases e'
          obtain ⟨oa, h1, h2, h3, h4⟩ := r'.sl
          obtain ⟨b, xs', o1, o2, o3, o4⟩ := h1 _ _ h0
          have o5 := h4 _ a rfl
          rw [o1] at o5; cases o5
          obtain ⟨f1, b1, _⟩ := h3 _ a o1
          exact q H' F' xs' ⟨m, le_del r'.b del_same, le_del r'.le f1, fun b o e => r'.nw b o e⟩ o3 o4
        · cases e'
      | rt d => rw [z] at e; cases e
      | bk ρ' => rw [z] at e; cases e
      | ct ρ' => rw [z] at e; cases e
      | exc C fs => rw [z] at e; cases e
      | stuck => rw [z] at e; cases e
    · cases e
end
/-- f(e, .., x) as a statement, x a list of one's own -/
def sIO (i : Nat) (Fn : List D → List D → Res (List D)) (as : Av) : Sv := fun ρ => match ρ[i]? with
  | some (.own es) => Out.of (as ρ) fun ds => Out.of (Fn ds es).nx fun rs => .nx (ρ.set i (.own rs))
  | _ => .stuck
section
variable {c : Cc} {X : Cx} {e : Expr} {es es' : List Expr} {av : Av} {pos p p2 p3 : Pos} {x y : Str} {CX : CXT} {k i : Nat} {f : Addr} {fd : FuncData} {ps : List Str} {Fn : List D → List D → Res (List D)}
structure SAo (c : Cc) (X : Cx) (i : Nat) (es : List Expr) (av : Av) : Prop where
  pa : ∃ t, PA X es t ∧ ∀ (F H : Hp) (ρ : PEnv) (σ : Sg) (es' : List D) (R : List V → Hp → Prop), Rel (X.kc c) c F ρ σ H → ρ[i]? = some (.own es') → (match av ρ with
    | .ok ds => ∀ vs a H' F', Grow F H F' H' → σ[i]? = some (some (.ref a)) → Reps (X.kc c) F' vs ds → R (vs ++ [.ref a]) H'
    | .exc C fs => ExcW (X.kc c) c C fs
    | .stuck => False) → t σ H R
theorem sao_last (hN : X.N[i]? = some y := by rfl) (hn0 : c.n = X.N.length := by rfl) (hv : Vis X.env.scope y := by first | exact Or.inl rfl | exact Or.inr (Or.inl rfl) | exact Or.inr (Or.inr rfl)) (hd : (y == ("__debug__" : Str)) = false := by decide)
    (hcd : (y == ("__classdict__" : Str)) = false := by decide) (hs : starEach [.Name y p] X.env = (false, eval (.Name y p) X.env) :: starEach [] X.env := by rfl) : SAo c X i [.Name y p] aN := by
  refine ⟨_, pa_cons (pe_var hN hv hd hcd) pa_nil hs, fun F H ρ σ es' R r hi q => ?_⟩
  obtain ⟨a, vs, e1, e2, e3⟩ := r.own hi (lt_n hn0 hN)
  exact ⟨.ref a, e1, q [] a H F r.refl e1 .nil⟩
theorem sao_cons {ea : Ev} (ha : SE c X e ea) (hr : SAo c X i es av) (hs : starEach (e :: es) X.env = (false, eval e X.env) :: starEach es X.env := by rfl) : SAo c X i (e :: es) (aC ea av) := by
  obtain ⟨t, p1, p2⟩ := hr
  refine ⟨_, pa_cons ha.pe p1 hs, fun F H ρ σ es' R r hi q => ⟨F, ρ, r, ?_⟩⟩
  unfold aC at q
  cases z : ea ρ with
  | ok d =>
    rw [z] at q
    intro v H1 F1 g rp
    refine p2 F1 H1 ρ σ es' _ (r.grow g) hi ?_
    cases w : av ρ with
    | ok ds =>
      rw [w] at q
      exact fun vs a H2 F2 g2 e1 rs => q (v :: vs) a H2 F2 (g.trans g2) e1 (.cons (rp.mono g2.f) rs)
    | exc C fs => rw [w] at q; exact q
    | stuck => rw [w] at q; exact q
  | exc C fs => rw [z] at q; exact q
  | stuck => rw [z] at q; exact q
theorem ss_io (F : FnOk X.prog X.w X.K X.mg X.base CX k f fd ps (PIO (X.kc c) Fn)) (hr : Room k X.A) (hg : Gl X x) (hm : X.mg x = some (.ref f)) (hk : PySem.W.keepIn X.K (.ref f) = true) (hb : Binds X.K fd ps []) (hx : Passes CX X E0)
    (ha : SAo c X i (e :: es) av) (hdb : (x == ("__debug__" : Str)) = false := by decide) (he : starEach (e :: es) X.env = (false, eval e X.env) :: starEach es X.env := by rfl) (hpl : (backTo p2 (starEach es X.env)).any (·.1) = false := by rfl)
    (hs : swapsWith (.Call (.Name x p) (e :: es) [] p2) none pos.line X.env = pure false := by rfl) : SS c X (.Expr (.Call (.Name x p) (e :: es) [] p2) pos) (sIO i Fn av) := by
  obtain ⟨t, p1, q1⟩ := ha
  refine ⟨ps_imp (ps_expr (pe_call (E := E0) F hr hg hm hk hb .nil hx p1 hdb he hpl) hs) fun D σ H ⟨F, ρ, r, q⟩ => ?_⟩
  unfold sIO at q
  split at q
  · rename_i es0 hi
    refine q1 F H ρ σ es0 _ r hi ?_
    cases z : av ρ with
    | ok ds =>
      rw [z] at q
      intro vs a H1 F1 g e1 rs
      have r1 := r.grow g
      have q2 : FinS (X.kc c) c F1 (Out.of (Fn ds es0).nx fun rs => .nx (ρ.set i (.own rs))) D := FinS.mono g.f q
      cases w : Fn ds es0 with
      | ok rr =>
        rw [w] at q2
        obtain ⟨oa, h1, h2, h3, h4⟩ := r1.sl
        obtain ⟨b, xs, o1, o2, o3, o4⟩ := h1 _ _ hi
        rw [e1] at o2; rcases o2 with o2 | o2 <;> cases o2
        obtain ⟨f1, b1, _⟩ := h3 _ a o1
        rw [List.append_nil]
        refine ⟨vs, a, xs, F1, ds, es0, rr, rfl, o3, f1, r1.le, rs, o4, w, fun H' F' xs' g2 ha' rx => ?_⟩
        -- the frame over the change
        have f2 : F' a = none := by
          cases v : F' a with
          | none => rfl
          | some o =>
            have := g2.le a o v
            rw [del_same] at this; cases this
        have g3 : Grow F1 H1 F' (upd H' a (.lst xs)) := by
          refine ⟨g2.f, fun b o eb => ?_, fun b o eb => ?_, fun b o eb => ?_⟩
          · by_cases nb : b = a
            · subst nb; rw [o3] at eb; cases eb; exact upd_same
            · rw [upd_ne nb]; exact del_le _ _ (g2.h b o (by rw [del_ne nb]; exact eb))
          · have nb : b ≠ a := fun z => by rw [z, f2] at eb; cases eb
            rw [upd_ne nb]; exact del_le _ _ (g2.le b o eb)
          · rcases g2.nw b o eb with v | v
            · exact .inl v
            · by_cases nb : b = a
              · subst nb; rw [f2] at eb; cases eb
              · rw [del_ne nb] at v; exact .inr v
        have r3 := (r1.grow g3).putOwn hi e1 rx
        have eH : upd (upd H' a (.lst xs)) a (.lst xs') = H' := by
          rw [upd_upd]
          funext b
          by_cases nb : b = a
          · subst nb; rw [upd_same, ha']
          · rw [upd_ne nb]
        rw [eH] at r3
        exact q2 σ H' F' g2.f r3
      | exc C fs => rw [w] at q2; exact q2.elim
      | stuck => rw [w] at q2; exact q2.elim
    | exc C fs => rw [z] at q; exact q
    | stuck => rw [z] at q; exact q
  · exact q.elim
end
end Pu

namespace Pu
open PySem PySem.Spec PyProof.Rows L2

/-! ### an exception class whose __init__ says super().__init__("..") -/
/-- the def at f, with the cell of its class C -/
structure EFun (P : Program) (K : PySem.W.Frag) (x qual : Str) (st : Stmt) (f C cc cda : Addr) (fd : FuncData) : Prop where
  ex : ∃ (oc : Value) (od : Option Addr) (kV doc pm : Value) (an : Option Addr) (ct : Value) (osl : Array (Option Value)),
    fd = PySem.W.fnX x qual (defArgs st) (defBody st) (defScope st) [("__class__", cc)] .none kV doc pm an (.ref cda) ct ∧ K.lookup f = some ⟨oc, od, .func fd, osl⟩ ∧ PySem.W.codeIn K (.ref cda) qual = true
  code : ∃ (ccl : Value) (cdd : Option Addr) (vs : Array Value) (ccs : Array (Option Value)) (file : Str) (tf : Tok), K.lookup cda = some ⟨ccl, cdd, .fields vs, ccs⟩ ∧ vs[2]? = some (.str file tf) ∧ ((P.main.file : Str) == file) = true
  cell : ∃ (cl : Value) (cld : Option Addr) (csl : Array (Option Value)), K.lookup cc = some ⟨cl, cld, .cell (some (.ref C)), csl⟩
  hsub : PySem.W.mroIn K C (.ref C) = some true
  hB : PySem.W.subIn K (.ref C) (.type "ValueError") = some true
  hm : PySem.W.ks_superIn K C C "__init__" = some (some (.builtin "ValueError.__init__"))
  ho : PySem.W.nsIn K PySem.cStatics "thirdparty.any" = some none
  htop : (P.main.scope.names.lookup ("super" : Str)).isSome = false

section
variable {X : Cx} {pins : List (Addr × Obj)} {σ : L2.St} {H : Hp} {s : Shared} {a C u : Addr} {E : Value → Shared → Prop} {A : Around}
open PySem.W in
theorem mw_call {us : List Value} {Q : Value → Shared → Prop} (T : OexC X.K C) (I : Inv X pins σ H s) (e : H a = some (exo a C none)) (hu : s.heap.get? u = some (kxs_mw "ValueError.__init__" a)) (hl : us.length ≤ sizeLine) (h : ∀ s', Inv X pins σ H s' → Q .none s') :
    wpAny (model X.prog X.w) A (call (.ref u) us) Q E s := by
  obtain ⟨nm, q, N, bs, bm, sn, sub, ab, col, dd, k0, k1, k2, k3, k5, hC, hbm⟩ := T.cls
  obtain ⟨t1, ho⟩ := exo_at I.hok e
  obtain ⟨hp, g, d, t, os⟩ := s
  have FB := F.excBase_ValueError
  refine wpAny_call (codeAny_of_tree ?_)
  show wpAny _ A.in1 (callAny (.ref u) ⟨us, []⟩) _ _ _
  simp only [callAny]
  refine wpAny_bind (wpAny_load hu ?_)
  simp only [kxs_mw, show (Value.type "method-wrapper" == Value.type "method" || Value.type "method-wrapper" == Value.type "builtin_function_or_method" || Value.type "method-wrapper" == Value.type "method-wrapper") = true by decide, if_true]
  refine KFB.if_so (by decide) ?_
  refine wpAny_bind (check_bound_init FB.toExcCallFacts (I.kIn _ _ hC) ho rfl ?_)
  refine wpAny_bind (wpAny_pure (wpAny_pure ?_))
  refine ⟨plainId_quiet FB.init.plain _, codeAny_builtin FB.initEntry ?_⟩
  refine exc_init_tree (cls := .ref C) (t0 := t1) (dv := none) (c2 := .none) (c3 := .none) (b4 := .bool false) ho hl fun h' k hx _ => ?_
  have J := I.write (t' := t) (x := a) (e := a) (o := exo a C none) (by rw [e]; exact True.intro) (.inl rfl) k ⟨_, hx⟩ (exo_ok hx)
  have eu : upd H a (exo a C none) = H := by
    funext b
    by_cases hb : b = a
    · rw [hb, upd_same, e]
    · rw [upd_ne hb]
  rw [eu] at J
  exact h _ J
end
section
variable {P : Program} {w : World} {K : PySem.W.Frag} {mg : Str → Option Value} {base : Heap} {CX : CXT}
open PySem.W in
theorem fnE {x qual : Str} {st : Stmt} {f C cc cda : Addr} {fd : FuncData} {N ps : List Str} {ar : Arg} {k : Nat} {sp : Sp} {p0 p1 p2 p3 p4 p5 : Pos} {u : Nat} {txt : Str} {rest : List Stmt} (F : EFun P K x qual st f C cc cda fd) (T : OexC K C)
    (S : NdefX.NScope N ps ["__class__"] (defScope st)) (hp : ((defArgs st).posonlyargs ++ (defArgs st).args).head? = some ar) (h0 : ps[0]? = some ar.arg) (hgs : (defScope st).names.lookup ("super" : Str) = some .globalImplicit) (hmg : mg "super" = none)
    (hdb : (ar.arg == ("__debug__" : Str)) = false)
    (hbd : defBody st = .Expr (.Call (.Attribute (.Call (.Name "super" p0) [] [] p1) "__init__" p2) [.Constant (.str txt) u p5] [] p3) p4 :: rest)
    (hev : ∀ env : PySem.Env, ∃ pl : Sem Bool, eval (.Call (.Attribute (.Call (.Name "super" p0) [] [] p1) "__init__" p2) [.Constant (.str txt) u p5] [] p3) env = (do
      let ov ← attributeBase (.Call (.Name "super" p0) [] [] p1) "__init__" env (eval (.Call (.Name "super" p0) [] [] p1) env)
      standAt p2.atName
      let (f, first) ← holding [ov] (getMethod ov "__init__" pl)
      callWith p3 f first (backTo p3 (starEach [.Constant (.str txt) u p5] env)) []))
    (len : ∀ vs H Q E, sp vs H Q E → vs.length = ps.length) (first : ∀ vs H Q E, sp vs H Q E → ∃ a, vs[0]? = some (.ref a) ∧ H a = some (exo a C none))
    (hbody : ∀ (X : Cx) (vs : List V) (H : Hp) (Q : VK) (E : XK), X.N = N → X.env.scope = defScope st → X.K = K → X.calm = true → sp vs H Q E → ∃ t, PSs X rest t ∧ t { nx := fun _ H' => Q .non H', rt := Q } (NdefX.startF N vs [some (.ref C)]) H) :
    FnOk P w K mg base CX (k + 1) f fd ps sp := by
  obtain ⟨oc, od, kV, doc, pm, an, ct, osl, rfl, lk, hcd⟩ := F.ex
  obtain ⟨ccl, cdd, cvs, ccs, file, tf, hcode, hvs, hfile⟩ := F.code
  obtain ⟨cl, cld, csl, hcell⟩ := F.cell
  refine ⟨len, fun A outer s H args us vs Q E hr e0 hb r hsp => ?_⟩
  have hl := len _ _ _ _ hsp
  have KX : K.In s.heap := e0.mod.kin.keeps fun b o e => (e0.bs b o e).1
  have lim : s.heap.NoLimit := e0.mod.nolimit.keeps fun b o e => (e0.bs b o e).1
  -- the body's context
  have nf : NdefX.NF := ⟨x, qual, defArgs st, defBody st, defScope st, [("__class__", cc)], cda⟩
  refine codeAny_call_function hr.depth (KX _ _ lk) rfl S.co S.gen rfl (codeRec_of KX hcd) (hb _ _ _ _ ?_)
  refine wpAny_newFunctionEnv S.nocell (fun ⟨n, _⟩ hy => S.par n (List.of_mem_zip hy).1) (fun h₁ hns hsb => ⟨lim.fresh _ hsb, ?_⟩) S.kind
  have kp : ∀ b o, s.heap.get? b = some o → h₁.get? b = some o := fun b o e => hsb.extBut b o (Nat.ne_of_lt (Heap.lt_size e)) (Heap.get?_push_of_some _ e)
  have CA : NdefX.CellsAt [("__class__", cc)] ["__class__"] [some (V.ref C)] s.heap H := by
    have hcN : H cc = none := (e0.bs _ _ (e0.mod.kin _ _ hcell)).2
    have hic : s.heap.IsCell cc (some (.ref C)) := ⟨_, KX _ _ hcell, rfl⟩
    have key : ∀ {y : Str} {c : Addr}, List.lookup y [(("__class__" : Str), cc)] = some c → y = "__class__" ∧ c = cc := fun {y c} e => by
      rw [List.lookup_cons] at e
      cases q : (y == ("__class__" : Str)) with
      | true => rw [q] at e; exact ⟨beq_iff_eq.mp q, (Option.some.inj e).symm⟩
      | false => rw [q] at e; cases e
    refine ⟨rfl, fun y c e => ?_, fun x y c e1 e2 => (key e1).1.trans (key e2).1.symm, fun i y e => ?_⟩
    · obtain ⟨rfl, rfl⟩ := key e
      exact ⟨hcN, _, hic⟩
    · cases i with
      | zero =>
        cases e
        refine ⟨cc, by rw [List.lookup_cons]; rfl, fun v hv => ?_⟩
        cases hv
        exact ⟨.ref C, rfl, hic⟩
      | succ i => cases e
  have I : Inv (NdefX.ncx CX P w K mg base N ⟨x, qual, defArgs st, defBody st, defScope st, [("__class__", cc)], cda⟩ f A outer s H E) [] (NdefX.startF N vs [some (V.ref C)]) H { s with heap := h₁, toks := s.toks + (ps.zip us).length } :=
    NdefX.inv_startN (F := ⟨x, qual, defArgs st, defBody st, defScope st, [("__class__", cc)], cda⟩) S hr.hd e0 hl r CA hns kp
  show codeAny _ _ (.func (defBody st) (NdefX.envF ⟨x, qual, defArgs st, defBody st, defScope st, [("__class__", cc)], cda⟩ f s.heap.objs.size)) _ _
  refine ks_codeAny_funcAt ?_
  obtain ⟨t, ht, hq⟩ := hbody (NdefX.ncx CX P w K mg base N ⟨x, qual, defArgs st, defBody st, defScope st, [("__class__", cc)], cda⟩ f A outer s H E) vs H Q E rfl rfl rfl rfl hsp
  obtain ⟨a, hv0, hea⟩ := first _ _ _ _ hsp
  obtain ⟨pl, hpl⟩ := hev (NdefX.envF ⟨x, qual, defArgs st, defBody st, defScope st, [("__class__", cc)], cda⟩ f s.heap.objs.size)
  rw [show (execs (defBody st) : PySem.Env → Sem Flow) = execs _ from congrArg execs hbd]
  refine ks_wpAt_execs_cons (ks_wpAt_Expr_any (ks_wpAt_MethodCall (pl := pl) ?_ hpl) (by show ((defScope st).kind == _ && _) = false; rw [S.kind]; rfl) (by rfl))
  obtain ⟨t1, hoe⟩ := exo_at I.hok hea
  obtain ⟨cd, hcl⟩ : ∃ cd, clsIn K C = some cd := by
    have := F.hsub
    unfold mroIn at this
    cases z : clsIn K C with
    | none => rw [z] at this; cases this
    | some cd => exact ⟨cd, rfl⟩
  have X1 : K.In h₁ := KX.keeps kp
  obtain ⟨oD, hD1, hD2⟩ : ∃ oD, h₁.get? C = some oD ∧ oD.data = .cls cd := by
    have hcl' := hcl
    unfold clsIn at hcl'
    split at hcl'
    · rename_i c d cd' sl ho
      cases hcl'
      exact ⟨_, X1 _ _ ho, rfl⟩
    · cases hcl'
  have hxC : a ≠ C := fun z => by
    rw [z] at hoe
    rw [hoe] at hD1
    cases hD1
    cases hD2
  -- the names
  have hself : (ps.zip us).reverse.lookup ar.arg = some (.ref a) := by
    obtain ⟨u0, hu0, ru⟩ := r.get hv0
    obtain rfl : u0 = Value.ref a := ru
    refine NdefX.zip_look ?_ h0 hu0
    have q := S.nd.sublist (List.take_sublist (ps.length + [("__class__" : Str)].length) N)
    rw [S.pre] at q
    exact (List.nodup_append.mp q).1
  have hka : (defScope st).names.lookup ar.arg = some .local := S.par _ (List.mem_of_getElem? h0)
  have hkc : (defScope st).names.lookup ("__class__" : Str) = some .free := S.frk _ List.mem_cons_self
  refine ks_wpAt_super_base (env := NdefX.envF ⟨x, qual, defArgs st, defBody st, defScope st, [("__class__", cc)], cda⟩ f s.heap.objs.size) hgs hkc rfl rfl (X1 _ _ lk) rfl hp rfl (X1 _ _ hcode) rfl hvs hfile F.htop ?_
  obtain ⟨mb, b1, b2⟩ := I.mod.blt
  refine ks_loadName_global S.kind hgs (Calls.loadGlobal_builtin (env := NdefX.envF ⟨x, qual, defArgs st, defBody st, defScope st, [("__class__", cc)], cda⟩ f s.heap.objs.size) (I.mod.glob.keeps I.bk) hmg (b1.keeps I.bk) ((b2 _ (by decide +kernel)).trans (by decide +kernel)) ⟨rfl, ?_⟩)
  refine wpAny_loadName_free S.kind hkc (c := cc) (by rfl) ⟨_, X1 _ _ hcell, rfl⟩ ?_
  refine wpAny_loadName_local S.kind hka hns hself ?_
  refine ks_wpAny_isType_cls hD1 hD2 ⟨rfl, ?_⟩
  refine ks_wpAny_call_super hD1 hD2 hoe rfl (fun c e => by cases e) (looks_mroIn X1 F.hsub) (fun h' e kk => ?_)
  have I2 := I.kept (h' := h') (t' := s.toks + (ps.zip us).length) kk
  have X2 : K.In h' := X1.keeps kk
  have SI := F.hm
  unfold ks_superIn at SI
  rw [hcl] at SI
  have II : InstAt h' a { cls := .ref C, dict := none, data := .fields #[.ref t1, .none, .none, .none, .bool false, .none] } C none := ⟨kk _ _ hoe, rfl, rfl, trivial⟩
  refine kxs_getMethod kxs_ValueError e (looks_opaque X2 F.ho) (l₀ := cd.mro) (fun A Q E s k q => wpAny_bind ((looks_clsIn X2 hcl) A _ E s k (wpAny_pure q))) rfl X2 SI (II.type.andThen (looks_subIn X2 F.hB)) hxC (by decide) ?_
  have k3 : ∀ b o, h'.get? b = some o → (h'.push (kxs_mw "ValueError.__init__" a)).get? b = some o := fun b o e => Heap.get?_push_of_some _ e
  have I3 := I2.kept (h' := h'.push (kxs_mw "ValueError.__init__" a)) (t' := s.toks + (ps.zip us).length + 1) k3
  have hu3 : (h'.push (kxs_mw "ValueError.__init__" a)).get? h'.objs.size = some (kxs_mw "ValueError.__init__" a) := Heap.get?_push_at rfl rfl
  have hf3 : H h'.objs.size = none := I2.hok.fresh (Nat.le_refl _)
  have I4 := I3.pins_of (pins' := [(h'.objs.size, kxs_mw "ValueError.__init__" a)]) (fun p hp => by
    obtain rfl := List.mem_singleton.mp hp
    refine ⟨hu3, hf3, fun z => ?_, fun z => ?_, fun v z => by cases z⟩
    · have y := I2.lt
      have z' : h'.objs.size = s.heap.objs.size := z
      have y' : s.heap.objs.size < h'.objs.size := y
      omega
    · obtain ⟨_, o, hob, _⟩ := I2.funs.mem z
      exact absurd (Heap.lt_size hob) (Nat.lt_irrefl _))
  refine kxs_callWith (i := "ValueError.__init__") (x := a) (by rfl) (Calls.evalArgs_plain ?_)
  refine thn ((pa_cons (pe_str (x := txt) (j := u) (pos := p5)) pa_nil).run p3 [(h'.objs.size, kxs_mw "ValueError.__init__" a)] _ (NdefX.startF N vs [some (V.ref C)]) H (fun vs' H1 => vs' = [V.str txt] ∧ H1 = H) I4 ⟨rfl, rfl⟩) fun us1 s1 ⟨vs1, H1, I5, r1, e1, e2⟩ => ?_
  subst e1 e2
  have hu5 := (I5.pin _ (List.mem_append_right _ (List.mem_singleton.mpr rfl))).1
  refine ⟨hu5, mw_call T I5 hea hu5 (by rw [List.nil_append, ← r1.length, sizeLine_eq]; exact Nat.le_of_ble_eq_true rfl) fun s2 I6 => ?_⟩
  refine wpAt_of_wpAny (wpAny_mono (ht.run [] s2 (NdefX.startF N vs [some (V.ref C)]) H1 _ (I6.pins_of fun p hp => by cases hp) hq) (fun fl s' hs => ?_) fun e s' hs => hs)
  have fin : ∀ {σ' : L2.St} {H' : Hp} {v : V} {u : Value}, Inv (NdefX.ncx CX P w K mg base N ⟨x, qual, defArgs st, defBody st, defScope st, [("__class__", cc)], cda⟩ f A outer s H1 E) [] σ' H' s' → RelV v u → Q v H' → CE outer P w H1 s Q u s' :=
    fun {σ' H' v u} J rv q => ⟨v, H', J.os, J.bare, J.base, J.hok, rv, q⟩
  cases fl with
  | ret u =>
    obtain ⟨v, σ', H', J, rv, q⟩ := hs
    exact fin J rv q
  | next =>
    obtain ⟨σ', H', J, q⟩ := hs
    exact fin (v := V.non) (u := Value.none) J rfl q
  | brk =>
    obtain ⟨_, _, _, q⟩ := hs
    exact False.elim q
  | cont =>
    obtain ⟨_, _, _, q⟩ := hs
    exact False.elim q
end
end Pu

namespace Pu
open PySem PySem.Spec PyProof.Rows L2

/-! ### raise C(e), C an exception class with one field -/
/-- self.f = y -/
def spE1 (C : Addr) (fl : Str) : Sp := fun vs H Q _ => ∃ a y, vs = [.ref a, y] ∧ H a = some (exo a C none) ∧ ∀ dx, H dx = none → dx ≠ a → Q .non (upd (upd H dx (exd dx [(fl, y)])) a (exo a C (some dx)))
section
variable {P : Program} {w : World} {K : PySem.W.Frag} {mg : Str → Option Value} {base : Heap} {CX : CXT}
theorem fnE1 {x qual : Str} {st : Stmt} {f C cc cda : Addr} {fd : FuncData} {sf fp fl : Str} {ar : Arg} {k : Nat} {p0 p1 p2 p3 p4 p5 q1 q2 q3 q4 : Pos} {u : Nat} {txt : Str} (F : EFun P K x qual st f C cc cda fd) (T : OexC K C)
    (S : NdefX.NScope [sf, fp, "__class__"] [sf, fp] ["__class__"] (defScope st)) (hno : PySem.W.findIn K (.ref C) fl = some none) (hp : ((defArgs st).posonlyargs ++ (defArgs st).args).head? = some ar) (har : ar.arg = sf) (hgs : (defScope st).names.lookup ("super" : Str) = some .globalImplicit) (hmg : mg "super" = none)
    (hdb : (sf == ("__debug__" : Str)) = false) (hdb2 : (fp == ("__debug__" : Str)) = false) (hcd1 : (sf == ("__classdict__" : Str)) = false) (hcd2 : (fp == ("__classdict__" : Str)) = false)
    (hbd : defBody st = [.Expr (.Call (.Attribute (.Call (.Name "super" p0) [] [] p1) "__init__" p2) [.Constant (.str txt) u p5] [] p3) p4, .Assign [.Attribute (.Name sf q1) fl q2] (.Name fp q3) q4])
    (hev : ∀ env : PySem.Env, ∃ pl : Sem Bool, eval (.Call (.Attribute (.Call (.Name "super" p0) [] [] p1) "__init__" p2) [.Constant (.str txt) u p5] [] p3) env = (do
      let ov ← attributeBase (.Call (.Name "super" p0) [] [] p1) "__init__" env (eval (.Call (.Name "super" p0) [] [] p1) env)
      standAt p2.atName
      let (f, first) ← holding [ov] (getMethod ov "__init__" pl)
      callWith p3 f first (backTo p3 (starEach [.Constant (.str txt) u p5] env)) [])) :
    FnOk P w K mg base CX (k + 1) f fd [sf, fp] (spE1 C fl) := by
  subst har
  refine fnE F T S hp rfl hgs hmg hdb hbd hev (fun vs H Q E ⟨a, y, e, _⟩ => by rw [e]; rfl) (fun vs H Q E ⟨a, y, e, h, _⟩ => ⟨a, by rw [e]; rfl, h⟩) ?_
  rintro X vs H Q E hN hsc hK hc ⟨a, y, rfl, ha, q⟩
  have l0 := S.par ar.arg List.mem_cons_self
  have l1 := S.par fp (List.mem_cons_of_mem _ List.mem_cons_self)
  refine ⟨_, pss_one (ps_ost (pe_var (i := 0) (by rw [hN]; rfl) (by rw [hsc]; exact .inl l0) hdb hcd1) (pe_var (i := 1) (by rw [hN]; rfl) (by rw [hsc]; exact .inl l1) hdb2 hcd2)), ?_⟩
  refine ⟨y, rfl, .ref a, rfl, a, C, rfl, by rw [hK]; exact T, by rw [hK]; exact hno, .inl ⟨ha, q⟩⟩
end
section
variable {c : Cc} {X : Cx} {e a b d o : Expr} {es : List Expr} {ea : Ev} {av kv : Av} {pos p q : Pos} {x : Str} {CX : CXT} {k C : Nat} {f : Addr} {fd : FuncData} {ps : List Str} {fl : Str}
theorem ss_raise1 (T : OexC X.K (c.cm C)) (iC : PySem.W.findIn X.K (.ref (c.cm C)) "__init__" = some (some (.ref f))) (tI : PySem.W.typeIn X.K (.ref f) = some (.type "function"))
    (F : FnOk X.prog X.w X.K X.mg X.base CX k f fd ps (spE1 (c.cm C) fl)) (hr : Room (k + 1) X.A) (hb : Binds X.K fd ps []) (hx : Passes CX X (fun _ _ _ => False)) (hg : Gl X x) (hm : X.mg x = some (.ref (c.cm C))) (hc : X.calm = true) (tk : Takes X (fun cls d _ H => c.E cls d H))
    (ha : SE c X e ea) (hdb : (x == ("__debug__" : Str)) = false := by decide) (he : starEach [e] X.env = (false, eval e X.env) :: starEach [] X.env := by rfl) :
    SS c X (.Raise (some (.Call (.Name x p) [e] [] pos)) none q) (fun ρ => Out.of (ea ρ) fun d => .exc C [(fl, d)]) := by
  refine ⟨ps_imp (ps_raise hc tk (pmk_oex T iC tI F hr hb .nil hx hg hm (pa_cons ha.pe pa_nil he) hdb he (by rfl))) fun D σ H ⟨F, ρ, r, q⟩ => ?_⟩
  refine tG_st r q fun v d H1 F1 g r1 rp q1 => ?_
  refine ⟨by show [v].length ≤ 1000; exact Nat.le_of_ble_eq_true rfl, fun a hn => ⟨a, v, rfl, upd_same, fun dx hd hne => ⟨rfl, dx, [(fl, v)], upd_same, ?_, ?_, ?_⟩⟩⟩
  · rw [upd_ne hne, upd_same]
  · rw [upd_ne hne] at hd; exact hd
  · have hd1 : H1 dx = none := by rw [upd_ne hne] at hd; exact hd
    have big : ∀ b o, H1 b = some o → upd (L2.del (upd (upd (upd H1 a (exo a (c.cm C) none)) dx (exd dx [(fl, v)])) a (exo a (c.cm C) (some dx))) a) dx (.xd [(fl, v)]) b = some o := fun b o e => by
      have nd : b ≠ dx := fun z => by rw [z, hd1] at e; cases e
      have na : b ≠ a := fun z => by rw [z, hn] at e; cases e
      rw [upd_ne nd, L2.del_ne na, upd_ne na, upd_ne nd, upd_ne na]; exact e
    exact q1 _ dx F1 [(fl, v)] (fun b o e => big b o (r1.b b o e)) upd_same (fun b o e => big b o (r1.le b o e)) (.cons rp .nil)
end

/-! ### try .. except X: -/
/-- the body, then (of an exception that is taken) the suite, that knows of no name -/
def sTry (cu : Nat → Option Bool) (s t : Sv) : Sv := fun ρ => match s ρ with
  | .exc C fs => match cu C with
    | some true => (match t (List.replicate ρ.length .un) with
      | .exc _ _ => .stuck
      | o => o)
    | some false => .exc C fs
    | none => .stuck
  | o => o
def uni (A B : Hp) : Hp := fun a => match A a with
  | some o => some o
  | none => B a
theorem uni_none {A B : Hp} {a : Addr} (h1 : A a = none) (h2 : B a = none) : uni A B a = none := by unfold uni; rw [h1]; exact h2
theorem uni_l {A B : Hp} : Same A (uni A B) := fun a o e => by unfold uni; rw [e]
theorem uni_le {A B H : Hp} (h1 : Same A H) (h2 : Same B H) : Same (uni A B) H := fun a o e => by
  unfold uni at e
  split at e
  · rename_i o' h; cases e; exact h1 _ _ h
  · exact h2 _ _ e
theorem uni_r {A B H : Hp} (h1 : Same A H) (h2 : Same B H) : Same B (uni A B) := fun a o e => by
  unfold uni
  split
  · rename_i o' h
    have := h1 _ _ h
    rw [h2 _ _ e] at this
    exact this.symm
  · exact e
theorem uni_n2 {A B : Hp} {a : Addr} (h : uni A B a = none) : A a = none ∧ B a = none := by
  unfold uni at h
  split at h
  · cases h
  · rename_i h'; exact ⟨h', h⟩
abbrev Cc.at (c : Cc) (F : Hp) (E : XK) : Cc := ⟨c.cm, uni F c.B, F, E, c.io, c.n⟩
section
variable {K : Kc} {c : Cc} {F F' H H' : Hp} {ρ ρ' : PEnv} {σ σ' : Sg} {E : XK}
theorem Rel.toAt (r : Rel K c F ρ σ H) : Rel K (c.at F E) F ρ σ H := by
  obtain ⟨oa, h1, h2, h3, h4⟩ := r.sl
  exact ⟨uni_le r.le r.b, Same.refl F, r.le, fun a o e => .inl e, r.len, r.len2, oa, h1, h2, fun i a e => ⟨(h3 i a e).1, uni_none (h3 i a e).1 (h3 i a e).2.1, (h3 i a e).2.2⟩, h4⟩
theorem Rel.ofAt (r0 : Rel K c F ρ σ H) (r : Rel K (c.at F E) F' ρ' σ' H') : Rel K c F' ρ' σ' H' := by
  obtain ⟨oa, h1, h2, h3, h4⟩ := r.sl
  refine ⟨(uni_r r0.le r0.b).trans r.b, r0.f0.trans r.f0, r.le, fun a o e => ?_, r.len, r.len2, oa, h1, h2, fun i a e => ⟨(h3 i a e).1, (uni_n2 (h3 i a e).2.1).2, (h3 i a e).2.2⟩, h4⟩
  rcases r.nw a o e with z | z
  · exact r0.nw a o z
  · exact .inr (uni_n2 z).2
theorem Bot.ofAt {F1 : Hp} (r0 : Rel K c F ρ σ H) (b : Bot (c.at F E) F1 F' H') (m : Same F F') : Bot c F F' H' := by
  refine ⟨m, b.le, (uni_r r0.le r0.b).trans b.b, fun a o e => ?_⟩
  rcases b.nw a o e with z | z
  · exact r0.nw a o z
  · exact .inr (uni_n2 z).2
end
section
variable {c : Cc} {X : Cx} {x : Str} {cv : Value} {body suite : List Stmt} {b₀ : Stmt} {np pos pos' : Pos} {s t : Sv} {cu : Nat → Option Bool}
theorem ss_try (hs : X.stack = X.env :: X.outer) (hf : X.env.frame = some X.env.locals) (hc : Names X x cv) (tk : Takes X (fun cls d _ H => c.E cls d H)) (io : c.io = none)
    (hcu : ∀ C b, cu C = some b → PySem.W.exmOne X.K (.ref (c.cm C)) cv = some b)
    (hb : ∀ (B F0 : Hp) (E : XK) (pn : List (Addr × Obj)) (xe : Value → Shared → Prop), Passes (L2.CX X.prog X.w) (X.tr pn xe) E → Takes (X.tr pn xe) (fun cls d _ H => E cls d H) → PassesOwn (model X.prog X.w) X.A X.env xe → SSs ⟨c.cm, B, F0, E, none, c.n⟩ (X.tr pn xe) body s)
    (hsu : ∀ (a : Addr) (oe : Obj) (pn : List (Addr × Obj)), SSs c.nox (X.suite a ((a, oe) :: pn)) (b₀ :: suite) t) :
    SS c X (.Try body [.ExceptHandler (some (.Name x np)) none (b₀ :: suite) pos'] [] [] pos) (sTry cu s t) := by
  refine ⟨⟨fun pins sh σ H D I ⟨F, ρ, r, q⟩ => ?_⟩⟩
  have hN : c.n = X.N.length := r.len.symm.trans I.len
  refine (ps_try_only hs hf hc tk (tb := fun W D σ H => ∃ F ρ, Rel (X.kc c) c F ρ σ H ∧ FinS (X.kc c) (c.at F (fun cls d H => ∀ σ : L2.St, σ.length = X.N.length → W cls d σ H)) F (s ρ) D) (ts := fun _ _ _ => tSt (X.kc c) c.nox t) ?_ ?_).run pins sh σ H D I ?_
  · intro W pn xe tkW po
    have tk2 : Takes (X.tr pn xe) (fun cls d _ H => ∀ σ : L2.St, σ.length = X.N.length → W cls d σ H) := fun u s' ⟨a, B, sI, pins, σ, H, cls, d, e, I, nb, up, sky, na, os, ag, w⟩ =>
      tkW u s' ⟨a, B, sI, pins, σ, H, cls, d, e, I, nb, up, sky, na, os, ag, w σ I.len⟩
    refine ⟨fun pins sh σ H D I ⟨F, ρ, r, q⟩ => ?_⟩
    have io' : (c.at F (fun cls d H => ∀ σ : L2.St, σ.length = X.N.length → W cls d σ H)) = ⟨c.cm, uni F c.B, F, fun cls d H => ∀ σ : L2.St, σ.length = X.N.length → W cls d σ H, none, c.n⟩ := by
      unfold Cc.at; rw [io]
    refine (hb (uni F c.B) F _ pn xe (passes_call tk2 fun _ _ _ _ z => z) tk2 po).ps.run pins sh σ H D I ⟨F, ρ, ?_, ?_⟩
    · rw [← io']; exact r.toAt
    · rw [← io']; exact q
  · intro a oe cls d pn _ _
    exact (hsu a oe pn).ps
  · refine ⟨F, ρ, r, ?_⟩
    unfold sTry at q
    cases z : s ρ with
    | nx ρ' =>
      rw [z] at q
      exact fun σ' H' F' m r' => q σ' H' F' m (r.ofAt r')
    | bk ρ' =>
      rw [z] at q
      exact fun σ' H' F' m r' => q σ' H' F' m (r.ofAt r')
    | ct ρ' =>
      rw [z] at q
      exact fun σ' H' F' m r' => q σ' H' F' m (r.ofAt r')
    | rt d =>
      rw [z] at q
      exact fun v H' F' b rp => q v H' F' (Bot.ofAt r b b.f) rp
    | stuck => rw [z] at q; exact q.elim
    | exc C fs =>
      rw [z] at q
      intro H' d F' fv sB hd hF rf σ2 hl2
      cases zc : cu C with
      | none =>
        simp only [zc] at q
        exact q.elim
      | some b =>
        refine ⟨b, hcu C b zc, fun hbt a ha => ?_, fun hbf => ?_⟩
        · subst hbt
          simp only [zc] at q
          refine ⟨F, List.replicate ρ.length .un, ⟨(uni_r r.le r.b).trans sB, r.f0, (uni_l).trans sB, r.nw, ?_, ?_, fun _ => none, fun i s hs => ?_, fun i j a h => (nomatch h), fun i a h => (nomatch h), fun i a h => ?_⟩, ?_⟩
          · exact hl2.trans hN.symm
          · rw [List.length_replicate]; exact r.len2
          · rw [List.getElem?_replicate] at hs
            split at hs
            · cases hs; rfl
            · cases hs
          · rw [show c.nox.io = none from io] at h; cases h
          · cases zt : t (List.replicate ρ.length .un) with
            | nx ρ' => rw [zt] at q; exact fun σ' H' F' m r' => q σ' H' F' m r'.unnox
            | bk ρ' => rw [zt] at q; exact fun σ' H' F' m r' => q σ' H' F' m r'.unnox
            | ct ρ' => rw [zt] at q; exact fun σ' H' F' m r' => q σ' H' F' m r'.unnox
            | rt d => rw [zt] at q; exact fun v H' F' b rp => q v H' F' ⟨b.f, b.le, b.b, b.nw⟩ rp
            | exc C fs => rw [zt] at q; exact q.elim
            | stuck => rw [zt] at q; exact q.elim
        · subst hbf
          simp only [zc] at q
          exact q H' d F' fv ((uni_r r.le r.b).trans sB) hd hF rf
def sThru (s : Sv) : Sv := fun ρ => match s ρ with
  | .exc _ _ => .stuck
  | o => o
/-- try .. except ..: nothing is raised -/
theorem ss_thru {h₀ : ExceptHandler} {hs : List ExceptHandler} (hb : SSs c.nox X.nox body s) : SS c X (.Try body (h₀ :: hs) [] [] pos) (sThru s) := by
  refine ⟨ps_imp (ps_try_thru0 hb.ps) fun D σ H ⟨F, ρ, r, q⟩ => ⟨F, ρ, r.nox, ?_⟩⟩
  unfold sThru at q
  cases z : s ρ with
  | nx ρ' => rw [z] at q; exact fun σ' H' F' m r' => q σ' H' F' m r'.unnox
  | bk ρ' => rw [z] at q; exact fun σ' H' F' m r' => q σ' H' F' m r'.unnox
  | ct ρ' => rw [z] at q; exact fun σ' H' F' m r' => q σ' H' F' m r'.unnox
  | rt d => rw [z] at q; exact fun v H' F' b rp => q v H' F' ⟨b.f, b.le, b.b, b.nw⟩ rp
  | exc C fs => rw [z] at q; exact q.elim
  | stuck => rw [z] at q; exact q.elim
end
end Pu

namespace Pu
open PySem PySem.Spec PyProof.Rows L2
section
variable {c : Cc} {X : Cx} {e a b d o : Expr} {av : Av} {pos p : Pos}
/-- tuple(x) -/
def eTupF (as : Av) : Ev := fun ρ => (as ρ).bind fun xs => match xs with
  | [.lst ds] => .ok (.tup ds)
  | [.tup ds] => .ok (.tup ds)
  | _ => .stuck
theorem se_tupF (hg : Gl X "tuple") (hm : X.mg "tuple" = none) (ha : SAB c X [e] av) (he : starEach [e] X.env = (false, eval e X.env) :: starEach [] X.env := by rfl) (hpl : (backTo pos (starEach [] X.env)).any (·.1) = false := by rfl) :
    SE c X (.Call (.Name "tuple" p) [e] [] pos) (eTupF av) := by
  refine ⟨pe_imp (pe_callTy call_tuple_of hg hm (by decide +kernel) ha.pa (by decide) (by decide) he hpl) fun σ H Q ⟨F, ρ, r, q⟩ => ?_⟩
  refine tG_bind r q fun vs ds H1 F1 g r1 rp q1 => ?_
  split at q1
  · rename_i ds
    obtain ⟨v, rfl, rv⟩ := repsB1 rp
    obtain ⟨a, ys, rfl, ea, rs⟩ := rv.lst r1.le
    refine ⟨a, ys, rfl, .inl ⟨.inl (.inl ea), fun l hl => ?_⟩⟩
    exact q1 _ _ _ (Grow.laid (o := .tup ys) r1.le hl) (.tup (.inl (.inl upd_same)) (rs.mono (same_upd (r1.le.free hl))))
  · rename_i ds
    obtain ⟨v, rfl, rv⟩ := repsB1 rp
    rcases rv with rv | ⟨a, vs, es, h1, h2, h3, h4⟩
    · cases rv with
      | tup h r =>
        refine ⟨_, _, rfl, .inr ⟨same_seqT r1.le h, ?_⟩⟩
        exact q1 _ _ _ r1.refl (.tup h r)
    · cases h2
  · exact q1.elim
/-- self.f = e, self an instance of class C -/
def sFldC (C i : Nat) (f : Str) (a : Ev) : Sv := fun ρ => match ρ[i]? with
  | some (.ob C' fs) => if C' = C then sFld i f a ρ else .stuck
  | _ => .stuck
/-- the one class that is taken -/
def cuIs (k : Nat) : Nat → Option Bool := fun C => if C = k then some true else none
theorem cuIs_ok {K : PySem.W.Frag} {cm : Nat → Addr} {k : Nat} (h : PySem.W.exmOne K (.ref (cm k)) (.ref (cm k)) = some true) : ∀ C b, cuIs k C = some b → PySem.W.exmOne K (.ref (cm C)) (.ref (cm k)) = some b := fun C b e => by
  unfold cuIs at e
  split at e
  · rename_i h'; subst h'; cases e; exact h
  · cases e
theorem ioN {ix : List Nat} : ∀ j ∈ ix, ∀ a : Addr, (none : Option (Nat × Addr)) ≠ some (j, a) := fun _ _ _ h => nomatch h
theorem joN {i : Nat} : ∀ a : Addr, (none : Option (Nat × Addr)) ≠ some (i, a) := fun _ h => nomatch h
theorem io0 {x : Addr} {ix : List Nat} (n : 0 ∉ ix) : ∀ j ∈ ix, ∀ a : Addr, some (0, x) ≠ some (j, a) := fun j hj a h => by cases h; exact n hj
theorem jo0 {x : Addr} {i : Nat} (n : ¬ 0 = i) : ∀ a : Addr, some (0, x) ≠ some (i, a) := fun a h => by cases h; exact n rfl
theorem ioI {k : Nat} {x : Addr} {ix : List Nat} (n : k ∉ ix) : ∀ j ∈ ix, ∀ a : Addr, some (k, x) ≠ some (j, a) := fun j hj a h => by cases h; exact n hj
theorem joI {k : Nat} {x : Addr} {i : Nat} (n : ¬ k = i) : ∀ a : Addr, some (k, x) ≠ some (i, a) := fun a h => by cases h; exact n rfl
theorem ebinds {P : Program} {K : PySem.W.Frag} {x qual : Str} {st : Stmt} {f C cc cda : Addr} {fd : FuncData} {ps : List Str} (F : EFun P K x qual st f C cc cda fd)
    (h : ∀ (kV doc pm : Value) (an : Option Addr) (ct : Value) (us : List Value), us.length = ps.length → bindArgs (PySem.W.fnX x qual (defArgs st) (defBody st) (defScope st) [("__class__", cc)] .none kV doc pm an (.ref cda) ct) ⟨us, []⟩ = pure (ps.zip us)) : Binds K fd ps [] := by
  obtain ⟨oc, od, kV, doc, pm, an, ct, osl, rfl, lk, hcd⟩ := F.ex
  exact .all (h kV doc pm an ct)
theorem rmA {b n j : Nat} {A : Around} (r : Room (b + n) A) (h : j ≤ b) : Room j A := r.mono (Nat.le_trans h (Nat.le_add_right b n))
theorem takes_nox {X : Cx} : Takes X.nox (fun cls d _ H => (fun _ _ _ => False : XK) cls d H) := fun u s' ⟨a, B, sI, pins, σ, H, cls, d, e, I, nb, up, sky, na, os, ag, w⟩ => w.elim
theorem fnO_none {P : Program} {w : World} {K : Kc} {mg : Str → Option Value} {base : Heap} {CX : CXT} {k : Nat} {f : Addr} {fd : FuncData} {ps : List Str} : FnOk P w K.K mg base CX k f fd ps (PIO K fun _ _ => .stuck) :=
  ⟨fun vs H Q E ⟨_, _, _, _, _, _, _, _, _, _, _, _, _, e, _⟩ => (nomatch e), fun A outer s H args us vs Q E _ _ _ _ ⟨_, _, _, _, _, _, _, _, _, _, _, _, _, e, _⟩ => (nomatch e)⟩
end
end Pu

namespace Pu
open PySem PySem.Spec PyProof.Rows L2
/-! ### o.index(e), of a list of ints -/
def opIndex (ds : List D) : D → Option D
  | .int i => match ints? ds with
    | some ns => (ns.findIdx? (· == i)).map fun j => .int (j : Nat)
    | none => none
  | _ => none
def eIdx (a b : Ev) : Ev := fun ρ => (a ρ).bind fun x => match x with
  | .lst ds => (b ρ).bind fun y => Res.of (opIndex ds y)
  | _ => .stuck
section
variable {c : Cc} {X : Cx} {o e : Expr} {eo ea : Ev} {apos p2 : Pos}
theorem se_index (ho : SB c X o eo) (he : SE c X e ea) (hs : starEach [e] X.env = (false, eval e X.env) :: starEach [] X.env := by rfl)
    (hbase : attributeBase o "index" X.env (eval o X.env) = eval o X.env := by rfl)
    (hfew : ((backTo p2 (starEach [e] X.env)).all (fun x => !x.1) && (backToKw p2 (keywordEach [] X.env)).all (fun x => x.1.isSome)
      && decide ([e].length + ([] : List Keyword).length + (if ([] : List Keyword).isEmpty then 0 else 1) < 30)) = true := by rfl)
    (hline : (apos.endLine == p2.line) = true := by rfl) (hplain : (backTo p2 (starEach [] X.env)).any (·.1) = false := by rfl) : SE c X (.Call (.Attribute o "index" apos) [e] [] p2) (eIdx eo ea) := by
  refine ⟨pe_imp (pe_bm PySem.F.plainAttrs_list PySem.F.slot_list_index PySem.F.type_list_index mt_index ho.pe (pa_cons he.pe pa_nil hs) hbase hfew hline hs hplain) fun σ H Q ⟨F, ρ, r, q⟩ => ?_⟩
  unfold eIdx at q
  refine tG_bind r q fun v d H1 F1 g r1 rb q1 => ?_
  cases d with
  | lst ds =>
    obtain ⟨a, vs, rfl, ha, rs⟩ := rb.lst r1.le
    refine ⟨.inl ⟨rfl, vs, .inl (.inl ha)⟩, ?_⟩
    refine tG_bind r1 q1 fun w dy H2 F2 g2 r2 rw2 q2 => ?_
    unfold opIndex at q2
    split at q2
    · rename_i i
      split at q2
      · rename_i ns hns
        cases z : ns.findIdx? (· == i) with
        | none => rw [z] at q2; exact q2.elim
        | some j =>
          rw [z] at q2
          have e1 := ints?_eq hns; subst e1
          have e2 := rs.ints; subst e2
          cases rw2
          obtain ⟨hj, hp, hm⟩ := List.findIdx?_eq_some_iff_getElem.mp z
          have hji : ns[j] = i := by simpa using hp
          refine ⟨a, _, .int i, j, .int i, rfl, rfl, .inl (.inl (g2.h _ _ ha)), rfl, ?_, ?_, ?_, fun m z' hl hz => ?_, q2 _ H2 F2 r2.refl (.int _)⟩
          · simp [flatV]
          · rw [List.getElem?_map, List.getElem?_eq_getElem hj, hji]; rfl
          · simp [eqV]
          · rw [List.getElem?_map, List.getElem?_eq_getElem (by omega)] at hz
            cases hz
            have := hm m hl
            simpa [eqV] using this
      · exact q2.elim
    · exact q2.elim
  | _ => exact q1.elim
/-! a and b, a or b, as values: bools -/
def eAnd (a b : Ev) : Ev := fun ρ => (a ρ).bind fun x => match x with
  | .bl true => b ρ
  | .bl false => .ok (.bl false)
  | _ => .stuck
def eOr (a b : Ev) : Ev := fun ρ => (a ρ).bind fun x => match x with
  | .bl true => .ok (.bl true)
  | .bl false => b ρ
  | _ => .stuck
variable {a b : Expr} {rest : List Expr} {eb : Ev} {pos : Pos} {op : BoolOp}
theorem se_bone (h : SE c X a ea) : SE c X (.BoolOp op [a] pos) ea := ⟨pe_one h.pe⟩
theorem se_and (ha : SE c X a ea) (hb : SE c X (.BoolOp .And (b :: rest) pos) eb) : SE c X (.BoolOp .And (a :: b :: rest) pos) (eAnd ea eb) := by
  refine ⟨pe_imp (pe_and ha.pe hb.pe) fun σ H Q ⟨F, ρ, r, q⟩ => ?_⟩
  unfold eAnd at q
  refine tG_bind r q fun v d H1 F1 g r1 rv q1 => ?_
  split at q1
  · cases rv; exact ⟨true, rfl, iteT ⟨F1, ρ, r1, q1⟩⟩
  · cases rv; exact ⟨false, rfl, iteF (q1 _ H1 F1 r1.refl (.bl false))⟩
  · exact q1.elim
theorem se_or (ha : SE c X a ea) (hb : SE c X (.BoolOp .Or (b :: rest) pos) eb) : SE c X (.BoolOp .Or (a :: b :: rest) pos) (eOr ea eb) := by
  refine ⟨pe_imp (pe_or ha.pe hb.pe) fun σ H Q ⟨F, ρ, r, q⟩ => ?_⟩
  unfold eOr at q
  refine tG_bind r q fun v d H1 F1 g r1 rv q1 => ?_
  split at q1
  · cases rv; exact ⟨true, rfl, iteT (q1 _ H1 F1 r1.refl (.bl true))⟩
  · cases rv; exact ⟨false, rfl, iteF ⟨F1, ρ, r1, q1⟩⟩
  · exact q1.elim
/-! ### lists of lists: another name of an inner list -/
theorem Rel.al {K : Kc} {F H : Hp} {ρ : PEnv} {σ : Sg} {i j : Nat} {ds : List D} (r : Rel K c F ρ σ H) (h : ρ[i]? = some (.al j)) (hj : ρ[j]? = some (.own ds)) :
    ∃ p vs, σ[i]? = some (some (.ref p)) ∧ H p = some (.lst vs) ∧ Reps K F vs ds ∧ ∀ oa : Nat → Option Addr, (∀ i s, ρ[i]? = some s → SlotOk K c.n F H oa σ[i]? (oa i) s) → oa j = some p := by
  obtain ⟨oa, h1, _⟩ := r.sl
  obtain ⟨_, _, p, e1, e2⟩ := h1 i _ h
  obtain ⟨b, vs, e3, _, e4, e5⟩ := h1 j _ hj
  rw [e1] at e3; cases e3
  refine ⟨p, vs, e2, e4, e5, fun oa' h1' => ?_⟩
  obtain ⟨_, _, p', f1, f2⟩ := h1' i _ h
  rw [e2] at f2; cases f2; exact f1
def eAl (i : Nat) : Ev := fun ρ => match ρ[i]? with
  | some (.al j) => match ρ[j]? with
    | some (.own ds) => .ok (.lst ds)
    | _ => .stuck
  | _ => .stuck
theorem sb_al (i : Nat) {x : Str} {p : Pos} (hN : X.N[i]? = some x := by rfl) (hv : Vis X.env.scope x := by first | exact Or.inl rfl | exact Or.inr (Or.inl rfl) | exact Or.inr (Or.inr rfl)) (hd : (x == ("__debug__" : Str)) = false := by decide)
    (hcd : (x == ("__classdict__" : Str)) = false := by decide) : SB c X (.Name x p) (eAl i) := by
  refine ⟨pe_imp (pe_var hN hv hd hcd) fun σ H Q ⟨F, ρ, r, q⟩ => ?_⟩
  unfold eAl at q
  split at q
  · rename_i j h
    split at q
    · rename_i ds hj
      obtain ⟨p, vs, e1, e2, e3, _⟩ := r.al h hj
      exact ⟨.ref p, e1, q _ H F r.refl (.inr ⟨p, vs, ds, rfl, rfl, e2, e3⟩)⟩
    · exact q.elim
  · exact q.elim
def sPutAl (i : Nat) (ej ea : Ev) : Sv := fun ρ => match ρ[i]? with
  | some (.al m) => match ρ[m]? with
    | some (.own ds) => Out.of (ea ρ) fun d => Out.of (ej ρ) fun k => putAt m ρ ds d k
    | _ => .stuck
  | _ => .stuck
theorem ss_putAl {i : Nat} {x : Str} {p p2 : Pos} {ej : Ev} (hj : SE c X b ej) (he : SE c X e ea) (hN : X.N[i]? = some x := by rfl) (hv : Vis X.env.scope x := by first | exact Or.inl rfl | exact Or.inr (Or.inl rfl) | exact Or.inr (Or.inr rfl)) (hd : (x == ("__debug__" : Str)) = false := by decide)
    (hcd : (x == ("__classdict__" : Str)) = false := by decide)
    (ha : ∀ v, assign (.Subscript (.Name x p) b p2) X.env v = (do
      let ov ← holding [v] (eval (.Name x p) X.env)
      let iv ← holding [v, ov] (eval b X.env)
      standAt p2
      holding [v, ov, iv] (setItem ov iv v)
      release [v, ov, iv] []) := by intro _; rfl) (hs : swapsWithSole [.Subscript (.Name x p) b p2] e pos.line X.env = pure false := by rfl) (hw : swappedStores [.Subscript (.Name x p) b p2] e X.env = pure none := by rfl)
    (h1 : (assignEach [.Subscript (.Name x p) b p2] X.env).map (·.2) = [assign (.Subscript (.Name x p) b p2) X.env] := by rfl) : SS c X (.Assign [.Subscript (.Name x p) b p2] e pos) (sPutAl i ej ea) := by
  refine ⟨ps_imp (ps_asg he.pe (pg_sub (pe_var hN hv hd hcd) hj.pe set_list ha) hs hw h1) fun D σ H ⟨F, ρ, r, q⟩ => ?_⟩
  unfold sPutAl at q
  split at q
  · rename_i m hi
    split at q
    · rename_i ds hm
      obtain ⟨l, vs, e1, e2, e3, _⟩ := r.al hi hm
      refine tG_st r q fun v dv H1 F1 g r1 rp q1 => ?_
      refine ⟨.ref l, e1, tG_st r1 q1 fun w dk H2 F2 g2 r2 rk q2 => ?_⟩
      obtain ⟨l', vs', e1', e2', e3', eo⟩ := r2.al hi hm
      rw [e1] at e1'; cases e1'
      unfold putAt at q2
      split at q2
      · rename_i k
        split at q2
        · rename_i n hn
          cases rk
          exact ⟨l, vs', k, n, rfl, rfl, e2', by rw [e3'.length]; exact hn, q2 σ _ F2 (Same.refl F2) (r2.putOwnG hm eo (Reps.set (rp.mono g2.f) n e3'))⟩
        · exact q2.elim
      · exact q2.elim
    · exact q.elim
  · exact q.elim
/-- x = []: a list of lists, as yet empty -/
def sOwn2 (i : Nat) (lv : Av) : Sv := fun ρ => match lv ρ with
  | .ok [] => .nx (ρ.set i (.own2 []))
  | .exc C fs => .exc C fs
  | _ => .stuck
theorem ss_own2 {i : Nat} {x : Str} {p : Pos} {lv : Av} (he : SN c X e lv) (hN : X.N.Nodup) (hi : X.N[i]? = some x := by rfl) (hx : Loc X.env.scope x := by first | exact Or.inl rfl | exact Or.inr rfl) (io : ∀ a, c.io ≠ some (i, a) := by intro _ h; cases h)
    (hs : swapsWith e (some (.Name x p)) pos.line X.env = pure false := by rfl) (hf : X.fn x = true ∨ X.env.scope.names.lookup x = some .local := by first | exact .inl rfl | exact .inr rfl | assumption) (hn : c.n = X.N.length := by rfl) : SS c X (.Assign [.Name x p] e pos) (sOwn2 i lv) := by
  refine ⟨ps_imp (ps_set hN hi hx he.pe hs hf) fun D σ H ⟨F, ρ, r, q⟩ => ⟨F, ρ, r, ?_⟩⟩
  unfold sOwn2 at q
  cases z : lv ρ with
  | ok ds =>
    rw [z] at q
    intro p vs H1 F1 g n rp _
    cases ds with
    | nil =>
      cases rp
      exact q _ _ F1 g.f ((r.grow g).setOwnG io (lt_n hn hi) n fun oa _ => ⟨p, [], rfl, rfl, upd_same, rfl, fun _ h => nomatch h⟩)
    | cons d ds => exact q.elim
  | exc C fs => rw [z] at q; exact q
  | stuck => rw [z] at q; exact q.elim
end
end Pu

namespace Pu
open PySem PySem.Spec PyProof.Rows L2
theorem same_upd2 {Z H : Hp} {a : Addr} {o : HO} (z : Z a = none) (s : Same Z H) : Same Z (upd H a o) := fun x u q => by
  by_cases w : x = a
  · subst w; rw [z] at q; cases q
  · rw [upd_ne w]; exact s x u q
/-- a new inner list is added to a list of lists -/
theorem Rel.app2 {K : Kc} {c : Cc} {F H : Hp} {ρ : PEnv} {σ : Sg} {i : Nat} {js : List Nat} {ds : List D} {vs : List V} {p l : Addr} {ws : List V} (r : Rel K c F ρ σ H) (hi : ρ[i]? = some (.own2 js)) (hl : σ[i]? = some (some (.ref l)))
    (hw : H l = some (.lst ws)) (n : H p = none) (h : Reps K F vs ds) : Rel K c F ((ρ ++ [Slot.own ds]).set i (.own2 (js ++ [ρ.length]))) σ (upd (upd H p (.lst vs)) l (.lst (ws ++ [.ref p]))) := by
  obtain ⟨oa, h1, h2, h3, h4⟩ := r.sl
  obtain ⟨l', ps, o1, o2, o3, o4, o5⟩ := h1 i _ hi
  rw [hl] at o2; cases o2
  rw [hw] at o3; cases o3
  have il : i < ρ.length := (List.getElem?_eq_some_iff.mp hi).1
  have np := Rel.noa h1 n
  have npl : p ≠ l := fun z => by subst z; rw [n] at hw; cases hw
  obtain ⟨fl, bl, _⟩ := h3 i l o1
  have far : ∀ j, (oa j).isSome = true → oaSet oa ρ.length (some p) j = oa j := fun j q => by
    obtain ⟨a, e⟩ := Option.isSome_iff_exists.mp q
    have := (h3 j a e).2.2
    exact oaSet_ne (by omega)
  refine ⟨same_upd2 bl (same_upd2 (r.b.free n) r.b), r.f0, same_upd2 fl (same_upd2 (r.le.free n) r.le), r.nw, r.len, ?_, oaSet oa ρ.length (some p), fun j t e => ?_, fun j k a e1 e2 => ?_, fun j a e => ?_, fun j a e => ?_⟩
  · have := r.len2; simp; omega
  · by_cases q : j = i
    · subst q
      rw [List.getElem?_set_self (by simp; omega)] at e
      cases e
      refine ⟨l, ps ++ [p], ?_, hl, by rw [upd_same, List.map_append]; rfl, ?_, fun k hk => ?_⟩
      · rw [far j (by rw [o1]; rfl)]; exact o1
      · rw [List.map_append, List.map_append, o4]
        congr 1
        · apply List.map_congr_left
          intro k hk
          have hm : oa k ∈ ps.map some := by rw [o4]; exact List.mem_map_of_mem hk
          obtain ⟨x, _, ex⟩ := List.mem_map.mp hm
          exact (far k (by rw [← ex]; rfl)).symm
        · show [some p] = [oaSet oa ρ.length (some p) ρ.length]
          rw [oaSet_same]
      · rcases List.mem_append.mp hk with hk | hk
        · exact o5 k hk
        · rw [List.mem_singleton.mp hk]; exact r.len2
    · rw [List.getElem?_set_ne (Ne.symm q)] at e
      by_cases q2 : j = ρ.length
      · subst q2
        rw [List.getElem?_append_right (Nat.le_refl _), Nat.sub_self] at e
        cases e
        refine ⟨p, vs, oaSet_same, .inl ?_, by rw [upd_ne npl, upd_same], h⟩
        rw [List.getElem?_eq_none_iff, r.len]; exact r.len2
      · have jl : j < ρ.length := by
          have := (List.getElem?_eq_some_iff.mp e).1
          simp at this; omega
        rw [List.getElem?_append_left jl] at e
        rw [oaSet_ne q2]
        have o := h1 j t e
        have nx : ∀ x, oa j = some x → x ≠ l := fun x ex z => q (h2 j i l (by rw [← z]; exact ex) o1)
        have ny : ∀ x, oa j = some x → x ≠ p := fun x ex => np j x ex jl
        have go : SlotOk K c.n F (upd (upd H p (.lst vs)) l (.lst (ps.map V.ref ++ [.ref p]))) oa σ[j]? (oa j) t := by
          cases t with
          | un => exact o
          | val d => exact o
          | al k => exact o
          | own ds2 =>
            obtain ⟨x, us, p1, p2, p3, p4⟩ := o
            exact ⟨x, us, p1, p2, by rw [upd_ne (nx x p1), upd_ne (ny x p1)]; exact p3, p4⟩
          | own2 js2 =>
            obtain ⟨x, us, p1, p2, p3, p4, p5⟩ := o
            exact ⟨x, us, p1, p2, by rw [upd_ne (nx x p1), upd_ne (ny x p1)]; exact p3, p4, p5⟩
          | ob C fs =>
            obtain ⟨x, dx, us, p1, p2, p3, p4⟩ := o
            exact ⟨x, dx, us, p1, p2, by rw [upd_ne (nx x p1), upd_ne (ny x p1)]; exact p3, p4⟩
        exact go.oaNe fun k _ hk => far k hk
  · by_cases q : j = ρ.length
    · rw [q, oaSet_same] at e1; cases e1
      by_cases q' : k = ρ.length
      · rw [q, q']
      · rw [oaSet_ne q'] at e2; exact absurd rfl (np k p e2 (h3 k p e2).2.2)
    · rw [oaSet_ne q] at e1
      by_cases q' : k = ρ.length
      · rw [q', oaSet_same] at e2; cases e2; exact absurd rfl (np j p e1 (h3 j p e1).2.2)
      · rw [oaSet_ne q'] at e2; exact h2 j k a e1 e2
  · by_cases q : j = ρ.length
    · rw [q, oaSet_same] at e; cases e
      exact ⟨r.le.free n, r.b.free n, by simp [q]⟩
    · rw [oaSet_ne q] at e
      obtain ⟨f, b, l2⟩ := h3 j a e
      exact ⟨f, b, by simp; omega⟩
  · have e2 := h4 j a e
    rw [far j (by rw [e2]; rfl)]; exact e2
def sApp2 (i : Nat) (lv : Av) : Sv := fun ρ => match ρ[i]? with
  | some (.own2 js) => match lv ρ with
    | .ok ds => if js.length < sizeLine then .nx ((ρ ++ [Slot.own ds]).set i (.own2 (js ++ [ρ.length]))) else .stuck
    | .exc C fs => .exc C fs
    | .stuck => .stuck
  | _ => .stuck
section
variable {c : Cc} {X : Cx} {e : Expr} {lv : Av} {pos p p2 apos : Pos} {x : Str} {i : Nat}
theorem ss_app2 (he : SN c X e lv) (hN : X.N[i]? = some x := by rfl) (hv : Vis X.env.scope x := by first | exact Or.inl rfl | exact Or.inr (Or.inl rfl) | exact Or.inr (Or.inr rfl)) (hd : (x == ("__debug__" : Str)) = false := by decide)
    (hcd : (x == ("__classdict__" : Str)) = false := by decide)
    (hbase : attributeBase (.Name x p) "append" X.env (eval (.Name x p) X.env) = eval (.Name x p) X.env := by rfl)
    (hfew : ((backTo p2 (starEach [e] X.env)).all (fun x => !x.1) && (backToKw p2 (keywordEach [] X.env)).all (fun x => x.1.isSome)
      && decide ([e].length + ([] : List Keyword).length + (if ([] : List Keyword).isEmpty then 0 else 1) < 30)) = true := by rfl)
    (hline : (apos.endLine == p2.line) = true := by rfl) (hs : starEach [e] X.env = (false, eval e X.env) :: starEach [] X.env := by rfl) (hplain : (backTo p2 (starEach [] X.env)).any (·.1) = false := by rfl)
    (hsw : swapsWith (.Call (.Attribute (.Name x p) "append" apos) [e] [] p2) none pos.line X.env = pure false := by rfl) :
    SS c X (.Expr (.Call (.Attribute (.Name x p) "append" apos) [e] [] p2) pos) (sApp2 i lv) := by
  refine ⟨ps_imp (ps_expr (pe_bm PySem.F.plainAttrs_list PySem.F.slot_list_append PySem.F.type_list_append mt_append (pe_var hN hv hd hcd) (pa_cons he.pe pa_nil hs) hbase hfew hline hs hplain) hsw) fun D σ H ⟨F, ρ, r, q⟩ => ?_⟩
  unfold sApp2 at q
  split at q
  · rename_i js hi
    obtain ⟨oa, h1, h2, h3, h4⟩ := r.sl
    obtain ⟨l, ps, o1, o2, o3, o4, o5⟩ := h1 i _ hi
    refine ⟨.ref l, o2, .inl ⟨rfl, _, .inl (.inl o3)⟩, F, ρ, r, ?_⟩
    cases z : lv ρ with
    | ok ds =>
      rw [z] at q
      intro v vs H1 F1 g n rp hz
      have q' : FinS (X.kc c) c F (if js.length < sizeLine then .nx ((ρ ++ [Slot.own ds]).set i (.own2 (js ++ [ρ.length]))) else .stuck) D := q
      by_cases hl : js.length < sizeLine
      · rw [if_pos hl] at q'
        have hw := g.h _ _ o3
        have nl : l ≠ v := fun z => by subst z; rw [n] at hw; cases hw
        have len : (ps.map V.ref).length < sizeLine := by
          have := congrArg List.length o4
          simp only [List.length_map] at this
          rw [List.length_map, this]; exact hl
        exact ⟨l, _, .ref v, rfl, rfl, by rw [upd_ne nl]; exact hw, len, q' σ _ F1 g.f ((r.grow g).app2 hi o2 hw n rp)⟩
      · rw [if_neg hl] at q'; exact q'.elim
    | exc C fs => rw [z] at q; exact q
    | stuck => rw [z] at q; exact q
  · exact q.elim
end
end Pu

namespace Pu
open PySem PySem.Spec PyProof.Rows L2
/-- slot i stays at the address l -/
abbrev Cc.pin (c : Cc) (i : Nat) (l : Addr) : Cc := { c with io := some (i, l) }
section
variable {K : Kc} {c : Cc} {F F' H H' : Hp} {ρ ρ' : PEnv} {σ σ' : Sg} {i : Nat} {l : Addr}
theorem Rel.pin {js : List Nat} (r : Rel K c F ρ σ H) (hi : ρ[i]? = some (.own2 js)) (hl : σ[i]? = some (some (.ref l))) : Rel K (c.pin i l) F ρ σ H := by
  obtain ⟨oa, h1, h2, h3, h4⟩ := r.sl
  refine ⟨r.b, r.f0, r.le, r.nw, r.len, r.len2, oa, h1, h2, h3, fun k a e => ?_⟩
  cases e
  obtain ⟨l', ps, o1, o2, o3, o4, o5⟩ := h1 i _ hi
  rw [hl] at o2; cases o2; exact o1
theorem Rel.unpin (io : c.io = none) (r : Rel K (c.pin i l) F ρ σ H) : Rel K c F ρ σ H := by
  obtain ⟨oa, h1, h2, h3, h4⟩ := r.sl
  exact ⟨r.b, r.f0, r.le, r.nw, r.len, r.len2, oa, h1, h2, h3, fun k a e => by rw [io] at e; cases e⟩
theorem Rel.pinned {js : List Nat} (r : Rel K (c.pin i l) F ρ σ H) (hi : ρ[i]? = some (.own2 js)) :
    ∃ ps : List Addr, H l = some (.lst (ps.map V.ref)) ∧ ps.length = js.length ∧ (∀ j ∈ js, c.n ≤ j) ∧ σ[i]? = some (some (.ref l)) := by
  obtain ⟨oa, h1, h2, h3, h4⟩ := r.sl
  obtain ⟨l', ps, o1, o2, o3, o4, o5⟩ := h1 i _ hi
  have := h4 i l rfl
  rw [this] at o1; cases o1
  refine ⟨ps, o3, ?_, o5, o2⟩
  have := congrArg List.length o4
  simpa using this
theorem FinS.pin (io : c.io = none) {o : Out} {D : Ends} (h : FinS K c F o D) : FinS K (c.pin i l) F o D := by
  cases o with
  | nx ρ' => exact fun σ' H' F' m r' => h σ' H' F' m (r'.unpin io)
  | rt d => exact fun v H' F' b rp => h v H' F' ⟨b.f, b.le, b.b, b.nw⟩ rp
  | bk ρ' => exact fun σ' H' F' m r' => h σ' H' F' m (r'.unpin io)
  | ct ρ' => exact fun σ' H' F' m r' => h σ' H' F' m (r'.unpin io)
  | exc C fs => exact h
  | stuck => exact h
end
theorem ref_inj : ∀ {ps qs : List Addr}, ps.map V.ref = qs.map V.ref → ps = qs
  | [], [], _ => rfl
  | [], _ :: _, h => by cases h
  | _ :: _, [], h => by cases h
  | p :: ps, q :: qs, h => by
    injection h with h1 h2
    injection h1 with h1
    rw [h1, ref_inj h2]
/-- for y in x, x a list of lists: the turns -/
def for2S (i t : Nat) (js : List Nat) (s : Sv) : List Nat → Sv
  | [], ρ => match ρ[i]? with
    | some (.own2 js') => if js' = js then .nx ρ else .stuck
    | _ => .stuck
  | j :: r, ρ => match ρ[i]? with
    | some (.own2 js') => if js' = js then (match s (ρ.set t (.al j)) with
      | .nx ρ2 => for2S i t js s r ρ2
      | .ct ρ2 => for2S i t js s r ρ2
      | .bk ρ2 => .nx ρ2
      | o => o) else .stuck
    | _ => .stuck
def sFor2 (i t : Nat) (s : Sv) : Sv := fun ρ => match ρ[i]? with
  | some (.own2 js) => for2S i t js s js ρ
  | _ => .stuck
theorem for2S_own {K : Kc} {c : Cc} {F : Hp} {D : Ends} {i t : Nat} {js r : List Nat} {s : Sv} {ρ : PEnv} (h : FinS K c F (for2S i t js s r ρ) D) : ρ[i]? = some (.own2 js) := by
  cases r with
  | nil =>
    unfold for2S at h
    split at h
    · split at h
      · rename_i e q; rw [e, q]
      · exact h.elim
    · exact h.elim
  | cons j r =>
    unfold for2S at h
    split at h
    · split at h
      · rename_i e q; rw [e, q]
      · exact h.elim
    · exact h.elim
section
variable {c : Cc} {X : Cx} {bd : List Stmt} {s : Sv} {pos p p2 : Pos} {x y : Str} {i t : Nat}
theorem ss_for2 (hp : PassesOwn (model X.prog X.w) X.A X.env X.xe) (hc : X.calm = true) (io : c.io = none) (hb : ∀ l, SSs (c.pin i l) X bd s) (hN : X.N.Nodup)
    (hN1 : X.N[i]? = some x := by rfl) (hv : Vis X.env.scope x := by first | exact Or.inl rfl | exact Or.inr (Or.inl rfl) | exact Or.inr (Or.inr rfl)) (hd : (x == ("__debug__" : Str)) = false := by decide)
    (hcd : (x == ("__classdict__" : Str)) = false := by decide)
    (ht : X.N[t]? = some y := by rfl) (hx : Loc X.env.scope y := by first | exact Or.inl rfl | exact Or.inr rfl) (hf : X.fn y = true ∨ X.env.scope.names.lookup y = some .local := by first | exact .inl rfl | exact .inr rfl | assumption)
    (hn : c.n = X.N.length := by rfl) (hit : ¬ i = t := by decide)
    (hs : ∀ z, foldedSetIterable (.Name x p) X.env z = pure z := by intro _; rfl) : SS c X (.For (.Name y p2) (.Name x p) bd [] pos) (sFor2 i t s) := by
  have hbd : PSs X bd (fun D σ H => ∃ l, tSt (X.kc c) (c.pin i l) s D σ H) := ⟨fun pins sh σ H Q I ⟨l, q⟩ => (hb l).ps.run pins sh σ H Q I q⟩
  refine ⟨ps_imp (ps_for hp hc (pi_list (pe_var hN1 hv hd hcd)) (pg_name hN ht hx hf) hbd hs) fun D σ H ⟨F, ρ, r, q⟩ => ?_⟩
  unfold sFor2 at q
  split at q
  · rename_i js hi
    obtain ⟨oa, h1, h2, h3, h4⟩ := r.sl
    obtain ⟨l, ps, o1, o2, o3, o4, o5⟩ := h1 i _ hi
    have w : Walk (Itl X.K l) js.length (fun H => ∃ xs : List V, H l = some (.lst xs) ∧ xs.length = js.length) (fun i H x H' => H' = H ∧ ∀ xs : List V, H l = some (.lst xs) → xs[i]? = some x) := by
      refine ⟨fun i H hi ⟨xs, q, e⟩ => ⟨xs, xs[i]'(by omega), .inl (.inl q), by simp [show i < xs.length by omega]⟩, fun H ⟨xs, q, e⟩ => ⟨xs, .inl (.inl q), by omega⟩, fun i H x H' hi q y => ⟨y.1, fun xs e => y.2 xs (.inl (.inl e))⟩⟩
    refine ⟨.ref l, o2, l, rfl, ⟨_, .inl (.inl o3)⟩, ?_⟩
    refine for_it (g := gName t) (tb := fun D σ H => ∃ l, tSt (X.kc c) (c.pin i l) s D σ H) (D := D) w (fun k σ' H' => ∃ F' ρ', Same F F' ∧ Rel (X.kc c) (c.pin i l) F' ρ' σ' H' ∧ FinS (X.kc c) (c.pin i l) F' (for2S i t js s (js.drop k) ρ') D) ⟨F, ρ, Same.refl F, r.pin hi o2, q.pin io⟩ ?_ ?_ ?_
    · rintro k σ' H' _ ⟨F', ρ', m, r', q'⟩
      obtain ⟨ps', e1, e2, _⟩ := r'.pinned (for2S_own q')
      exact ⟨_, e1, by rw [List.length_map]; exact e2⟩
    · rintro k v σ' H' H2 hk ⟨F', ρ', m, r', q'⟩ ⟨rfl, hy⟩
      have hi' := for2S_own q'
      obtain ⟨ps', e1, e2, e5, e6⟩ := r'.pinned hi'
      have hv := hy _ e1
      rw [List.getElem?_map] at hv
      obtain ⟨pk, hpk, rfl⟩ := Option.map_eq_some_iff.mp hv
      have hd : js.drop k = js[k] :: js.drop (k + 1) := List.drop_eq_getElem_cons hk
      have hoa : ∀ oa : Nat → Option Addr, (∀ i s, ρ'[i]? = some s → SlotOk (X.kc c) c.n F' H2 oa σ'[i]? (oa i) s) → oa js[k] = some pk := fun oa g1 => by
        obtain ⟨a, qs, f1, f2, f3, f4, f5⟩ := g1 i _ hi'
        rw [e6] at f2; cases f2
        rw [e1] at f3
        have hq : ps'.map V.ref = qs.map V.ref := by injection (Option.some.inj f3)
        have hq2 : ps' = qs := ref_inj hq
        subst hq2
        have := congrArg (·[k]?) f4
        simp only [List.getElem?_map, hpk, List.getElem?_eq_getElem hk, Option.map_some] at this
        exact (Option.some.inj this).symm
      rw [hd] at q'
      unfold for2S at q'
      rw [hi'] at q'
      simp only [if_pos] at q'
      have r1 : Rel (X.kc c) (c.pin i l) F' (ρ'.set t (.al js[k])) (σ'.set t (some (.ref pk))) H2 :=
        r'.setV (fun a e => hit (by cases e; rfl)) (lt_n hn ht) fun oa g1 => ⟨rfl, e5 _ (List.getElem_mem hk), pk, hoa oa g1, rfl⟩
      refine ⟨l, F', ρ'.set t (.al js[k]), r1, ?_⟩
      cases zs : s (ρ'.set t (.al js[k])) with
      | nx ρ2 => rw [zs] at q'; exact fun σ3 H3 F3 m3 r3 => ⟨F3, ρ2, m.trans m3, r3, FinS.mono m3 q'⟩
      | ct ρ2 => rw [zs] at q'; exact fun σ3 H3 F3 m3 r3 => ⟨F3, ρ2, m.trans m3, r3, FinS.mono m3 q'⟩
      | bk ρ2 => rw [zs] at q'; exact q'
      | rt d => rw [zs] at q'; exact q'
      | exc C fs => rw [zs] at q'; exact q'
      | stuck => rw [zs] at q'; exact q'
    · rintro σ' H' ⟨F', ρ', m, r', q'⟩
      rw [List.drop_length] at q'
      have hi' := for2S_own q'
      unfold for2S at q'
      rw [hi'] at q'
      simp only [if_pos] at q'
      exact q' σ' H' F' (Same.refl F') r'
  · exact q.elim
end
end Pu

namespace Pu
open PySem PySem.Spec PyProof.Rows L2
/-- the items of a list of lists, by their slots -/
def itO2 (i : Nat) : Av := fun ρ => match ρ[i]? with
  | some (.own2 js) => .ok (js.map fun j => .int (j : Nat))
  | _ => .stuck
def gAl (t : Nat) : Gv := fun d ρ => match d with
  | .int j => some (ρ.set t (.al j.toNat))
  | _ => none
section
variable {c : Cc} {t : Nat} {tt : Tv} {ev : Ev}
theorem tLc2_of {i0 : Nat} {K : Kc} {σ : Sg} {H : Hp} {Q : VK} (hix0 : ∀ a, c.io ≠ some (t, a)) (hlt0 : t < c.n) (hit : ¬ i0 = t) (h : tNw K c (lLc (itO2 i0) (gAl t) [t] tt ev) σ H Q) :
    tLc (iList K.K (tVar i0)) (gName t) (tT K c.nox tt) (tE K c.nox ev) [t] σ H Q := by
  have hix : ∀ j ∈ [t], ∀ a, c.io ≠ some (j, a) := fun j hj => by rw [List.mem_singleton.mp hj]; exact hix0
  have hlt : ∀ j ∈ [t], j < c.n := fun j hj => by rw [List.mem_singleton.mp hj]; exact hlt0
  obtain ⟨F, ρ, r, q⟩ := h
  unfold lLc at q
  cases z : itO2 i0 ρ with
  | exc C fs => unfold itO2 at z; split at z <;> cases z
  | stuck => rw [z] at q; exact q.elim
  | ok ds =>
    rw [z] at q
    obtain ⟨js, hi0, hds⟩ : ∃ js, ρ[i0]? = some (.own2 js) ∧ ds = js.map fun j => D.int (j : Nat) := by
      unfold itO2 at z
      split at z
      · rename_i js e; cases z; exact ⟨js, e, rfl⟩
      · cases z
    obtain ⟨oa, u1, u2, u3, u4⟩ := r.sl
    obtain ⟨l, ps, o1, o2, o3, o4, o5⟩ := u1 i0 _ hi0
    refine ⟨.ref l, o2, l, rfl, ⟨_, .inl (.inl o3)⟩, ?_⟩
    intro D nD
    have g1 : Grow F H F H := r.refl
    have lps : ps.length = js.length := by simpa using congrArg List.length o4
    have w : Walk (Itl K.K l) ds.length (fun H => H l = some (.lst (ps.map V.ref))) (fun i H x H' => H' = H ∧ (ps.map V.ref)[i]? = some x) := by
      refine ⟨fun i H hi q => ⟨_, (ps.map V.ref)[i]'(by rw [List.length_map, lps]; rw [hds, List.length_map] at hi; exact hi), .inl (.inl q), List.getElem?_eq_getElem _⟩, fun H q => ⟨_, .inl (.inl q), by rw [List.length_map, lps, hds, List.length_map]; exact Nat.le_refl _⟩, fun i H x H' hi q y => ⟨y.1, y.2 _ (.inl (.inl q))⟩⟩
    have q0 : FinN K c F H (if ds.length ≤ sizeLine then lcGo (gAl t) tt ev (wipeR ρ [t]) ds else .stuck) Q := q
    by_cases hz : ds.length ≤ sizeLine
    · rw [if_pos hz] at q0
      have nF1 : F D = none := g1.le.free nD
      have q1 : FinN K c F H (lcGo (gAl t) tt ev (wipeR ρ [t]) ds) Q := by
        cases zz : lcGo (gAl t) tt ev (wipeR ρ [t]) ds with
        | ok ys => rw [zz] at q0; exact fun p vs H2 F2 g2 n rs hz => q0 p vs H2 F2 (g1.trans g2) n rs hz
        | exc C fs => exact absurd zz lcGo_exc
        | stuck => rw [zz] at q0; exact q0
      have r1 := r.grow g1
      -- what holds between the turns
      refine lc_it w (fun i H' => ∃ F' acc done, Grow F H F' (del H' D) ∧ H' D = some (.lst acc) ∧ Reps K F' acc done ∧ F' D = none ∧ acc.length ≤ i ∧
        ∃ ys, lcGo (gAl t) tt ev (wipeR ρ [t]) (ds.drop i) = .ok ys ∧ lcGo (gAl t) tt ev (wipeR ρ [t]) ds = .ok (done ++ ys)) ?_ ?_ ?_ ?_
      · cases zz : lcGo (gAl t) tt ev (wipeR ρ [t]) ds with
        | ok ys =>
          refine ⟨F, [], [], ?_, upd_same, .nil, nF1, Nat.le_refl _, ys, by simpa using zz, rfl⟩
          rw [del_upd]
          have e : del H D = H := by
            funext b
            by_cases e : b = D
            · subst e; rw [del_same, nD]
            · rw [del_ne e]
          rw [e]
          exact r1.refl
        | exc C fs => exact absurd zz lcGo_exc
        | stuck => rw [zz] at q1; exact q1.elim
      · rintro i H' _ ⟨F', acc, done, g2, _⟩
        exact del_le _ _ (g2.h _ _ o3)
      · rintro i x H' H2 hi ⟨F', acc, done, g2, eD, rs, nD', hl, ys, e1, e2⟩ yy
        have le' : Same F' H' := g2.le.trans del_le
        obtain ⟨F2, g3, eF⟩ : ∃ F2, Grow F' H' F2 H2 ∧ F2 = F' := ⟨F', by rw [yy.1]; exact Grow.refl le', rfl⟩
        have hjs : i < js.length := by rw [hds, List.length_map] at hi; exact hi
        obtain ⟨d, ed, hdj⟩ : ∃ d, ds[i]? = some d ∧ d = Pu.D.int (js[i] : Nat) := ⟨_, by rw [hds, List.getElem?_map, List.getElem?_eq_getElem hjs]; rfl, rfl⟩
        have hd : ds.drop i = d :: ds.drop (i + 1) := by
          have hi' : i < ds.length := hi
          rw [List.drop_eq_getElem_cons hi']
          congr 1
          rw [List.getElem?_eq_getElem hi'] at ed
          exact Option.some.inj ed
        rw [hd] at e1
        unfold lcGo at e1
        have nF2 : F2 D = none := by
          cases w : F2 D with
          | none => rfl
          | some o =>
            rcases g3.nw D o w with v | v
            · rw [nD'] at v; cases v
            · rw [eD] at v; cases v
        have eD2 : H2 D = some (.lst acc) := g3.h _ _ eD
        -- the growth without D
        have g4 : Grow F H F2 (del H2 D) := by
          refine ⟨g2.f.trans g3.f, fun b o e => ?_, le_del g3.le nF2, fun b o e => ?_⟩
          · have nb : b ≠ D := fun z => by rw [z, nD] at e; cases e
            rw [del_ne nb]
            exact g3.h _ _ (del_le _ _ (g2.h _ _ e))
          · rcases g3.nw b o e with v | v
            · exact g2.nw b o v
            · exact .inr (Same.free (H := H) (H' := H') (g2.h.trans del_le) v)
        have r2 : Rel K c F2 ρ σ H2 := (r1.grow g4).hmono del_le
        have r2w : Rel K c.nox F2 (wipeR ρ [t]) (wipe σ [t]) H2 := (Rel.wipe r2 [t] hix hlt).nox
        split at e1
        · cases e1
        · rename_i ρ1 zg
          have hx := yy.2
          rw [List.getElem?_map] at hx
          obtain ⟨pk, hpk, rfl⟩ := Option.map_eq_some_iff.mp hx
          have hl2 : H2 l = some (.lst (ps.map V.ref)) := by rw [yy.1]; exact del_le _ _ (g2.h _ _ o3)
          have hi2 : (wipeR ρ [t])[i0]? = some (.own2 js) := by
            show (ρ.set t .un)[i0]? = _
            rw [List.getElem?_set_ne (Ne.symm hit)]; exact hi0
          have hs2 : (wipe σ [t])[i0]? = some (some (.ref l)) := by
            show (σ.set t none)[i0]? = _
            rw [List.getElem?_set_ne (Ne.symm hit)]; exact o2
          have r3 : Rel K c.nox F2 ρ1 ((wipe σ [t]).set t (some (.ref pk))) H2 := by
            subst hdj
            have : ρ1 = (wipeR ρ [t]).set t (.al js[i]) := by
              have := zg
              unfold gAl at this
              simpa using this.symm
            rw [this]
            refine r2w.setV hix0 hlt0 fun oa g => ⟨rfl, o5 _ (List.getElem_mem hjs), pk, ?_, rfl⟩
            obtain ⟨a, qs, f1, f2, f3, f4, f5⟩ := g i0 _ hi2
            rw [hs2] at f2; cases f2
            rw [hl2] at f3
            have hq : ps.map V.ref = qs.map V.ref := by injection (Option.some.inj f3)
            have hq2 := ref_inj hq
            subst hq2
            have := congrArg (·[i]?) f4
            simp only [List.getElem?_map, hpk, List.getElem?_eq_getElem hjs, Option.map_some] at this
            exact (Option.some.inj this).symm
          refine ⟨?_, F2, ρ1, r3, ?_⟩
          · refine wipe_ext (by simp [wipe_length]) fun j hj => ?_
            have hj' : ¬ t = j := fun z => hj (by simp [z])
            rw [List.getElem?_set_ne hj', wipe_get]
            rw [if_neg (fun z => hj z.1)]
          cases zt : tt ρ1 with
          | exc C fs => rw [zt] at e1; cases e1
          | stuck => rw [zt] at e1; cases e1
          | ok b =>
            rw [zt] at e1
            intro b' H3 F3 g5 eb
            cases (show b' = b from eb)
            have grow2 : ∀ {F3 H3 : Hp}, Grow F2 H2 F3 H3 → F3 D = none ∧ H3 D = some (.lst acc) ∧ Grow F H F3 (del H3 D) := fun {F3 H3} g5 => by
              have n3 : F3 D = none := by
                cases w : F3 D with
                | none => rfl
                | some o =>
                  rcases g5.nw D o w with v | v
                  · rw [nF2] at v; cases v
                  · rw [eD2] at v; cases v
              refine ⟨n3, g5.h _ _ eD2, g4.f.trans g5.f, fun b o e => ?_, le_del g5.le n3, fun b o e => ?_⟩
              · have nb : b ≠ D := fun z => by rw [z, nD] at e; cases e
                rw [del_ne nb]
                exact g5.h _ _ (del_le _ _ (g4.h _ _ e))
              · rcases g5.nw b o e with v | v
                · exact g4.nw b o v
                · exact .inr (Same.free (H := H) (H' := H2) (g4.h.trans del_le) v)
            cases b with
            | false =>
              refine iteF ?_
              obtain ⟨n3, e3, g6⟩ := grow2 g5
              exact ⟨F3, acc, done, g6, e3, rs.mono (g3.f.trans g5.f), n3, Nat.le_succ_of_le hl, ys, e1, e2⟩
            | true =>
              refine iteT ⟨F3, ρ1, r3.grow g5, ?_⟩
              have e1' : (ev ρ1).nx.bind (fun y => (lcGo (gAl t) tt ev (wipeR ρ [t]) (ds.drop (i + 1))).bind fun ys => .ok (y :: ys)) = .ok ys := e1
              cases ze : ev ρ1 with
              | exc C fs => rw [ze] at e1'; cases e1'
              | stuck => rw [ze] at e1'; cases e1'
              | ok yd =>
                rw [ze] at e1'
                intro v H4 F4 g7 rv
                obtain ⟨n4, e4, g8⟩ := grow2 (g5.trans g7)
                cases zr : lcGo (gAl t) tt ev (wipeR ρ [t]) (ds.drop (i + 1)) with
                | exc C fs => rw [zr] at e1'; cases e1'
                | stuck => rw [zr] at e1'; cases e1'
                | ok zs =>
                  rw [zr] at e1'
                  cases e1'
                  have hi' : i < ds.length := hi
                  refine ⟨acc, e4, by omega, F4, acc ++ [v], done ++ [yd], ?_, upd_same, ?_, n4, by rw [List.length_append]; exact Nat.succ_le_succ hl, zs, rfl, by rw [e2, List.append_assoc]; rfl⟩
                  · rw [del_upd]; exact g8
                  · exact (rs.mono ((g3.f.trans g5.f).trans g7.f)).append (.cons rv .nil)
      · rintro H' ⟨F', acc, done, g2, eD, rs, nD', hl, ys, e1, e2⟩
        rw [List.drop_length] at e1
        cases e1
        rw [List.append_nil] at e2
        rw [e2] at q1
        have := q1 D acc (del H' D) F' g2 del_same rs (Nat.le_trans hl hz)
        rwa [upd_del eD] at this
    · rw [if_neg hz] at q0; exact q0.elim
variable {X : Cx} {elt : Expr} {ifs : List Expr} {scope : Scope} {own : List (Str × Nat)} {pos p p2 : Pos} {x y : Str} {i : Nat}
theorem sn_lc2 (hc : X.calm = true) (hN : X.N.Nodup) (hN1 : X.N[i]? = some x) (hv : Vis X.env.scope x) (ok : BlkOk X.N X.env.scope scope own) (hix : own.map (·.2) = [t]) (io : ∀ a, c.io ≠ some (t, a)) (hit : ¬ i = t)
    (hg : ∀ (s : Shared) (H : Hp) (C : Addr) (cl : List (Str × Addr)) (fp : List Addr), PG (Bk X s H C cl fp scope) (.Name y p2) (gName t)) (ht : ∀ (s : Shared) (H : Hp) (C : Addr) (cl : List (Str × Addr)) (fp : List Addr), STs c.nox (Bk X s H C cl fp scope) ifs tt)
    (he : ∀ (s : Shared) (H : Hp) (C : Addr) (cl : List (Str × Addr)) (fp : List Addr), SE c.nox (Bk X s H C cl fp scope) elt ev) (hs : ∀ z, foldedSetIterable (.Name x p) X.env z = pure z := by intro _; rfl) (hlt : decide (t < c.n) = true := by rfl)
    (hd : (x == ("__debug__" : Str)) = false := by decide) (hcd : (x == ("__classdict__" : Str)) = false := by decide) :
    SN c X (.ListComp elt [⟨.Name y p2, .Name x p, ifs, 0⟩] scope pos) (lLc (itO2 i) (gAl t) [t] tt ev) := by
  refine ⟨pe_imp (pe_lc (te := tE (X.kc c) c.nox ev) (g := gName t) (tt := tT (X.kc c) c.nox tt) hc hN (pi_list (pe_var hN1 hv hd hcd)) ok hg (fun s H C cl fp => (ht s H C cl fp).pts) (fun s H C cl fp => (he s H C cl fp).pe) hs) fun σ H Q h => ?_⟩
  rw [hix]
  exact tLc2_of io (of_decide_eq_true hlt) hit h
end
end Pu

namespace Pu
open PySem PySem.Spec PyProof.Rows L2
/-! ### sorted(x), x a list of lists of ints -/
/-- the addresses by their lists, in order -/
def srtA (ns : Addr → List Int) (ps : List Addr) : List Addr := ps.mergeSort fun p q => decide (ns p ≤ ns q)
def rSortedR (K : PySem.W.Frag) : List V → Hp → VK → Prop := fun vs H Q => ∃ (a : Addr) (ps : List Addr) (ns : Addr → List Int), vs = [V.ref a] ∧ SqL K H a (ps.map V.ref) ∧ (∀ p ∈ ps, H p = some (.lst ((ns p).map V.int))) ∧
  ∀ q, H q = none → Q (.ref q) (upd H q (.lst ((srtA ns ps).map V.ref)))
theorem each_refs : ∀ {ps : List Addr} {us : List Value}, Vals (ps.map V.ref) us → PySem.W.EachIs (fun v (p : Addr) => v = Value.ref p) us ps
  | [], _, h => by cases h; exact .nil
  | p :: ps, _, h => by
    cases h with
    | cons r t => exact .cons r (each_refs t)
theorem vals_refs : ∀ {us : List Value} {ps : List Addr}, PySem.W.EachIs (fun v (p : Addr) => v = Value.ref p) us ps → Vals (ps.map V.ref) us
  | _, _, .nil => .nil
  | _, _, .cons h t => .cons h (vals_refs t)
theorem reads_ints {h : Heap} : ∀ {ns : List Int} {us : List Value}, Vals (ns.map V.int) us → ∃ as, ReadsAll h us (ns.map PyData.int) as
  | [], _, h => by cases h; exact ⟨_, .nil⟩
  | n :: ns, _, h => by
    cases h with
    | cons r t =>
      obtain ⟨t', rfl⟩ := r
      obtain ⟨as, q⟩ := reads_ints t
      exact ⟨_, .cons (.int n t') q⟩
theorem cr_sortedR {X : Cx} (hu : X.A.units + 64 < cLine) : CallR X (.builtin "sorted") (rSortedR X.K) := by
  intro pins s σ H vs us Q I r h
  obtain ⟨a, ps, ns, rfl, hs, hps, q⟩ := h
  obtain ⟨its, rv, hl, hz⟩ := I.list hs
  rw [Vals.ref1 r]
  have e := each_refs rv
  refine PySem.W.sorted_data (enc := fun p => .list ((ns p).map .int)) (R := fun v (p : Addr) => v = Value.ref p) hl.isList e ?_ ?_ ?_ ?_ ?_ fun out h1 h2 => ?_
  · refine (PySem.W.each_mem e).mono fun v p ⟨hv, hp⟩ => ?_
    subst hv
    obtain ⟨_, its2, ep, r2, ho⟩ := I.hok _ _ (hps p hp)
    obtain ⟨as, q2⟩ := reads_ints (h := s.heap) r2
    exact ⟨_, .list ho rfl rfl (by simpa using q2)⟩
  · exact PySem.W.AllAlike.of fun b b' => by simp [PySem.W.alike, PySem.W.alike_ints]
  · exact PySem.W.Sortable.others fun b => ⟨by simp, fun xs => by simp⟩
  · rw [List.length_map] at hz; exact hz
  · intro b _
    have : (PyData.list ((ns b).map .int)).depth = 1 := by simp [PyData.depth, PySem.W.depth_ints]
    rw [this]; omega
  · rw [PySem.W.dataLe_rows] at h2
    obtain ⟨ep, he'⟩ := PyProof.Rows.sortedAll_at s.heap its out.toArray
    have hlen : ((srtA ns ps).map V.ref).length ≤ sizeLine := by
      unfold srtA
      rw [List.length_map, List.length_mergeSort]
      rw [List.length_map] at hz
      exact hz
    exact ⟨.ref _, upd H (s.heap.objs.size + 1) (.lst ((srtA ns ps).map V.ref)), I.laid (t' := s.toks) (fun _ _ => PyProof.Rows.sortedAll_old) (Nat.le_succ _) ⟨hlen, out, ep, vals_refs h2, he'⟩, rfl, q _ (I.hok.fresh (Nat.le_succ _))⟩
end Pu

namespace Pu
open PySem PySem.Spec PyProof.Rows L2
/-- the numbers of an inner list -/
def intsOf (ρ : PEnv) (j : Nat) : Option (List Int) := match ρ[j]? with
  | some (.own ds) => ints? ds
  | _ => none
def keyOf (ρ : PEnv) (j : Nat) : List Int := (intsOf ρ j).getD []
/-- slots by their lists of numbers, in order -/
def srtJ (ρ : PEnv) (js : List Nat) : List Nat := js.mergeSort fun a b => decide (keyOf ρ a ≤ keyOf ρ b)
/-- x = sorted(y), y a list of lists of ints -/
def sSort2 (i k : Nat) : Sv := fun ρ => match ρ[k]? with
  | some (.own2 js) => if js.all (fun j => (intsOf ρ j).isSome) = true then .nx (ρ.set i (.own2 (srtJ ρ js))) else .stuck
  | _ => .stuck
theorem optmap_some {α β : Type} {f : α → β} : ∀ {xs : List α} {ys : List β}, xs.map (fun x => some (f x)) = ys.map some → xs.map f = ys
  | [], [], _ => rfl
  | [], _ :: _, h => by cases h
  | _ :: _, [], h => by cases h
  | x :: xs, y :: ys, h => by
    injection h with h1 h2
    injection h1 with h1
    rw [List.map_cons, h1, optmap_some h2]
def intV : V → Int
  | .int n => n
  | _ => 0
section
variable {c : Cc} {X : Cx} {pos pc p p2 p3 : Pos} {x y : Str} {i k : Nat}
theorem ss_sort2 (hu : X.A.units + 64 < cLine) (hg : Gl X "sorted") (hm : X.mg "sorted" = none) (hN : X.N.Nodup) (hN1 : X.N[k]? = some y := by rfl) (hv : Vis X.env.scope y := by first | exact Or.inl rfl | exact Or.inr (Or.inl rfl) | exact Or.inr (Or.inr rfl)) (hd : (y == ("__debug__" : Str)) = false := by decide)
    (hcd : (y == ("__classdict__" : Str)) = false := by decide)
    (hi : X.N[i]? = some x := by rfl) (hx : Loc X.env.scope x := by first | exact Or.inl rfl | exact Or.inr rfl) (io : ∀ a, c.io ≠ some (i, a) := by intro _ h; cases h)
    (hsE : starEach [Expr.Name y p2] X.env = (false, eval (Expr.Name y p2) X.env) :: starEach [] X.env := by rfl) (hpl : (backTo pc (starEach [] X.env)).any (·.1) = false := by rfl)
    (hs : swapsWith (.Call (.Name "sorted" p3) [.Name y p2] [] pc) (some (.Name x p)) pos.line X.env = pure false := by rfl) (hf : X.fn x = true ∨ X.env.scope.names.lookup x = some .local := by first | exact .inl rfl | exact .inr rfl | assumption) (hn : c.n = X.N.length := by rfl) :
    SS c X (.Assign [.Name x p] (.Call (.Name "sorted" p3) [.Name y p2] [] pc) pos) (sSort2 i k) := by
  refine ⟨ps_imp (ps_set hN hi hx (pe_callB (cr_sortedR hu) hg hm (by decide +kernel) (pa_cons (pe_var hN1 hv hd hcd) pa_nil hsE) (by decide) (by decide) hsE hpl) hs hf) fun D σ H ⟨F, ρ, r, q⟩ => ?_⟩
  unfold sSort2 at q
  split at q
  · rename_i js hk
    by_cases hall : js.all (fun j => (intsOf ρ j).isSome) = true
    · have q : FinS (X.kc c) c F (if js.all (fun j => (intsOf ρ j).isSome) = true then .nx (ρ.set i (.own2 (srtJ ρ js))) else .stuck) D := q
      rw [if_pos hall] at q
      obtain ⟨oa, h1, h2, h3, h4⟩ := r.sl
      obtain ⟨l, ps, o1, o2, o3, o4, o5⟩ := h1 k _ hk
      -- what the inner lists hold
      have inner : ∀ j ∈ js, ∀ q, oa j = some q → H q = some (.lst ((keyOf ρ j).map V.int)) := fun j hj q0 hq => by
        have := List.all_eq_true.mp hall j hj
        obtain ⟨ns, hns⟩ := Option.isSome_iff_exists.mp this
        unfold keyOf
        rw [hns]
        unfold intsOf at hns
        split at hns
        · rename_i ds hds
          obtain ⟨a, vs, e1, e2, e3, e4⟩ := h1 j _ hds
          rw [hq] at e1; cases e1
          have z1 := ints?_eq hns; subst z1
          rw [e3, e4.ints]; rfl
        · cases hns
      -- the numbers at an address
      let ns : Addr → List Int := fun q => match H q with
        | some (.lst vs) => vs.map intV
        | _ => []
      have hns : ∀ j ∈ js, ∀ q, oa j = some q → ns q = keyOf ρ j := fun j hj q0 hq => by
        show (match H q0 with | some (.lst vs) => vs.map intV | _ => []) = _
        rw [inner j hj q0 hq]
        simp [List.map_map, Function.comp_def, intV]
      have hps : ∀ p0 ∈ ps, ∃ j ∈ js, oa j = some p0 := fun p0 hp => by
        have : some p0 ∈ js.map oa := by rw [← o4]; exact List.mem_map_of_mem hp
        obtain ⟨j, hj, e⟩ := List.mem_map.mp this
        exact ⟨j, hj, e⟩
      refine ⟨.ref l, o2, l, ps, ns, rfl, .inl (.inl o3), fun p0 hp => ?_, fun p0 n => ?_⟩
      · obtain ⟨j, hj, e⟩ := hps p0 hp
        rw [inner j hj p0 e, hns j hj p0 e]
      · refine q _ _ F (Same.refl F) (r.setOwnG io (lt_n hn hi) n fun oa' g => ?_)
        obtain ⟨l', ps', u1, u2, u3, u4, u5⟩ := g k _ hk
        rw [o2] at u2; cases u2
        rw [o3] at u3
        have hq : ps.map V.ref = ps'.map V.ref := by injection (Option.some.inj u3)
        have hq2 := ref_inj hq
        subst hq2
        refine ⟨p0, srtA ns ps, rfl, rfl, upd_same, ?_, fun j hj => o5 j ((List.mem_mergeSort).mp hj)⟩
        let s : Option Addr → Option Addr → Bool := fun a b => match a, b with
          | some a, some b => decide (ns a ≤ ns b)
          | _, _ => false
        have e1 : (srtA ns ps).map some = (ps.map some).mergeSort s := List.map_mergeSort fun a _ b _ => rfl
        have e2 : (srtJ ρ js).map oa' = (js.map oa').mergeSort s := List.map_mergeSort fun a ha b hb => by
          have get : ∀ j ∈ js, ∃ q, oa' j = some q := fun j hj => by
            have : oa' j ∈ ps.map some := by rw [u4]; exact List.mem_map_of_mem hj
            obtain ⟨q, _, e⟩ := List.mem_map.mp this
            exact ⟨q, e.symm⟩
          have nsj : ∀ j ∈ js, ∀ q, oa' j = some q → ns q = keyOf ρ j := fun j hj q hq => by
            refine hns j hj q ?_
            have same : js.map oa = js.map oa' := by rw [← o4, ← u4]
            have := List.map_inj_left.mp same j hj
            rw [this]; exact hq
          obtain ⟨qa, ea⟩ := get a ha
          obtain ⟨qb, eb⟩ := get b hb
          show decide _ = s (oa' a) (oa' b)
          rw [ea, eb]
          show _ = decide (ns qa ≤ ns qb)
          rw [nsj a ha qa ea, nsj b hb qb eb]
        rw [e1, e2, u4]
    · have q : FinS (X.kc c) c F (if js.all (fun j => (intsOf ρ j).isSome) = true then .nx (ρ.set i (.own2 (srtJ ρ js))) else .stuck) D := q
      rw [if_neg hall] at q
      exact q.elim
  · exact q.elim
theorem pg_nm {t : Nat} {z : Str} (hN : X.N.Nodup) (hi : X.N[t]? = some z := by rfl) (hx : Loc X.env.scope z := by first | exact Or.inl rfl | exact Or.inr rfl)
    (hf : X.fn z = true ∨ X.env.scope.names.lookup z = some .local := by first | exact .inl rfl | exact .inr rfl | assumption) : PG X (.Name z p) (gName t) := pg_name hN hi hx hf
end
end Pu

namespace Pu
open PySem PySem.Spec PyProof.Rows L2
/-! ### the combinators, applied -/
section
variable (ρ : PEnv) (a b : Ev) (as bs ks : Av) (t u : Tv) (s s2 : Sv) (g : D → D → Option D) (f : D → Option D) (h : List D → Option D) (i : Nat) (gv : Gv) (Fn : List D → Res D)
@[simp] theorem eC_ap (d : D) : eC d ρ = .ok d := rfl
@[simp] theorem eN_ap : eN i ρ = match ρ[i]? with | some (.val d) => .ok d | _ => .stuck := rfl
@[simp] theorem eB_ap : eB i ρ = match ρ[i]? with | some (.val d) => .ok d | some (.own ds) => .ok (.lst ds) | _ => .stuck := rfl
@[simp] theorem e1_ap : e1 f a ρ = (a ρ).bind fun x => Res.of (f x) := rfl
@[simp] theorem e2_ap : e2 g a b ρ = (a ρ).bind fun x => (b ρ).bind fun y => Res.of (g x y) := rfl
@[simp] theorem aN_ap : aN ρ = .ok [] := rfl
@[simp] theorem aC_ap : aC a as ρ = (a ρ).bind fun x => (as ρ).bind fun xs => .ok (x :: xs) := rfl
@[simp] theorem aApp_ap : aApp as ks ρ = (as ρ).bind fun xs => (ks ρ).bind fun ys => .ok (xs ++ ys) := rfl
@[simp] theorem eF_ap : eF h as ρ = (as ρ).bind fun xs => Res.of (h xs) := rfl
@[simp] theorem eL_ap : eL as ρ = (as ρ).bind fun ds => .ok (.lst ds) := rfl
@[simp] theorem eT_ap : eT as ρ = (as ρ).bind fun ds => .ok (.tup ds) := rfl
@[simp] theorem asB_bl (x : Bool) : asB (.bl x) = .ok x := rfl
@[simp] theorem tV_ap : tV a ρ = (a ρ).bind asB := rfl
@[simp] theorem tAnd_ap : tAnd' t u ρ = (t ρ).bind fun x => if x = true then u ρ else .ok false := rfl
@[simp] theorem tOr_ap : tOr' t u ρ = (t ρ).bind fun x => if x = true then .ok true else u ρ := rfl
@[simp] theorem tNot_ap : tNot' t ρ = (t ρ).bind fun x => .ok (!x) := rfl
@[simp] theorem tYes_ap : tYes' ρ = .ok true := rfl
@[simp] theorem eIf_ap : eIf t a b ρ = (t ρ).bind fun x => if x = true then a ρ else b ρ := rfl
@[simp] theorem eCall_ap : eCall Fn as ρ = (as ρ).bind fun ds => (Fn ds).nx := rfl
@[simp] theorem eCallB_ap : eCallB Fn as ρ = (as ρ).bind fun ds => (Fn ds).nx.bind scal' := rfl
@[simp] theorem eCallX_ap : eCallX Fn as ρ = (as ρ).bind Fn := rfl
@[simp] theorem scal_int (n : Int) : scal' (.int n) = .ok (.int n) := rfl
@[simp] theorem scal_bl (n : Bool) : scal' (.bl n) = .ok (.bl n) := rfl
@[simp] theorem eMake_ap (C : Nat) (F : List D → Res (List (Str × D))) : eMake C F as ρ = (as ρ).bind fun ds => (F ds).nx.bind fun fs => .ok (.obj C fs) := rfl
@[simp] theorem eMeth_ap (C : Nat) (m : Str) : eMeth C m Fn a as ρ = (a ρ).bind fun x => if oOk C m x = true then (as ρ).bind fun ds => (Fn (x :: ds)).nx else .stuck := rfl
theorem eProp_ap (C : Nat) : eProp C Fn a ρ = (a ρ).bind fun x => match x with | .obj C' fs => if C' = C then (Fn [.obj C' fs]).nx else .stuck | _ => .stuck := rfl
@[simp] theorem sNil_ap : sNil ρ = .nx ρ := rfl
@[simp] theorem sSeq_ap : sSeq s s2 ρ = match s ρ with | .nx ρ' => s2 ρ' | o => o := rfl
@[simp] theorem sSet_ap : sSet i a ρ = Out.of (a ρ) fun d => .nx (ρ.set i (.val d)) := rfl
@[simp] theorem sOwn_ap : sOwn i as ρ = Out.of (as ρ) fun ds => if i < ρ.length then .nx (ρ.set i (.own ds)) else .stuck := rfl
@[simp] theorem sTo_ap : sTo gv a ρ = Out.of (a ρ) fun d => match gv d ρ with | some ρ' => .nx ρ' | none => .stuck := rfl
@[simp] theorem sIf_ap : sIf t s s2 ρ = Out.of (t ρ) fun x => if x = true then s ρ else s2 ρ := rfl
@[simp] theorem sRet_ap : sRet a ρ = Out.of (a ρ) .rt := rfl
@[simp] theorem sDrop_ap : sDrop a ρ = Out.of (a ρ) fun _ => .nx ρ := rfl
@[simp] theorem sFrz_ap : sFrz i s ρ = s (frz i ρ) := rfl
@[simp] theorem frz_ap : frz i ρ = match ρ[i]? with | some (.own ds) => ρ.set i (.val (.lst ds)) | _ => ρ := rfl
@[simp] theorem sApp_ap : sApp i a ρ = match ρ[i]? with | some (.own ds) => Out.of (a ρ) fun d => if ds.length < sizeLine then .nx (ρ.set i (.own (ds ++ [d]))) else .stuck | _ => .stuck := rfl
@[simp] theorem sAug_ap : sAug i g a ρ = match ρ[i]? with | some (.val d) => Out.of (a ρ) fun y => (match g d y with | some z => .nx (ρ.set i (.val z)) | none => .stuck) | _ => .stuck := rfl
@[simp] theorem sFor_ap : sFor as gv s ρ = Out.of (as ρ) fun ds => forS gv s ds ρ := rfl
@[simp] theorem gN_ap (d : D) : gN i d ρ = some (ρ.set i (.val d)) := rfl
@[simp] theorem gT_ap (is : List Nat) (ds : List D) : gT is (.tup ds) ρ = gTs is ds ρ := rfl
@[simp] theorem gTs_nil : gTs [] [] ρ = some ρ := rfl
@[simp] theorem gTs_cons (is : List Nat) (d : D) (ds : List D) : gTs (i :: is) (d :: ds) ρ = gTs is ds (ρ.set i (.val d)) := rfl
@[simp] theorem iS_ap : iS a ρ = (a ρ).bind asSeq := rfl
@[simp] theorem asSeq_lst (ds : List D) : asSeq (.lst ds) = .ok ds := rfl
@[simp] theorem asSeq_tup (ds : List D) : asSeq (.tup ds) = .ok ds := rfl
@[simp] theorem asSeq_str (z : Str) : asSeq (.str z) = .ok (z.cps.toList.map fun c => .str ⟨#[c]⟩) := rfl
@[simp] theorem iE_ap : iE as ρ = (as ρ).bind asE := rfl
@[simp] theorem asE_lst (ds : List D) : asE [.lst ds] = .ok (prs 0 ds) := rfl
@[simp] theorem asE_tup (ds : List D) : asE [.tup ds] = .ok (prs 0 ds) := rfl
@[simp] theorem iR1_ap : iR1 as ρ = (as ρ).bind asR1 := rfl
@[simp] theorem iR2_ap : iR2 as ρ = (as ρ).bind asR2 := rfl
@[simp] theorem lLc_ap (ix : List Nat) : lLc as gv ix t a ρ = (as ρ).bind fun ds => if ds.length ≤ sizeLine then lcGo gv t a (wipeR ρ ix) ds else .stuck := rfl
@[simp] theorem wipeR_nil : wipeR ρ [] = ρ := rfl
@[simp] theorem wipeR_cons (v : Nat) (vs : List Nat) : wipeR ρ (v :: vs) = (wipeR ρ vs).set v .un := rfl
@[simp] theorem eTupF_lst (ds : List D) (h : as ρ = .ok [.lst ds]) : eTupF as ρ = .ok (.tup ds) := by unfold eTupF; rw [h]; rfl
@[simp] theorem lList_ap : lList as ρ = (as ρ).bind fun xs => match xs with | [.lst ds] => if ds.length ≤ sizeLine then .ok ds else .stuck | [.tup ds] => if ds.length ≤ sizeLine then .ok ds else .stuck | _ => .stuck := rfl
@[simp] theorem lCat_ap : lCat a b ρ = (a ρ).bind fun x => (b ρ).bind fun y => match x, y with | .lst ds, .lst es => if ds.length + es.length ≤ sizeLine then .ok (ds ++ es) else .stuck | _, _ => .stuck := rfl
@[simp] theorem lSl_ap (lo hi : Ov) : lSl a lo hi ρ = (a ρ).bind fun x => (lo ρ).bind fun l => (hi ρ).bind fun h => match x with | .lst ds => if ds.length ≤ sizeLine then .ok (cutD ds l h) else .stuck | .scr ns => if ns.length ≤ sizeLine then .ok (cutD (ns.map D.int) l h) else .stuck | _ => .stuck := rfl
@[simp] theorem oN_ap : oN ρ = .ok none := rfl
@[simp] theorem oS_ap : oS a ρ = (a ρ).bind asI := rfl
@[simp] theorem asI_int (n : Int) : asI (.int n) = .ok (some n) := rfl
@[simp] theorem eCh_ap (g' : D → D → Option D) (d : Ev) : eCh g g' a b d ρ = (a ρ).bind fun x => (b ρ).bind fun y => (Res.of (g x y)).bind fun z => (asB z).bind fun k => if k = true then (d ρ).bind fun w => Res.of (g' y w) else .ok (.bl false) := rfl
end
section
variable (i j : Int) (x y : Bool) (s t : Str)
@[simp] theorem opAdd_int : opAdd (.int i) (.int j) = some (.int (i + j)) := rfl
@[simp] theorem opAddI_int : opAddI (.int i) (.int j) = some (.int (i + j)) := rfl
@[simp] theorem opSub_int : opSub (.int i) (.int j) = some (.int (i - j)) := rfl
@[simp] theorem opNeg_int : opNeg (.int i) = some (.int (-i)) := rfl
@[simp] theorem opLt_int : opLt (.int i) (.int j) = some (.bl (decide (i < j))) := rfl
@[simp] theorem opLe_int : opLe (.int i) (.int j) = some (.bl (decide (i ≤ j))) := rfl
@[simp] theorem opGt_int : opGt (.int i) (.int j) = some (.bl (decide (j < i))) := rfl
@[simp] theorem opGe_int : opGe (.int i) (.int j) = some (.bl (decide (j ≤ i))) := rfl
@[simp] theorem opEq_int : opEq (.int i) (.int j) = some (.bl (decide (i = j))) := rfl
@[simp] theorem opNe_int : opNe (.int i) (.int j) = some (.bl (!decide (i = j))) := rfl
@[simp] theorem opEq_str : opEq (.str s) (.str t) = some (.bl (decide (s = t))) := rfl
@[simp] theorem opNe_str : opNe (.str s) (.str t) = some (.bl (!decide (s = t))) := rfl
theorem opMul_of (h : -1000000000000 ≤ j ∧ j ≤ 1000000000000) : opMul (.int i) (.int j) = some (.int (i * j)) := by
  show (if (small64 j || small64 i) = true then _ else _) = _
  rw [if_pos]
  simp only [small64, Bool.or_eq_true, Bool.and_eq_true, decide_eq_true_eq]; omega
theorem opMul_of' (h : -1000000000000 ≤ i ∧ i ≤ 1000000000000) : opMul (.int i) (.int j) = some (.int (i * j)) := by
  show (if (small64 j || small64 i) = true then _ else _) = _
  rw [if_pos]
  simp only [small64, Bool.or_eq_true, Bool.and_eq_true, decide_eq_true_eq]; omega
theorem opDiv_of (h : 0 < j) (h2 : j < 1073741824) : opDiv (.int i) (.int j) = some (.int (i / j)) := by
  show (if divOk j = true then _ else _) = _
  rw [if_pos]
  simp [divOk, h, h2]
theorem opMod_of (h : 0 < j) : opMod (.int i) (.int j) = some (.int (i % j)) := by
  show (if decide (0 < j) = true then _ else _) = _
  rw [if_pos]
  simp [h]
@[simp] theorem opIsN_non : opIsN .non .non = some (.bl true) := rfl
@[simp] theorem opIsN_int : opIsN (.int i) .non = some (.bl false) := rfl
@[simp] theorem opIsN_obj (C : Nat) (fs : List (Str × D)) : opIsN (.obj C fs) .non = some (.bl false) := rfl
@[simp] theorem opNotN_non : opNotN .non .non = some (.bl false) := rfl
@[simp] theorem opNotN_int : opNotN (.int i) .non = some (.bl true) := rfl
@[simp] theorem opNotN_obj (C : Nat) (fs : List (Str × D)) : opNotN (.obj C fs) .non = some (.bl true) := rfl
@[simp] theorem fLen_lst (ds : List D) : fLen [.lst ds] = some (.int ds.length) := rfl
@[simp] theorem fLen_tup (ds : List D) : fLen [.tup ds] = some (.int ds.length) := rfl
@[simp] theorem fLen_scr (ds : List Int) : fLen [.scr ds] = some (.int ds.length) := rfl
@[simp] theorem fAbs_int : fAbs [.int i] = some (.int (if i < 0 then -i else i)) := rfl
@[simp] theorem fInt_int : fInt [.int i] = some (.int i) := rfl
@[simp] theorem fMax2_int : fMax2 [.int i, .int j] = some (.int (max i j)) := rfl
@[simp] theorem fMin2_int : fMin2 [.int i, .int j] = some (.int (min i j)) := rfl
@[simp] theorem fGcd_int : fGcd [.int i, .int j] = some (.int ((Nat.gcd i.natAbs j.natAbs : Nat) : Int)) := rfl
theorem fMaxL_map {ns : List Int} (h : ns ≠ []) : fMaxL [.lst (ns.map D.int)] = some (.int (maxL ns)) := by
  show ((ints? (ns.map D.int)).bind fun ns => _) = _
  rw [ints?_map]
  cases ns with
  | nil => exact absurd rfl h
  | cons n ns => rfl
theorem atI_nat {α : Type} {xs : List α} {n : Nat} (h : n < xs.length) : atI xs (n : Int) = xs[n]? := by
  unfold atI ixN
  rw [if_pos (by omega), if_pos (by omega)]
  simp
theorem ix_lst {ds : List D} {n : Nat} (h : n < ds.length) : opIx (.lst ds) (.int (n : Int)) = some ds[n] := by
  show atI ds _ = _
  rw [atI_nat h, List.getElem?_eq_getElem h]
theorem ix_tup {ds : List D} {n : Nat} (h : n < ds.length) : opIx (.tup ds) (.int (n : Int)) = some ds[n] := by
  show atI ds _ = _
  rw [atI_nat h, List.getElem?_eq_getElem h]
theorem ix_lst' {ds : List D} {i : Int} {n : Nat} {d : D} (hi : i = n) (h : ds[n]? = some d) : opIx (.lst ds) (.int i) = some d := by
  obtain ⟨hn, rfl⟩ := List.getElem?_eq_some_iff.mp h
  subst hi
  exact ix_lst hn
theorem ix_tup' {ds : List D} {i : Int} {n : Nat} {d : D} (hi : i = n) (h : ds[n]? = some d) : opIx (.tup ds) (.int i) = some d := by
  obtain ⟨hn, rfl⟩ := List.getElem?_eq_some_iff.mp h
  subst hi
  exact ix_tup hn
@[simp] theorem ix_t0 (a : D) (r : List D) : opIx (.tup (a :: r)) (.int 0) = some a := ix_tup' (n := 0) rfl rfl
@[simp] theorem ix_t1 (a b : D) (r : List D) : opIx (.tup (a :: b :: r)) (.int 1) = some b := ix_tup' (n := 1) rfl rfl
@[simp] theorem ix_t2 (a b c : D) (r : List D) : opIx (.tup (a :: b :: c :: r)) (.int 2) = some c := ix_tup' (n := 2) rfl rfl
theorem asR1_of (h : -1000000 ≤ i) (h2 : i ≤ 1000000) : asR1 [.int i] = .ok (rgD 0 i) := by
  show (if rgOk i = true then _ else _) = _
  rw [if_pos]
  simp only [rgOk, Bool.and_eq_true, decide_eq_true_eq]; omega
theorem asR2_of (h : -1000000 ≤ i) (h2 : i ≤ 1000000) (h3 : -1000000 ≤ j) (h4 : j ≤ 1000000) : asR2 [.int i, .int j] = .ok (rgD i j) := by
  show (if (rgOk i && rgOk j) = true then _ else _) = _
  rw [if_pos]
  simp only [rgOk, Bool.and_eq_true, decide_eq_true_eq]; omega
end
/-! ### loops -/
/-- a loop that runs through, or ends with what R says -/
theorem forS_ind {g : Gv} {body : Sv} (R : Out → Prop) : ∀ (ds : List D) (I : Nat → PEnv → Prop) (ρ : PEnv), I 0 ρ →
    (∀ i d ρ, ds[i]? = some d → I i ρ → ∃ ρ1, g d ρ = some ρ1 ∧ ((∃ ρ2, (body ρ1 = .nx ρ2 ∨ body ρ1 = .ct ρ2) ∧ I (i + 1) ρ2) ∨ (∃ o, body ρ1 = o ∧ (match o with | .rt _ => True | .exc _ _ => True | _ => False) ∧ R o))) →
    (∃ ρ', forS g body ds ρ = .nx ρ' ∧ I ds.length ρ') ∨ R (forS g body ds ρ)
  | [], I, ρ, h0, _ => .inl ⟨ρ, rfl, h0⟩
  | d :: ds, I, ρ, h0, hs => by
    obtain ⟨ρ1, e1, h⟩ := hs 0 d ρ rfl h0
    rcases h with ⟨ρ2, e2, h2⟩ | ⟨o, e2, ho, hr⟩
    · have ih := forS_ind R ds (fun i => I (i + 1)) ρ2 h2 (fun i d ρ e hi => hs (i + 1) d ρ (by simpa using e) hi)
      have e : forS g body (d :: ds) ρ = forS g body ds ρ2 := by
        unfold forS
        rw [e1]
        rcases e2 with e2 | e2
        · simp only [e2]; cases ds <;> rfl
        · simp only [e2]; cases ds <;> rfl
      rw [e]
      exact ih
    · right
      have e : forS g body (d :: ds) ρ = o := by
        unfold forS
        rw [e1]
        simp only [e2]
        cases o <;> first | rfl | exact ho.elim
      rw [e]
      exact hr
/-- a loop that runs through -/
theorem forS_thru {g : Gv} {body : Sv} (ds : List D) (I : Nat → PEnv → Prop) (ρ : PEnv) (h0 : I 0 ρ)
    (hs : ∀ i d ρ, ds[i]? = some d → I i ρ → ∃ ρ1 ρ2, g d ρ = some ρ1 ∧ (body ρ1 = .nx ρ2 ∨ body ρ1 = .ct ρ2) ∧ I (i + 1) ρ2) : ∃ ρ', forS g body ds ρ = .nx ρ' ∧ I ds.length ρ' := by
  rcases forS_ind (fun _ => False) ds I ρ h0 (fun i d ρ e hi => by
    obtain ⟨ρ1, ρ2, e1, e2, h2⟩ := hs i d ρ e hi
    exact ⟨ρ1, e1, .inl ⟨ρ2, e2, h2⟩⟩) with h | h
  · exact h
  · exact h.elim
/-- a comprehension without a test -/
theorem lcGo_map {α : Type} {g : Gv} {ev : Ev} {ρ : PEnv} {δ : α → D} (f : α → D) : ∀ (xs : List α), (∀ x ∈ xs, ∃ ρ1, g (δ x) ρ = some ρ1 ∧ ev ρ1 = .ok (f x)) → lcGo g tYes' ev ρ (xs.map δ) = .ok (xs.map f)
  | [], _ => rfl
  | x :: xs, h => by
    obtain ⟨ρ1, e1, e2⟩ := h x List.mem_cons_self
    have ih := lcGo_map (g := g) (ev := ev) (ρ := ρ) (δ := δ) f xs fun y hy => h y (List.mem_cons_of_mem _ hy)
    show (match g (δ x) ρ with
    | none => Res.stuck
    | some ρ1 => (tYes' ρ1).nx.bind fun b => if b = true then (ev ρ1).nx.bind fun y => (lcGo g tYes' ev ρ (xs.map δ)).bind fun ys => .ok (y :: ys) else lcGo g tYes' ev ρ (xs.map δ)) = _
    rw [e1]
    simp [e2, ih]
/-- .. with a test -/
theorem lcGo_filter {α : Type} {g : Gv} {tt : Tv} {ev : Ev} {ρ : PEnv} {δ : α → D} (p : α → Bool) (f : α → D) : ∀ (xs : List α), (∀ x ∈ xs, ∃ ρ1, g (δ x) ρ = some ρ1 ∧ tt ρ1 = .ok (p x) ∧ ev ρ1 = .ok (f x)) → lcGo g tt ev ρ (xs.map δ) = .ok ((xs.filter p).map f)
  | [], _ => rfl
  | x :: xs, h => by
    obtain ⟨ρ1, e1, e2, e3⟩ := h x List.mem_cons_self
    have ih := lcGo_filter (g := g) (tt := tt) (ev := ev) (ρ := ρ) (δ := δ) p f xs fun y hy => h y (List.mem_cons_of_mem _ hy)
    show (match g (δ x) ρ with
    | none => Res.stuck
    | some ρ1 => (tt ρ1).nx.bind fun b => if b = true then (ev ρ1).nx.bind fun y => (lcGo g tt ev ρ (xs.map δ)).bind fun ys => .ok (y :: ys) else lcGo g tt ev ρ (xs.map δ)) = _
    rw [e1]
    cases hp : p x <;> simp [e2, e3, ih, hp]
theorem runFn_eq {n m : Nat} {s : Sv} {ds : List D} {r : Res D} (hl : ds.length = n) (h : (s (ini m ds)).res = r) : runFn n m s ds = r := by
  unfold runFn
  rw [if_pos hl, h]
@[simp] theorem res_rt (d : D) : (Out.rt d).res = .ok d := rfl
@[simp] theorem res_nx (ρ : PEnv) : (Out.nx ρ).res = .ok .non := rfl
@[simp] theorem res_exc (C : Nat) (fs : List (Str × D)) : (Out.exc C fs).res = .exc C fs := rfl
theorem prs_map (ds : List D) : ∀ (k : Nat) (i : Nat) (d : D), (prs k ds)[i]? = some d → ∃ x, ds[i]? = some x ∧ d = .tup [.int ((k + i : Nat) : Int), x] := by
  intro k i d h
  have hl : i < ds.length := by
    have := (List.getElem?_eq_some_iff.mp h).1
    rwa [prs_len] at this
  refine ⟨ds[i], List.getElem?_eq_getElem hl, ?_⟩
  have := prs_get (i := k) (List.getElem?_eq_getElem hl)
  rw [this] at h
  exact (Option.some.inj h).symm
theorem rgD_some {lo hi : Int} {i : Nat} {d : D} (h : (rgD lo hi)[i]? = some d) : d = .int (lo + i) ∧ lo + i < hi := by
  have hl := (List.getElem?_eq_some_iff.mp h).1
  rw [rgD_length] at hl
  rw [rgD_get hl] at h
  exact ⟨(Option.some.inj h).symm, by omega⟩
theorem rg0_some {hi : Int} {i : Nat} {d : D} (h : (rgD 0 hi)[i]? = some d) : d = .int i ∧ (i : Int) < hi := by
  obtain ⟨h1, h2⟩ := rgD_some h
  rw [Int.zero_add] at h1 h2
  exact ⟨h1, h2⟩
end Pu

/-! the plain mathematics of demand tables -/
namespace Dem
/-- a task: its ways (source, target, distance), costs and deadlines by number -/
structure Sys where
  W : List (Nat × Nat × Nat)
  c : Nat → Int
  dl : Nat → Nat
/-- the table T of the task -/
structure Tab (S : Sys) (T : Nat → Nat → Int) (B : Nat → Nat → Int) : Prop where
  pos : ∀ w ∈ S.W, 1 ≤ w.2.2
  cp : ∀ i, 0 ≤ S.c i
  rec_ : ∀ L i, T L i = (if S.dl i ≤ L then S.c i else 0) + B L i
  b0 : ∀ L i, 0 ≤ B L i
  b1 : ∀ L w, w ∈ S.W → w.2.2 ≤ L → T (L - w.2.2) w.2.1 ≤ B L w.1
  b2 : ∀ L i, B L i = 0 ∨ ∃ w ∈ S.W, w.1 = i ∧ w.2.2 ≤ L ∧ B L i = T (L - w.2.2) w.2.1
variable {S : Sys} {T B : Nat → Nat → Int}
theorem Tab.nn (t : Tab S T B) (L i : Nat) : 0 ≤ T L i := by
  rw [t.rec_]
  have := t.b0 L i
  have := t.cp i
  split <;> omega
theorem Tab.mono1 (t : Tab S T B) : ∀ L i, T L i ≤ T (L + 1) i := by
  intro L
  induction L using Nat.strongRecOn with
  | _ L ih =>
    intro i
    have hb : B L i ≤ B (L + 1) i := by
      rcases t.b2 L i with h | ⟨w, hw, rfl, hd, e⟩
      · rw [h]; exact t.b0 _ _
      · have p := t.pos w hw
        have h1 := ih (L - w.2.2) (by omega) w.2.1
        have h2 := t.b1 (L + 1) w hw (by omega)
        have e2 : L + 1 - w.2.2 = L - w.2.2 + 1 := by omega
        rw [e2] at h2
        omega
    rw [t.rec_ L, t.rec_ (L + 1)]
    have := t.cp i
    split <;> split <;> omega
theorem Tab.mono (t : Tab S T B) {L L' : Nat} (h : L ≤ L') (i : Nat) : T L i ≤ T L' i := by
  induction h with
  | refl => exact Int.le_refl _
  | step _ ih => exact Int.le_trans ih (t.mono1 _ i)
/-- beyond h the table grows by no more than g in st steps -/
theorem Tab.upper (t : Tab S T B) {h st q D : Nat} {g : Int} (g0 : 0 ≤ g) (hst : 1 ≤ st) (hD : ∀ w ∈ S.W, w.2.2 ≤ q) (hr : D + q + st ≤ h) (hdl : ∀ w ∈ S.W, S.dl w.1 ≤ D ∧ S.dl w.2.1 ≤ D)
    (hg : ∀ below, below < q → ∀ w ∈ S.W, T (h - below) w.2.1 - T (h - below - st) w.2.1 ≤ g) :
    ∀ L, h < L → ∀ i, S.dl i ≤ D → T L i ≤ T (L - st) i + g := by
  intro L
  induction L using Nat.strongRecOn with
  | _ L ih =>
    intro hL i hi
    have key : B L i ≤ B (L - st) i + g := by
      rcases t.b2 L i with e | ⟨w, hw, rfl, hd, e⟩
      · rw [e]; have := t.b0 (L - st) i; omega
      · have p := t.pos w hw
        have hq := hD w hw
        have hb := t.b1 (L - st) w hw (by omega)
        have e2 : L - st - w.2.2 = L - w.2.2 - st := by omega
        rw [e2] at hb
        have : T (L - w.2.2) w.2.1 ≤ T (L - w.2.2 - st) w.2.1 + g := by
          by_cases hl : h < L - w.2.2
          · exact ih _ (by omega) hl _ (hdl w hw).2
          · have := hg (h - (L - w.2.2)) (by omega) w hw
            have e3 : h - (h - (L - w.2.2)) = L - w.2.2 := by omega
            rw [e3] at this
            omega
        omega
    rw [t.rec_ L, t.rec_ (L - st), if_pos (by omega), if_pos (by omega)]
    omega
/-- within the kept kinds it grows by g at least -/
theorem Tab.lower (t : Tab S T B) {h st q D : Nat} {g : Int} {P : Nat → Prop} (g0 : 0 ≤ g) (hst : 1 ≤ st) (hD : ∀ w ∈ S.W, w.2.2 ≤ q) (hr : D + q + st ≤ h) (hdl : ∀ w ∈ S.W, S.dl w.1 ≤ D ∧ S.dl w.2.1 ≤ D)
    (hP : ∀ i, P i → S.dl i ≤ D) (hg : ∀ below, below < q → ∀ w ∈ S.W, T (h - below) w.2.1 - T (h - below - st) w.2.1 ≤ g)
    (he : ∀ below, below < q → ∀ i, P i → T (h - below) i - T (h - below - st) i = g)
    (hw : ∀ L, h - st < L → L ≤ h → ∀ i, P i → (B L i = 0 ∧ g = 0) ∨ ∃ w ∈ S.W, w.1 = i ∧ w.2.2 ≤ L ∧ P w.2.1 ∧ B L i = T (L - w.2.2) w.2.1) :
    ∀ L, h < L → ∀ i, P i → T (L - st) i + g ≤ T L i := by
  -- the best continuation stays within the kept kinds for ever
  have main : ∀ L, h - st < L → ∀ i, P i → ((B L i = 0 ∧ g = 0) ∨ ∃ w ∈ S.W, w.1 = i ∧ w.2.2 ≤ L ∧ P w.2.1 ∧ B L i = T (L - w.2.2) w.2.1) ∧ (h < L → T (L - st) i + g ≤ T L i) := by
    intro L
    induction L using Nat.strongRecOn with
    | _ L ih =>
      intro hL i hi
      by_cases hl : h < L
      · have hdi := hP i hi
        have up := t.upper g0 hst hD hr hdl hg L hl i hdi
        rcases (ih (L - st) (by omega) (by omega) i hi).1 with ⟨e0, eg⟩ | ⟨w, hw', rfl, hd, hPw, e⟩
        · -- nothing is continued, g = 0
          subst eg
          have hm := t.mono (show L - st ≤ L by omega) i
          refine ⟨.inl ⟨?_, rfl⟩, fun _ => by omega⟩
          have h1 := t.rec_ L i
          have h2 := t.rec_ (L - st) i
          rw [if_pos (by omega)] at h1 h2
          omega
        · have p := t.pos w hw'
          have hq := hD w hw'
          have low : T (L - w.2.2 - st) w.2.1 + g ≤ T (L - w.2.2) w.2.1 := by
            by_cases hl2 : h < L - w.2.2
            · exact (ih _ (by omega) (by omega) _ hPw).2 hl2
            · have := he (h - (L - w.2.2)) (by omega) _ hPw
              have e3 : h - (h - (L - w.2.2)) = L - w.2.2 := by omega
              rw [e3] at this
              omega
          have hb := t.b1 L w hw' (by omega)
          have e2 : L - st - w.2.2 = L - w.2.2 - st := by omega
          rw [e2] at e
          have h1 := t.rec_ L w.1
          have h2 := t.rec_ (L - st) w.1
          rw [if_pos (by omega)] at h1 h2
          refine ⟨.inr ⟨w, hw', rfl, by omega, hPw, by omega⟩, fun _ => by omega⟩
      · exact ⟨hw L hL (by omega) i hi, fun z => absurd z hl⟩
  exact fun L hL i hi => (main L (by omega) i hi).2 hL
/-- one task stands in for another, for ever -/
theorem stand {S1 S2 : Sys} {M B1 T B2 : Nat → Nat → Int} (t1 : Tab S1 M B1) (t2 : Tab S2 T B2) {h st q1 q2 D D2 : Nat} {g : Int} {P : Nat → Prop} {n1 : Nat} (g0 : 0 ≤ g) (hst : 1 ≤ st)
    (hD1 : ∀ w ∈ S1.W, w.2.2 ≤ q1) (hD2 : ∀ w ∈ S2.W, w.2.2 ≤ q2) (hr1 : D + q1 + st ≤ h) (hr2 : D2 + q2 + st ≤ h) (hdl1 : ∀ i, i < n1 → S1.dl i ≤ D) (hw1 : ∀ w ∈ S1.W, w.1 < n1 ∧ w.2.1 < n1) (hdl2 : ∀ w ∈ S2.W, S2.dl w.1 ≤ D2 ∧ S2.dl w.2.1 ≤ D2)
    (hP : ∀ i, P i → S2.dl i ≤ D2)
    (hg1 : ∀ below, below < q1 → ∀ i, i < n1 → M (h - below) i - M (h - below - st) i ≤ g)
    (hg2 : ∀ below, below < q2 → ∀ w ∈ S2.W, T (h - below) w.2.1 - T (h - below - st) w.2.1 ≤ g)
    (he : ∀ below, below < q2 → ∀ i, P i → T (h - below) i - T (h - below - st) i = g)
    (hw : ∀ L, h - st < L → L ≤ h → ∀ i, P i → (B2 L i = 0 ∧ g = 0) ∨ ∃ w ∈ S2.W, w.1 = i ∧ w.2.2 ≤ L ∧ P w.2.1 ∧ B2 L i = T (L - w.2.2) w.2.1)
    (hx : ∀ L, h - st < L → L ≤ h → ∀ i, i < n1 → ∃ j, P j ∧ M L i ≤ T L j) :
    ∀ L, h - st < L → ∀ i, i < n1 → ∃ j, P j ∧ M L i ≤ T L j := by
  intro L
  induction L using Nat.strongRecOn with
  | _ L ih =>
    intro hL i hi
    by_cases hl : h < L
    · obtain ⟨j, hj, hle⟩ := ih (L - st) (by omega) (by omega) i hi
      have up := t1.upper g0 hst hD1 hr1 (fun w hw => ⟨hdl1 _ (hw1 w hw).1, hdl1 _ (hw1 w hw).2⟩) (fun below hb w hw => hg1 below hb _ (hw1 w hw).2) L hl i (hdl1 i hi)
      have low := t2.lower g0 hst hD2 hr2 hdl2 hP hg2 he hw L hl j hj
      exact ⟨j, hj, by omega⟩
    · exact hx L hL (by omega) i hi
end Dem

/-! the work of a course is no more than the demand -/
namespace Dem
variable {S : Sys} {T B : Nat → Nat → Int}
/-- releases (time, kind), each by a way behind the one before -/
def Chain (S : Sys) : List (Nat × Nat) → Prop
  | [] => True
  | [_] => True
  | r :: r' :: l => (∃ w ∈ S.W, w.1 = r.2 ∧ w.2.1 = r'.2 ∧ r.1 + w.2.2 ≤ r'.1) ∧ Chain S (r' :: l)
def work (S : Sys) (s e : Nat) : List (Nat × Nat) → Int
  | [] => 0
  | r :: l => (if s ≤ r.1 ∧ r.1 + S.dl r.2 ≤ e then S.c r.2 else 0) + work S s e l
theorem work_in (t : Tab S T B) {s e : Nat} : ∀ (l : List (Nat × Nat)) (r : Nat × Nat), Chain S (r :: l) → s ≤ r.1 → work S s e (r :: l) ≤ (if r.1 ≤ e then T (e - r.1) r.2 else 0)
  | [], r, _, hs => by
    show (if s ≤ r.1 ∧ r.1 + S.dl r.2 ≤ e then S.c r.2 else 0) + 0 ≤ _
    have h1 := t.rec_ (e - r.1) r.2
    have h2 := t.b0 (e - r.1) r.2
    have h3 := t.cp r.2
    have h4 := t.nn (e - r.1) r.2
    by_cases h : r.1 ≤ e
    · rw [if_pos h]
      by_cases h' : r.1 + S.dl r.2 ≤ e
      · rw [if_pos ⟨hs, h'⟩]; rw [if_pos (by omega)] at h1; omega
      · rw [if_neg (fun z => h' z.2)]; omega
    · rw [if_neg h, if_neg (fun z => by omega)]; omega
  | r' :: l, r, hc, hs => by
    obtain ⟨⟨w, hw, e1, e2, hd⟩, hc'⟩ := hc
    have ih := work_in t (s := s) (e := e) l r' hc' (by omega)
    show (if s ≤ r.1 ∧ r.1 + S.dl r.2 ≤ e then S.c r.2 else 0) + work S s e (r' :: l) ≤ _
    have h1 := t.rec_ (e - r.1) r.2
    have h2 := t.b0 (e - r.1) r.2
    have h3 := t.cp r.2
    have p := t.pos w hw
    by_cases h : r.1 ≤ e
    · rw [if_pos h]
      have hb : work S s e (r' :: l) ≤ B (e - r.1) r.2 := by
        by_cases h' : r'.1 ≤ e
        · rw [if_pos h'] at ih
          have b := t.b1 (e - r.1) w hw (by omega)
          rw [e1, e2] at b
          have m := t.mono (show e - r'.1 ≤ e - r.1 - w.2.2 by omega) r'.2
          omega
        · rw [if_neg h'] at ih; omega
      by_cases h' : r.1 + S.dl r.2 ≤ e
      · rw [if_pos ⟨hs, h'⟩]; rw [if_pos (by omega)] at h1; omega
      · rw [if_neg (fun z => h' z.2)]; rw [if_neg (by omega)] at h1; omega
    · rw [if_neg h]
      rw [if_neg (show ¬ r'.1 ≤ e by omega)] at ih
      rw [if_neg (fun z => by omega)]
      omega
theorem work_le (t : Tab S T B) {s e : Nat} : ∀ (l : List (Nat × Nat)), Chain S l → work S s e l ≤ 0 ∨ ∃ r ∈ l, work S s e l ≤ T (e - s) r.2
  | [], _ => .inl (Int.le_refl 0)
  | r :: l, hc => by
    by_cases hs : s ≤ r.1
    · have h := work_in t (s := s) (e := e) l r hc hs
      by_cases h' : r.1 ≤ e
      · rw [if_pos h'] at h
        have m := t.mono (show e - r.1 ≤ e - s by omega) r.2
        exact .inr ⟨r, List.mem_cons_self, Int.le_trans h m⟩
      · rw [if_neg h'] at h; exact .inl h
    · have e0 : work S s e (r :: l) = work S s e l := by
        show (if s ≤ r.1 ∧ r.1 + S.dl r.2 ≤ e then S.c r.2 else 0) + work S s e l = _
        rw [if_neg (fun z => hs z.1)]; omega
      rw [e0]
      have hc' : Chain S l := by
        cases l with
        | nil => trivial
        | cons r' l => exact hc.2
      rcases work_le t (s := s) (e := e) l hc' with h | ⟨r', h1, h2⟩
      · exact .inl h
      · exact .inr ⟨r', List.mem_cons_of_mem _ h1, h2⟩
end Dem

namespace G90
open PySem PySem.Spec PyProof.Rows L2 Pu

-- make_ratio(top, bottom); names 0:top, 1:bottom, 2:divisor
def body_make_ratio : Sv :=
    (sSeq (sIf (tV (e2 opEq (eN 1) (eC (.int 0)))) (fun _ => .stuck) sNil)
    (sSeq (sIf (tV (e2 opLt (eN 1) (eC (.int 0)))) (sSeq (sSet 0 (e1 opNeg (eN 0)))
    (sSet 1 (e1 opNeg (eN 1)))) sNil)
    (sSeq (sSet 2 (eF fGcd (aC (eN 0) (aC (eN 1) aN))))
    (sRet (eT (aC (e2 opDiv (eN 0) (eN 2)) (aC (e2 opDiv (eN 1) (eN 2)) aN)))))))
def Fn_make_ratio : List D → Res D := runFn 2 3 body_make_ratio
-- compare_ratios(first, second); names 0:first, 1:second, 2:left, 3:right
def body_compare_ratios : Sv :=
    (sSeq (sSet 2 (e2 opMul (e2 opIx (eN 0) (eC (.int 0))) (e2 opIx (eN 1) (eC (.int 1)))))
    (sSeq (sSet 3 (e2 opMul (e2 opIx (eN 1) (eC (.int 0))) (e2 opIx (eN 0) (eC (.int 1)))))
    (sSeq (sIf (tV (e2 opLt (eN 2) (eN 3))) (sRet (e1 opNeg (eC (.int 1)))) sNil)
    (sSeq (sIf (tV (e2 opGt (eN 2) (eN 3))) (sRet (eC (.int 1))) sNil)
    (sRet (eC (.int 0)))))))
def Fn_compare_ratios : List D → Res D := runFn 2 4 body_compare_ratios
-- own_work(kind, size); names 0:kind, 1:size
def body_own_work : Sv :=
    (sSeq (sIf (tV (e2 opLe (e2 opIx (eN 0) (eC (.int 2))) (eN 1))) (sRet (e2 opIx (eN 0) (eC (.int 1)))) sNil)
    (sRet (eC (.int 0))))
def Fn_own_work : List D → Res D := runFn 2 2 body_own_work
-- is_name(text); names 0:text, 1:char
def body_is_name : Sv :=
    (sSeq (sIf (tNot' (tV (eCh opLe opLe (eC (.int 1)) (eF fLen (aC (eN 0) aN)) (eC (.int 12))))) (sRet (eC (.bl false))) sNil)
    (sRet (eF fAll (aC (eL (lLc (iS (eN 0)) (gN 1) [1] tYes' (e2 opIn (eN 1) (eC (.str "abcdefghijklmnopqrstuvwxyz0123456789"))))) aN))))
def Fn_is_name : List D → Res D := runFn 1 2 body_is_name
-- are_ways(ways, kind_names); names 0:ways, 1:kind_names, 2:source, 3:target, 4:distance
def body_are_ways : Sv :=
    (sSeq (sIf (tV (e2 opGt (eF fLen (aC (eN 0) aN)) (eC (.int 16)))) (sRet (eC (.bl false))) sNil)
    (sSeq (sFor (iS (eN 0)) (gT [2, 3, 4]) (sSeq (sIf (tOr' (tV (e2 opNotIn (eN 2) (eN 1))) (tV (e2 opNotIn (eN 3) (eN 1)))) (sRet (eC (.bl false))) sNil)
    (sIf (tNot' (tV (eCh opLe opLe (eC (.int 1)) (eN 4) (eC (.int 1000))))) (sRet (eC (.bl false))) sNil)))
    (sRet (eC (.bl true)))))
def Fn_are_ways : List D → Res D := runFn 2 5 body_are_ways
-- Task.longest_distance(self); names 0:self, 1:way
def body_Task_longest_distance : Sv :=
    (sRet (eMaxD (aC (eL (lLc (iS (e1 (fld 0 "ways") (eN 0))) (gN 1) [1] tYes' (e2 opIx (eN 1) (eC (.int 2))))) aN) (eC (.int 0))))
def Fn_Task_longest_distance : List D → Res D := runFn 1 2 body_Task_longest_distance
-- Task.latest_deadline(self); names 0:self, 1:kind
def body_Task_latest_deadline : Sv :=
    (sRet (eF fMaxL (aC (eL (lLc (iS (e1 (fld 0 "kinds") (eN 0))) (gN 1) [1] tYes' (e2 opIx (eN 1) (eC (.int 2))))) aN)))
def Fn_Task_latest_deadline : List D → Res D := runFn 1 2 body_Task_latest_deadline
-- Task.kind_number(self, kind_name); names 0:self, 1:kind_name, 2:number, 3:kind
def body_Task_kind_number : Sv :=
    (sSeq (sFor (iE (aC (e1 (fld 0 "kinds") (eN 0)) aN)) (gT [2, 3]) (sIf (tV (e2 opEq (e2 opIx (eN 3) (eC (.int 0))) (eN 1))) (sRet (eN 2)) sNil))
    (fun _ => .stuck))
def Fn_Task_kind_number : List D → Res D := runFn 2 4 body_Task_kind_number
-- Part.__init__(self, length, cost, table); names 0:self, 1:length, 2:cost, 3:table
def body_Part_init : Sv :=
    (sSeq (sFldC 1 0 "length" (eN 1))
    (sSeq (sFldC 1 0 "cost" (eN 2))
    (sFldC 1 0 "table" (eL (lList (aC (eN 3) aN))))))
def Fn_Part_init : List D → Res (List (Str × D)) := runIn 1 4 4 body_Part_init
-- grows_alike(found, kept, length, count, step, growth); names 0:found, 1:kept, 2:length, 3:count, 4:step, 5:growth, 6:below, 7:upper, 8:lower, 9:number, 10:value
def body_grows_alike : Sv :=
    (sSeq (sFor (iR1 (aC (eN 3) aN)) (gN 6) (sSeq (sSet 7 (e2 opIx (eN 0) (e2 opSub (eN 2) (eN 6))))
    (sSeq (sSet 8 (e2 opIx (eN 0) (e2 opSub (e2 opSub (eN 2) (eN 6)) (eN 4))))
    (sFor (iE (aC (eN 7) aN)) (gT [9, 10]) (sSeq (sIf (tV (e2 opGt (e2 opSub (eN 10) (e2 opIx (eN 8) (eN 9))) (eN 5))) (sRet (eC (.bl false))) sNil)
    (sIf (tAnd' (tV (e2 opIn (eN 9) (eN 1))) (tV (e2 opNe (e2 opSub (eN 10) (e2 opIx (eN 8) (eN 9))) (eN 5)))) (sRet (eC (.bl false))) sNil))))))
    (sRet (eC (.bl true))))
def Fn_grows_alike : List D → Res D := runFn 6 11 body_grows_alike
-- _law_row(_law_cell, _law_many); names 0:_law_cell, 1:_law_many, 2:_law_row_here, 3:_law_rest, 4:_law_k, 5:_law_mixed
def body_law_row : Sv :=
    (sSeq (sOwn 2 aN)
    (sSeq (sSet 3 (eF fAbs (aC (eN 0) aN)))
    (sSeq (sFor (iR1 (aC (eN 1) aN)) (gN 4) (sIf (tV (e2 opGe (eF fAbs (aC (eN 0) aN)) (e2 opPow (eC (.int 10)) (eC (.int 18))))) (sSeq (sApp 2 (e2 opMod (eF fInt (aC (eN 3) aN)) (eC (.int 1009))))
    (sSet 3 (e2 opDiv (eN 3) (eC (.int 1009))))) (sSeq (sSet 5 (e2 opMod (eF fInt (aC (e2 opAdd (e2 opMul (eN 3) (eC (.int 48271))) (e2 opMul (e2 opAdd (eN 4) (eC (.int 1))) (eC (.int 69621)))) aN)) (eC (.int 2147483647))))
    (sSeq (sSet 5 (e2 opMod (eF fInt (aC (e2 opAdd (e2 opMul (eN 5) (eC (.int 16807))) (e2 opMul (eC (.int 271)) (e2 opAdd (eN 4) (eC (.int 3))))) aN)) (eC (.int 2147483629))))
    (sApp 2 (e2 opMod (eF fInt (aC (eN 5) aN)) (eC (.int 1009))))))))
    (sFrz 2 (sRet (eN 2))))))
def Fn_law_row : List D → Res D := runFn 2 6 body_law_row
-- _law_pick(_law_numbers_here, _law_at, _law_count); names 0:_law_numbers_here, 1:_law_at, 2:_law_count
def body_law_pick : Sv :=
    (sRet (e2 opMod (eF fInt (aC (e2 opIx (eN 0) (eN 1)) aN)) (eN 2)))
def Fn_law_pick : List D → Res D := runFn 3 3 body_law_pick
-- _law_scale(_law_numbers_here); names 0:_law_numbers_here, 1:_law_last
def body_law_scale : Sv :=
    (sSeq (sSet 1 (eF fInt (aC (e2 opIx (eN 0) (e2 opSub (eF fLen (aC (eN 0) aN)) (eC (.int 1)))) aN)))
    (sRet (e2 opIx (eL (aC (eC (.int 1)) (aC (eC (.int 1)) (aC (e2 opAdd (eC (.int 1)) (e2 opMod (eF fInt (aC (e2 opDiv (eN 1) (eC (.int 3))) aN)) (eC (.int 249)))) aN)))) (e2 opMod (eF fInt (aC (eN 1) aN)) (eC (.int 3))))))
def Fn_law_scale : List D → Res D := runFn 1 2 body_law_scale
-- _law_name(_law_numbers_here, _law_k); names 0:_law_numbers_here, 1:_law_k, 2:_law_chars, 3:_law_seed, 4:_law_word, 5:_law_cut, 6:_law_j
def body_law_name : Sv :=
    (sSeq (sSet 2 (eC (.str "abcdefghijklmnopqrstuvwxyz0123456789")))
    (sSeq (sSet 3 (eF fInt (aC (e2 opIx (eN 0) (e2 opSub (eF fLen (aC (eN 0) aN)) (eC (.int 2)))) aN)))
    (sSeq (sSet 4 (eJoin (eC (.str "")) (eL (lLc (iR1 (aC (e2 opMod (eF fInt (aC (eN 3) aN)) (eC (.int 5))) aN)) (gN 6) [6] tYes' (e2 opIx (eN 2) (e2 opMod (eF fInt (aC (e2 opAdd (e2 opAdd (e2 opDiv (eN 3) (eC (.int 5))) (e2 opMul (eC (.int 7)) (eN 6))) (e2 opMul (eN 3) (eN 6))) aN)) (eC (.int 36))))))))
    (sSeq (sSet 5 (e2 opMod (eF fInt (aC (e2 opIx (eN 0) (e2 opSub (eF fLen (aC (eN 0) aN)) (eC (.int 3)))) aN)) (e2 opAdd (eF fLen (aC (eN 4) aN)) (eC (.int 1)))))
    (sRet (e2 opAdd (e2 opAdd (eSlS (eN 4) oN (oS (eN 5))) (e2 opIx (eC (.str "kq3zx9")) (eN 1))) (eSlS (eN 4) (oS (eN 5)) oN)))))))
def Fn_law_name : List D → Res D := runFn 2 7 body_law_name
-- _law_number(_law_kinds_here, _law_name_here); names 0:_law_kinds_here, 1:_law_name_here, 2:_law_number_here
def body_law_number : Sv :=
    (sSeq (sFor (iR1 (aC (eF fLen (aC (eN 0) aN)) aN)) (gN 2) (sIf (tV (e2 opEq (e2 opIx (e2 opIx (eN 0) (eN 2)) (eC (.int 0))) (eN 1))) (sRet (eN 2)) sNil))
    (sRet (eC (.int 0))))
def Fn_law_number : List D → Res D := runFn 2 3 body_law_number
-- are_kinds(kinds); names 0:kinds, 1:seen, 2:name, 3:cost, 4:deadline
def body_are_kinds : Sv :=
    (sSeq (sIf (tNot' (tV (eCh opLe opLe (eC (.int 1)) (eF fLen (aC (eN 0) aN)) (eC (.int 8))))) (sRet (eC (.bl false))) sNil)
    (sSeq (sOwn 1 aN)
    (sSeq (sFor (iS (eN 0)) (gT [2, 3, 4]) (sSeq (sIf (tOr' (tNot' (tV (eCall Fn_is_name (aC (eN 2) aN)))) (tV (e2 opIn (eN 2) (eB 1)))) (sRet (eC (.bl false))) sNil)
    (sSeq (sIf (tOr' (tNot' (tV (eCh opLe opLe (eC (.int 1)) (eN 3) (eC (.int 1000))))) (tNot' (tV (eCh opLe opLe (eC (.int 1)) (eN 4) (eC (.int 1000)))))) (sRet (eC (.bl false))) sNil)
    (sApp 1 (eN 2)))))
    (sRet (eC (.bl true))))))
def Fn_are_kinds : List D → Res D := runFn 1 5 body_are_kinds
-- Task.cost(self, kind_name); names 0:self, 1:kind_name
def body_Task_cost : Sv :=
    (sRet (e2 opIx (e2 opIx (e1 (fld 0 "kinds") (eN 0)) (eMeth 0 "kind_number" Fn_Task_kind_number (eN 0) (aC (eN 1) aN))) (eC (.int 1))))
def Fn_Task_cost : List D → Res D := runFn 2 2 body_Task_cost
-- Task.ways_from(self, kind_name); names 0:self, 1:kind_name, 2:way
def body_Task_ways_from : Sv :=
    (sSeq (sDrop (eMeth 0 "kind_number" Fn_Task_kind_number (eN 0) (aC (eN 1) aN)))
    (sRet (eL (lLc (iS (e1 (fld 0 "ways") (eN 0))) (gN 2) [2] (tV (e2 opEq (e2 opIx (eN 2) (eC (.int 0))) (eN 1))) (eT (aC (e2 opIx (eN 2) (eC (.int 1))) (aC (e2 opIx (eN 2) (eC (.int 2))) aN)))))))
def Fn_Task_ways_from : List D → Res D := runFn 2 3 body_Task_ways_from
-- _law_numbers(_law_script, _law_many); names 0:_law_script, 1:_law_many, 2:_law_cells, 3:_law_each, 4:_law_numbers_here, 5:_law_cell, 6:_law_number_here
def body_law_numbers : Sv :=
    (sSeq (sSet 2 (eL (lSl (eN 0) oN (oS (eC (.int 63))))))
    (sSeq (sSet 3 (e2 opAdd (eC (.int 1)) (e2 opDiv (eN 1) (eF fMax2 (aC (eC (.int 1)) (aC (eF fLen (aC (eN 2) aN)) aN))))))
    (sSeq (sOwn 4 aN)
    (sSeq (sFor (iS (eN 2)) (gN 5) (sFor (iS (eCall Fn_law_row (aC (eN 5) (aC (eN 3) aN)))) (gN 6) (sApp 4 (eN 6))))
    (sSeq (whileS (tV (e2 opLt (eF fLen (aC (eB 4) aN)) (eN 1))) (sApp 4 (eC (.int 0))) 200)
    (sRet (eL (lSl (eB 4) oN (oS (eN 1))))))))))
def Fn_law_numbers : List D → Res D := runFn 2 7 body_law_numbers
-- _law_kinds(_law_numbers_here, _law_at, _law_most); names 0:_law_numbers_here, 1:_law_at, 2:_law_most, 3:_law_kinds_here, 4:_law_k, 5:_law_cost
def body_law_kinds : Sv :=
    (sSeq (sOwn 3 aN)
    (sSeq (sFor (iR1 (aC (e2 opAdd (eC (.int 1)) (eCall Fn_law_pick (aC (eN 0) (aC (eN 1) (aC (eN 2) aN))))) aN)) (gN 4) (sSeq (sSet 5 (e2 opMul (eCall Fn_law_scale (aC (eN 0) aN)) (e2 opAdd (eC (.int 1)) (eCall Fn_law_pick (aC (eN 0) (aC (e2 opAdd (e2 opAdd (eN 1) (eC (.int 1))) (e2 opMul (eC (.int 2)) (eN 4))) (aC (eC (.int 4)) aN)))))))
    (sApp 3 (eT (aC (eCall Fn_law_name (aC (eN 0) (aC (eN 4) aN))) (aC (eN 5) (aC (e2 opAdd (eC (.int 1)) (eCall Fn_law_pick (aC (eN 0) (aC (e2 opAdd (e2 opAdd (eN 1) (eC (.int 2))) (e2 opMul (eC (.int 2)) (eN 4))) (aC (eC (.int 9)) aN))))) aN)))))))
    (sFrz 3 (sRet (eN 3)))))
def Fn_law_kinds : List D → Res D := runFn 3 6 body_law_kinds
-- _law_ways(_law_numbers_here, _law_at, _law_kinds_here, _law_most); names 0:_law_numbers_here, 1:_law_at, 2:_law_kinds_here, 3:_law_most, 4:_law_ways_here, 5:_law_k, 6:_law_source, 7:_law_target
def body_law_ways : Sv :=
    (sSeq (sOwn 4 aN)
    (sSeq (sFor (iR1 (aC (eCall Fn_law_pick (aC (eN 0) (aC (eN 1) (aC (e2 opAdd (eN 3) (eC (.int 1))) aN)))) aN)) (gN 5) (sSeq (sSet 6 (e2 opIx (e2 opIx (eN 2) (eCall Fn_law_pick (aC (eN 0) (aC (e2 opAdd (e2 opAdd (eN 1) (eC (.int 1))) (e2 opMul (eC (.int 3)) (eN 5))) (aC (eF fLen (aC (eN 2) aN)) aN))))) (eC (.int 0))))
    (sSeq (sSet 7 (e2 opIx (e2 opIx (eN 2) (eCall Fn_law_pick (aC (eN 0) (aC (e2 opAdd (e2 opAdd (eN 1) (eC (.int 2))) (e2 opMul (eC (.int 3)) (eN 5))) (aC (eF fLen (aC (eN 2) aN)) aN))))) (eC (.int 0))))
    (sApp 4 (eT (aC (eN 6) (aC (eN 7) (aC (e2 opAdd (eC (.int 1)) (eCall Fn_law_pick (aC (eN 0) (aC (e2 opAdd (e2 opAdd (eN 1) (eC (.int 3))) (e2 opMul (eC (.int 3)) (eN 5))) (aC (eC (.int 6)) aN))))) aN))))))))
    (sFrz 4 (sRet (eN 4)))))
def Fn_law_ways : List D → Res D := runFn 4 8 body_law_ways
-- _law_course(_law_numbers_here, _law_at, _law_kinds_here, _law_ways_here, _law_many); names 0:_law_numbers_here, 1:_law_at, 2:_law_kinds_here, 3:_law_ways_here, 4:_law_many, 5:_law_kind, 6:_law_time, 7:_law_course_here, 8:_law_k, 9:_law_choices, 10:_law_way
def body_law_course : Sv :=
    (sSeq (sSet 5 (e2 opIx (e2 opIx (eN 2) (eCall Fn_law_pick (aC (eN 0) (aC (eN 1) (aC (eF fLen (aC (eN 2) aN)) aN))))) (eC (.int 0))))
    (sSeq (sSet 6 (eCall Fn_law_pick (aC (eN 0) (aC (e2 opAdd (eN 1) (eC (.int 1))) (aC (eC (.int 4)) aN)))))
    (sSeq (sOwn 7 (aC (eT (aC (eN 6) (aC (eN 5) aN))) aN))
    (sSeq (sFor (iR1 (aC (e2 opSub (eN 4) (eC (.int 1))) aN)) (gN 8) (sSeq (sSet 9 (eL (lLc (iS (eN 3)) (gN 10) [10] (tV (e2 opEq (e2 opIx (eN 10) (eC (.int 0))) (eN 5))) (eN 10))))
    (sSeq (sIf (tV (e2 opEq (eF fLen (aC (eN 9) aN)) (eC (.int 0)))) (sFrz 7 (sRet (eN 7))) sNil)
    (sSeq (sSet 10 (e2 opIx (eN 9) (eCall Fn_law_pick (aC (eN 0) (aC (e2 opAdd (e2 opAdd (eN 1) (eC (.int 2))) (e2 opMul (eC (.int 2)) (eN 8))) (aC (eF fLen (aC (eN 9) aN)) aN))))))
    (sSeq (sSet 6 (e2 opAdd (e2 opAdd (eN 6) (e2 opIx (eN 10) (eC (.int 2)))) (eF fMax2 (aC (eC (.int 0)) (aC (e2 opSub (eCall Fn_law_pick (aC (eN 0) (aC (e2 opAdd (e2 opAdd (eN 1) (eC (.int 3))) (e2 opMul (eC (.int 2)) (eN 8))) (aC (eC (.int 6)) aN)))) (eC (.int 3))) aN)))))
    (sSeq (sSet 5 (e2 opIx (eN 10) (eC (.int 1))))
    (sApp 7 (eT (aC (eN 6) (aC (eN 5) aN))))))))))
    (sFrz 7 (sRet (eN 7)))))))
def Fn_law_course : List D → Res D := runFn 5 11 body_law_course
-- _law_late(_law_tasks, _law_courses, _law_table); names 0:_law_tasks, 1:_law_courses, 2:_law_table, 3:_law_jobs, 4:_law_t, 5:_law_k, 6:_law_kind, 7:_law_slot, 8:_law_units, 9:_law_job, 10:_law_done
def body_law_late : Sv :=
    (sSeq (sOwn2 3 aN)
    (sSeq (sFor (iR1 (aC (eF fLen (aC (eN 0) aN)) aN)) (gN 4) (sFor (iR1 (aC (eF fLen (aC (e2 opIx (eN 1) (eN 4)) aN)) aN)) (gN 5) (sSeq (sSet 6 (e2 opIx (e2 opIx (e2 opIx (eN 0) (eN 4)) (eC (.int 0))) (eCall Fn_law_number (aC (e2 opIx (e2 opIx (eN 0) (eN 4)) (eC (.int 0))) (aC (e2 opIx (e2 opIx (e2 opIx (eN 1) (eN 4)) (eN 5)) (eC (.int 1))) aN)))))
    (sApp2 3 (aC (e2 opAdd (e2 opIx (e2 opIx (e2 opIx (eN 1) (eN 4)) (eN 5)) (eC (.int 0))) (e2 opIx (eN 6) (eC (.int 2)))) (aC (e2 opIx (e2 opIx (e2 opIx (eN 1) (eN 4)) (eN 5)) (eC (.int 0))) (aC (eN 4) (aC (eN 5) (aC (e2 opIx (eN 6) (eC (.int 1))) aN)))))))))
    (sSeq (sSort2 3 3)
    (sSeq (sFor (iR1 (aC (e2 opAdd (eMaxD (aC (eL (lLc (itO2 3) (gAl 9) [9] tYes' (e2 opIx (eAl 9) (eC (.int 0))))) aN) (eC (.int 0))) (eC (.int 1))) aN)) (gN 7) (sSeq (sIf (tV (eF fAny (aC (eL (lLc (itO2 3) (gAl 9) [9] tYes' (eAnd (e2 opLe (e2 opIx (eAl 9) (eC (.int 0))) (eN 7)) (e2 opGt (e2 opIx (eAl 9) (eC (.int 4))) (eC (.int 0)))))) aN))) (sRet (eN 7)) sNil)
    (sSeq (sSet 8 (e2 opIx (eN 2) (e2 opMod (eF fInt (aC (eN 7) aN)) (eF fLen (aC (eN 2) aN)))))
    (sFor2 3 9 (sIf (tAnd' (tV (e2 opLe (e2 opIx (eAl 9) (eC (.int 1))) (eN 7))) (tV (e2 opGt (e2 opIx (eAl 9) (eC (.int 4))) (eC (.int 0))))) (sSeq (sSet 10 (eF fMin2 (aC (eN 8) (aC (e2 opIx (eAl 9) (eC (.int 4))) aN))))
    (sSeq (sPutAl 9 (eC (.int 4)) (e2 opSub (e2 opIx (eAl 9) (eC (.int 4))) (eN 10)))
    (sSet 8 (e2 opSub (eN 8) (eN 10))))) sNil)))))
    (sRet (eC .non))))))
def Fn_law_late : List D → Res D := runFn 3 11 body_law_late
-- circuit_mean(task, circuit); names 0:task, 1:circuit, 2:cost, 3:distance, 4:number, 5:way
def body_circuit_mean : Sv :=
    (sSeq (sSet 2 (eC (.int 0)))
    (sSeq (sSet 3 (eC (.int 0)))
    (sSeq (sFor (iS (eN 1)) (gN 4) (sSeq (sSet 5 (e2 opIx (e1 (fld 0 "ways") (eN 0)) (eN 4)))
    (sSeq (sAug 2 opAddI (eMeth 0 "cost" Fn_Task_cost (eN 0) (aC (e2 opIx (eN 5) (eC (.int 0))) aN)))
    (sAug 3 opAddI (e2 opIx (eN 5) (eC (.int 2)))))))
    (sRet (eCall Fn_make_ratio (aC (eN 2) (aC (eN 3) aN)))))))
def Fn_circuit_mean : List D → Res D := runFn 2 6 body_circuit_mean
-- best_continuation(task, name, size, found); names 0:task, 1:name, 2:size, 3:found, 4:best, 5:target, 6:distance
def body_best_continuation : Sv :=
    (sSeq (sSet 4 (eC (.int 0)))
    (sSeq (sFor (iS (eMeth 0 "ways_from" Fn_Task_ways_from (eN 0) (aC (eN 1) aN))) (gT [5, 6]) (sIf (tV (e2 opLe (eN 6) (eN 2))) (sSet 4 (eF fMax2 (aC (eN 4) (aC (e2 opIx (e2 opIx (eN 3) (e2 opSub (eN 2) (eN 6))) (eMeth 0 "kind_number" Fn_Task_kind_number (eN 0) (aC (eN 5) aN))) aN)))) sNil))
    (sRet (eN 4))))
def Fn_best_continuation : List D → Res D := runFn 4 7 body_best_continuation
-- best_step(task, name, rest, found); names 0:task, 1:name, 2:rest, 3:found, 4:best, 5:step, 6:target, 7:distance, 8:number, 9:work
def body_best_step : Sv :=
    (sSeq (sSet 4 (eC (.int 0)))
    (sSeq (sSet 5 (eC .non))
    (sSeq (sFor (iS (eMeth 0 "ways_from" Fn_Task_ways_from (eN 0) (aC (eN 1) aN))) (gT [6, 7]) (sIf (tV (e2 opLe (eN 7) (eN 2))) (sSeq (sSet 8 (eMeth 0 "kind_number" Fn_Task_kind_number (eN 0) (aC (eN 6) aN)))
    (sSeq (sSet 9 (e2 opIx (e2 opIx (eN 3) (e2 opSub (eN 2) (eN 7))) (eN 8)))
    (sIf (tV (e2 opGt (eN 9) (eN 4))) (sSeq (sSet 4 (eN 9))
    (sSet 5 (eT (aC (eN 8) (aC (eN 7) aN))))) sNil))) sNil))
    (sRet (eN 5)))))
def Fn_best_step : List D → Res D := runFn 4 10 body_best_step
-- Task.__init__(self, name, kinds, ways); names 0:self, 1:name, 2:kinds, 3:ways, 4:kind, 5:way
def body_Task_init : Sv :=
    (sSeq (sIf (tOr' (tNot' (tV (eCall Fn_is_name (aC (eN 1) aN)))) (tNot' (tV (eCall Fn_are_kinds (aC (eN 2) aN))))) (fun _ => .stuck) sNil)
    (sSeq (sIf (tNot' (tV (eCall Fn_are_ways (aC (eN 3) (aC (eL (lLc (iS (eN 2)) (gN 4) [4] tYes' (e2 opIx (eN 4) (eC (.int 0))))) aN))))) (fun _ => .stuck) sNil)
    (sSeq (sFldC 0 0 "name" (eN 1))
    (sSeq (sFldC 0 0 "kinds" (eTupF (aC (eL (lLc (iS (eN 2)) (gN 4) [4] tYes' (eT (aC (e2 opIx (eN 4) (eC (.int 0))) (aC (e2 opIx (eN 4) (eC (.int 1))) (aC (e2 opIx (eN 4) (eC (.int 2))) aN)))))) aN)))
    (sFldC 0 0 "ways" (eTupF (aC (eL (lLc (iS (eN 3)) (gN 5) [5] tYes' (eT (aC (e2 opIx (eN 5) (eC (.int 0))) (aC (e2 opIx (eN 5) (eC (.int 1))) (aC (e2 opIx (eN 5) (eC (.int 2))) aN)))))) aN)))))))
def Fn_Task_init : List D → Res (List (Str × D)) := runIn 0 4 6 body_Task_init
-- _law_two_tasks(_law_numbers_here); names 0:_law_numbers_here, 1:_law_kinds_here, 2:_law_one, 3:_law_other, 4:_law_longer, 5:_law_way, 6:_law_kind
def body_law_two_tasks : Sv :=
    (sSeq (sSet 1 (eCall Fn_law_kinds (aC (eN 0) (aC (eC (.int 0)) (aC (eC (.int 3)) aN)))))
    (sSeq (sSet 2 (eT (aC (eN 1) (aC (eCall Fn_law_ways (aC (eN 0) (aC (eC (.int 7)) (aC (eN 1) (aC (eC (.int 4)) aN))))) aN))))
    (sSeq (sSet 1 (eCall Fn_law_kinds (aC (eN 0) (aC (eC (.int 20)) (aC (eC (.int 3)) aN)))))
    (sSeq (sSet 3 (eT (aC (eN 1) (aC (eCall Fn_law_ways (aC (eN 0) (aC (eC (.int 27)) (aC (eN 1) (aC (eC (.int 4)) aN))))) aN))))
    (sSeq (sIf (tV (e2 opEq (eCall Fn_law_pick (aC (eN 0) (aC (eC (.int 40)) (aC (eC (.int 3)) aN)))) (eC (.int 1)))) (sSet 3 (eT (aC (eL (lLc (iS (e2 opIx (eN 2) (eC (.int 0)))) (gN 6) [6] tYes' (eT (aC (e2 opIx (eN 6) (eC (.int 0))) (aC (e2 opAdd (e2 opIx (eN 6) (eC (.int 1))) (eCall Fn_law_pick (aC (eN 0) (aC (eC (.int 41)) (aC (eC (.int 2)) aN))))) (aC (e2 opIx (eN 6) (eC (.int 2))) aN)))))) (aC (e2 opIx (eN 2) (eC (.int 1))) aN)))) sNil)
    (sSeq (sIf (tV (e2 opEq (eCall Fn_law_pick (aC (eN 0) (aC (eC (.int 40)) (aC (eC (.int 3)) aN)))) (eC (.int 2)))) (sSeq (sSet 4 (eL (lLc (iS (e2 opIx (eN 3) (eC (.int 1)))) (gN 5) [5] tYes' (eT (aC (e2 opIx (eN 5) (eC (.int 0))) (aC (e2 opIx (eN 5) (eC (.int 1))) (aC (e2 opAdd (e2 opIx (eN 5) (eC (.int 2))) (eCall Fn_law_pick (aC (eN 0) (aC (eC (.int 42)) (aC (eC (.int 2)) aN))))) aN)))))))
    (sSet 2 (eT (aC (e2 opIx (eN 3) (eC (.int 0))) (aC (eN 4) aN))))) sNil)
    (sRet (eT (aC (eN 2) (aC (eN 3) aN))))))))))
def Fn_law_two_tasks : List D → Res D := runFn 1 7 body_law_two_tasks
-- rows(task, length); names 0:task, 1:length, 2:found, 3:size, 4:row, 5:kind
def body_rows : Sv :=
    (sSeq (sOwn 2 aN)
    (sSeq (sFor (iR1 (aC (e2 opAdd (eN 1) (eC (.int 1))) aN)) (gN 3) (sSeq (sOwn 4 aN)
    (sSeq (sFor (iS (e1 (fld 0 "kinds") (eN 0))) (gN 5) (sApp 4 (e2 opAdd (eCall Fn_own_work (aC (eN 5) (aC (eN 3) aN))) (eCallB Fn_best_continuation (aC (eN 0) (aC (e2 opIx (eN 5) (eC (.int 0))) (aC (eN 3) (aC (eB 2) aN))))))))
    (sFrz 4 (sApp 2 (eN 4))))))
    (sFrz 2 (sRet (eN 2)))))
def Fn_rows : List D → Res D := runFn 2 6 body_rows
-- stays_within(task, found, kept, length, growth); names 0:task, 1:found, 2:kept, 3:length, 4:growth, 5:number, 6:name, 7:within, 8:target, 9:distance, 10:goal
def body_stays_within : Sv :=
    (sSeq (sFor (iS (eN 2)) (gN 5) (sSeq (sSet 6 (e2 opIx (e2 opIx (e1 (fld 0 "kinds") (eN 0)) (eN 5)) (eC (.int 0))))
    (sSeq (sSet 7 (eC (.int 0)))
    (sSeq (sFor (iS (eMeth 0 "ways_from" Fn_Task_ways_from (eN 0) (aC (eN 6) aN))) (gT [8, 9]) (sSeq (sSet 10 (eMeth 0 "kind_number" Fn_Task_kind_number (eN 0) (aC (eN 8) aN)))
    (sIf (tAnd' (tV (e2 opLe (eN 9) (eN 3))) (tV (e2 opIn (eN 10) (eN 2)))) (sSet 7 (eF fMax2 (aC (eN 7) (aC (e2 opIx (e2 opIx (eN 1) (e2 opSub (eN 3) (eN 9))) (eN 10)) aN)))) sNil)))
    (sSeq (sIf (tV (e2 opNe (eN 7) (eCall Fn_best_continuation (aC (eN 0) (aC (eN 6) (aC (eN 3) (aC (eN 1) aN))))))) (sRet (eC (.bl false))) sNil)
    (sIf (tAnd' (tV (e2 opNe (eN 4) (eC (.int 0)))) (tV (e2 opEq (eN 7) (eC (.int 0))))) (sRet (eC (.bl false))) sNil))))))
    (sRet (eC (.bl true))))
def Fn_stays_within : List D → Res D := runFn 5 11 body_stays_within
-- demand(task, length); names 0:task, 1:length
def body_demand : Sv :=
    (sRet (eF fMaxL (aC (e2 opIx (eCall Fn_rows (aC (eN 0) (aC (eN 1) aN))) (eN 1)) aN)))
def Fn_demand : List D → Res D := runFn 2 2 body_demand
-- demands(task, length); names 0:task, 1:length, 2:row
def body_demands : Sv :=
    (sRet (eL (lLc (iS (eCall Fn_rows (aC (eN 0) (aC (eN 1) aN)))) (gN 2) [2] tYes' (eF fMaxL (aC (eN 2) aN)))))
def Fn_demands : List D → Res D := runFn 2 3 body_demands
-- heaviest(task, length); names 0:task, 1:length, 2:found, 3:greatest, 4:number, 5:time, 6:releases, 7:step, 8:distance
def body_heaviest : Sv :=
    (sSeq (sSet 2 (eCall Fn_rows (aC (eN 0) (aC (eN 1) aN))))
    (sSeq (sSet 3 (eF fMaxL (aC (e2 opIx (eN 2) (eN 1)) aN)))
    (sSeq (sIf (tV (e2 opEq (eN 3) (eC (.int 0)))) (sRet (eL aN)) sNil)
    (sSeq (sSet 4 (eIdx (e2 opIx (eN 2) (eN 1)) (eN 3)))
    (sSeq (sSet 5 (eC (.int 0)))
    (sSeq (sOwn 6 (aC (eT (aC (eC (.int 0)) (aC (e2 opIx (e2 opIx (e1 (fld 0 "kinds") (eN 0)) (eN 4)) (eC (.int 0))) aN))) aN))
    (whileS (tV (eC (.bl true))) (sSeq (sSet 7 (eCall Fn_best_step (aC (eN 0) (aC (e2 opIx (e2 opIx (e1 (fld 0 "kinds") (eN 0)) (eN 4)) (eC (.int 0))) (aC (e2 opSub (eN 1) (eN 5)) (aC (eN 2) aN))))))
    (sSeq (sIf (tV (e2 opIsN (eN 7) (eC .non))) (sFrz 6 (sRet (eN 6))) sNil)
    (sSeq (sTo (gT [4, 8]) (eN 7))
    (sSeq (sAug 5 opAddI (eN 8))
    (sApp 6 (eT (aC (eN 5) (aC (e2 opIx (e2 opIx (e1 (fld 0 "kinds") (eN 0)) (eN 4)) (eC (.int 0))) aN)))))))) 1000)))))))
def Fn_heaviest : List D → Res D := runFn 2 9 body_heaviest
-- stands_by(one, other, mine, theirs, kept, step, horizon); names 0:one, 1:other, 2:mine, 3:theirs, 4:kept, 5:step, 6:horizon, 7:reach, 8:growth, 9:count, 10:length, 11:number
def body_stands_by : Sv :=
    (sSeq (sSet 7 (eF fMax2 (aC (e2 opAdd (eProp 0 Fn_Task_latest_deadline (eN 0)) (eProp 0 Fn_Task_longest_distance (eN 0))) (aC (e2 opAdd (eProp 0 Fn_Task_latest_deadline (eN 1)) (eProp 0 Fn_Task_longest_distance (eN 1))) aN))))
    (sSeq (sIf (tOr' (tV (e2 opLt (eN 5) (eC (.int 1)))) (tV (e2 opGt (e2 opAdd (eN 7) (eN 5)) (eN 6)))) (sRet (eC (.bl false))) sNil)
    (sSeq (sSet 8 (eC (.int 0)))
    (sSeq (sIf (tV (e2 opGt (eProp 0 Fn_Task_longest_distance (eN 1)) (eC (.int 0)))) (sSet 8 (e2 opSub (e2 opIx (e2 opIx (eN 3) (eN 6)) (e2 opIx (eN 4) (eC (.int 0)))) (e2 opIx (e2 opIx (eN 3) (e2 opSub (eN 6) (eN 5))) (e2 opIx (eN 4) (eC (.int 0)))))) sNil)
    (sSeq (sSet 9 (eProp 0 Fn_Task_longest_distance (eN 1)))
    (sSeq (sIf (tNot' (tV (eCall Fn_grows_alike (aApp (aC (eN 3) (aC (eN 4) aN)) (aC (eN 6) (aC (eN 9) (aC (eN 5) (aC (eN 8) aN)))))))) (sRet (eC (.bl false))) sNil)
    (sSeq (sIf (tNot' (tV (eCall Fn_grows_alike (aApp (aC (eN 2) (aC (eL aN) aN)) (aC (eN 6) (aC (eProp 0 Fn_Task_longest_distance (eN 0)) (aC (eN 5) (aC (eN 8) aN)))))))) (sRet (eC (.bl false))) sNil)
    (sSeq (sFor (iR2 (aC (e2 opAdd (e2 opSub (eN 6) (eN 5)) (eC (.int 1))) (aC (e2 opAdd (eN 6) (eC (.int 1))) aN))) (gN 10) (sSeq (sIf (tNot' (tV (eCall Fn_stays_within (aApp (aC (eN 1) (aC (eN 3) (aC (eN 4) aN))) (aC (eN 10) (aC (eN 8) aN)))))) (sRet (eC (.bl false))) sNil)
    (sIf (tV (e2 opGt (eF fMaxL (aC (e2 opIx (eN 2) (eN 10)) aN)) (eF fMaxL (aC (eL (lLc (iS (eN 4)) (gN 11) [11] tYes' (e2 opIx (e2 opIx (eN 3) (eN 10)) (eN 11)))) aN)))) (sRet (eC (.bl false))) sNil)))
    (sRet (eC (.bl true)))))))))))
def Fn_stands_by : List D → Res D := runFn 7 12 body_stands_by
-- _law_task(_law_name_here, _law_task_here); names 0:_law_name_here, 1:_law_task_here
def body_law_task : Sv :=
    (sRet (eMake 0 Fn_Task_init (aApp (aC (eN 0) aN) (aC (eL (lList (aC (e2 opIx (eN 1) (eC (.int 0))) aN))) (aC (eL (lList (aC (e2 opIx (eN 1) (eC (.int 1))) aN))) aN)))))
def Fn_law_task : List D → Res D := runFn 2 2 body_law_task
-- extend_path(task, start, last, path, visited, found); names 0:task, 1:start, 2:last, 3:path, 4:visited, 5:found, 6:number, 7:way, 8:target
def body_extend_path (rec : List D → List D → Res (List D)) : Sv :=
    (sFor (iE (aC (e1 (fld 0 "ways") (eN 0)) aN)) (gT [6, 7]) (sSeq (sIf (tV (e2 opNe (eMeth 0 "kind_number" Fn_Task_kind_number (eN 0) (aC (e2 opIx (eN 7) (eC (.int 0))) aN)) (eN 2))) .ct sNil)
    (sSeq (sSet 8 (eMeth 0 "kind_number" Fn_Task_kind_number (eN 0) (aC (e2 opIx (eN 7) (eC (.int 1))) aN)))
    (sIf (tV (e2 opEq (eN 8) (eN 1))) (sApp 5 (eL (lCat (eN 3) (eL (aC (eN 6) aN))))) (sIf (tAnd' (tV (e2 opGt (eN 8) (eN 1))) (tV (e2 opNotIn (eN 8) (eN 4)))) (sIO 5 rec (aC (eN 0) (aC (eN 1) (aC (eN 8) (aC (eL (lCat (eN 3) (eL (aC (eN 6) aN)))) (aC (eL (lCat (eN 4) (eL (aC (eN 8) aN)))) aN)))))) sNil)))))
def Fn_extend_path : Nat → List D → List D → Res (List D)
  | 0 => fun _ _ => .stuck
  | n + 1 => runIO 6 9 (body_extend_path (Fn_extend_path n))
-- first_excess(one, other, horizon); names 0:one, 1:other, 2:horizon, 3:theirs, 4:length, 5:work
def body_first_excess : Sv :=
    (sSeq (sSet 3 (eCall Fn_demands (aC (eN 1) (aC (eN 2) aN))))
    (sSeq (sFor (iE (aC (eCall Fn_demands (aC (eN 0) (aC (eN 2) aN))) aN)) (gT [4, 5]) (sIf (tV (e2 opGt (eN 5) (e2 opIx (eN 3) (eN 4)))) (sRet (eN 4)) sNil))
    (sRet (eC .non))))
def Fn_first_excess : List D → Res D := runFn 3 6 body_first_excess
-- splittings(task, length); names 0:task, 1:length, 2:single, 3:best, 4:size, 5:piece
def body_splittings : Sv :=
    (sSeq (sSet 2 (eCall Fn_demands (aC (eN 0) (aC (eN 1) aN))))
    (sSeq (sOwn 3 (aC (eC (.int 0)) aN))
    (sSeq (sFor (iR2 (aC (eC (.int 1)) (aC (e2 opAdd (eN 1) (eC (.int 1))) aN))) (gN 4) (sApp 3 (eF fMaxL (aC (eL (lLc (iR2 (aC (eC (.int 1)) (aC (e2 opAdd (eN 4) (eC (.int 1))) aN))) (gN 5) [5] tYes' (e2 opAdd (e2 opIx (eB 3) (e2 opSub (eN 4) (eN 5))) (e2 opIx (eN 2) (eN 5))))) aN))))
    (sFrz 3 (sRet (eN 3))))))
def Fn_splittings : List D → Res D := runFn 2 6 body_splittings
-- circuits(task); names 0:task, 1:found, 2:start
def body_circuits : Sv :=
    (sSeq (sOwn 1 aN)
    (sSeq (sFor (iR1 (aC (eF fLen (aC (e1 (fld 0 "kinds") (eN 0)) aN)) aN)) (gN 2) (sIO 1 (Fn_extend_path 5) (aC (eN 0) (aC (eN 2) (aC (eN 2) (aC (eL aN) (aC (eL (aC (eN 2) aN)) aN)))))))
    (sFrz 1 (sRet (eN 1)))))
def Fn_circuits : List D → Res D := runFn 1 3 body_circuits
-- part_at(task, length); names 0:task, 1:length, 2:best, 3:cost, 4:table, 5:largest, 6:size, 7:kind
def body_part_at : Sv :=
    (sSeq (sSet 2 (eCall Fn_splittings (aC (eN 0) (aC (eN 1) aN))))
    (sSeq (sSet 3 (eF fMax2 (aC (eC (.int 1)) (aC (e2 opIx (eN 2) (eN 1)) aN))))
    (sSeq (sOwn 4 (lLc (iR2 (aC (eC (.int 1)) (aC (eN 1) aN))) (gN 6) [6] tYes' (e2 opSub (e2 opIx (eN 2) (eN 6)) (e2 opIx (eN 2) (e2 opSub (eN 6) (eC (.int 1)))))))
    (sSeq (sApp 4 (e2 opSub (e2 opAdd (eCall Fn_demand (aC (eN 0) (aC (eN 1) aN))) (eN 3)) (e2 opIx (eN 2) (e2 opSub (eN 1) (eC (.int 1))))))
    (sSeq (sSet 5 (eF fMaxL (aC (eL (lLc (iS (e1 (fld 0 "kinds") (eN 0))) (gN 7) [7] tYes' (e2 opIx (eN 7) (eC (.int 1))))) aN)))
    (sSeq (sApp 4 (e2 opAdd (e2 opMul (e2 opMul (eC (.int 2)) (eN 5)) (e2 opAdd (eN 1) (eC (.int 1)))) (eN 3)))
    (sFrz 4 (sRet (eMake 1 Fn_Part_init (aC (eN 1) (aC (eN 3) (aC (eN 4) aN))))))))))))
def Fn_part_at : List D → Res D := runFn 2 8 body_part_at
-- best_circuit(task); names 0:task, 1:best, 2:greatest, 3:circuit, 4:mean
def body_best_circuit : Sv :=
    (sSeq (sSet 1 (eL aN))
    (sSeq (sSet 2 (eCall Fn_make_ratio (aC (eC (.int 0)) (aC (eC (.int 1)) aN))))
    (sSeq (sFor (iS (eCall Fn_circuits (aC (eN 0) aN))) (gN 3) (sSeq (sSet 4 (eCall Fn_circuit_mean (aC (eN 0) (aC (eN 3) aN))))
    (sIf (tV (e2 opGt (eCall Fn_compare_ratios (aC (eN 4) (aC (eN 2) aN))) (eC (.int 0)))) (sSeq (sSet 1 (eN 3))
    (sSet 2 (eN 4))) sNil)))
    (sRet (eN 1)))))
def Fn_best_circuit : List D → Res D := runFn 1 5 body_best_circuit
-- share(task); names 0:task, 1:best
def body_share : Sv :=
    (sSeq (sSet 1 (eCall Fn_best_circuit (aC (eN 0) aN)))
    (sSeq (sIf (tV (e2 opEq (eF fLen (aC (eN 1) aN)) (eC (.int 0)))) (sRet (eCall Fn_make_ratio (aC (eC (.int 0)) (aC (eC (.int 1)) aN)))) sNil)
    (sRet (eCall Fn_circuit_mean (aC (eN 0) (aC (eN 1) aN))))))
def Fn_share : List D → Res D := runFn 1 2 body_share
-- lasting_kinds(task); names 0:task, 1:every, 2:rate, 3:lasting, 4:circuit, 5:number, 6:_, 7:source, 8:target
def body_lasting_kinds : Sv :=
    (sSeq (sSet 1 (eCall Fn_circuits (aC (eN 0) aN)))
    (sSeq (sIf (tV (e2 opEq (eF fLen (aC (eN 1) aN)) (eC (.int 0)))) (sRet (eL (lListR (eF fLen (aC (e1 (fld 0 "kinds") (eN 0)) aN))))) sNil)
    (sSeq (sSet 2 (eCall Fn_share (aC (eN 0) aN)))
    (sSeq (sOwn 3 (lLc (iS (e1 (fld 0 "kinds") (eN 0))) (gN 6) [6] tYes' (eC (.bl false))))
    (sSeq (sFor (iS (eN 1)) (gN 4) (sIf (tV (e2 opEq (eCall Fn_circuit_mean (aC (eN 0) (aC (eN 4) aN))) (eN 2))) (sFor (iS (eN 4)) (gN 5) (sPut 3 (eMeth 0 "kind_number" Fn_Task_kind_number (eN 0) (aC (e2 opIx (e2 opIx (e1 (fld 0 "ways") (eN 0)) (eN 5)) (eC (.int 0))) aN)) (eC (.bl true)))) sNil))
    (sSeq (sFor (iR1 (aC (eF fLen (aC (e1 (fld 0 "kinds") (eN 0)) aN)) aN)) (gN 6) (sFor (iS (e1 (fld 0 "ways") (eN 0))) (gT [7, 8, 6]) (sIf (tV (e2 opIx (eB 3) (eMeth 0 "kind_number" Fn_Task_kind_number (eN 0) (aC (eN 8) aN)))) (sPut 3 (eMeth 0 "kind_number" Fn_Task_kind_number (eN 0) (aC (eN 7) aN)) (eC (.bl true))) sNil)))
    (sRet (eL (lLc (iR1 (aC (eF fLen (aC (e1 (fld 0 "kinds") (eN 0)) aN)) aN)) (gN 5) [5] (tV (e2 opIx (eB 3) (eN 5))) (eN 5))))))))))
def Fn_lasting_kinds : List D → Res D := runFn 1 9 body_lasting_kinds
-- stand_in_step(one, other, horizon); names 0:one, 1:other, 2:horizon, 3:mine, 4:theirs, 5:kept, 6:step
def body_stand_in_step : Sv :=
    (sSeq (sIf (tV (e2 opNotN (eCall Fn_first_excess (aApp (aC (eN 0) (aC (eN 1) aN)) (aC (eN 2) aN))) (eC .non))) (sRet (eC .non)) sNil)
    (sSeq (sSet 3 (eCall Fn_rows (aC (eN 0) (aC (eN 2) aN))))
    (sSeq (sSet 4 (eCall Fn_rows (aC (eN 1) (aC (eN 2) aN))))
    (sSeq (sSet 5 (eCall Fn_lasting_kinds (aC (eN 1) aN)))
    (sSeq (sFor (iR2 (aC (eC (.int 1)) (aC (e2 opAdd (eN 2) (eC (.int 1))) aN))) (gN 6) (sIf (tV (eCall Fn_stands_by (aApp (aC (eN 0) (aC (eN 1) (aC (eN 3) (aC (eN 4) (aC (eN 5) aN))))) (aC (eN 6) (aC (eN 2) aN))))) (sRet (eN 6)) sNil))
    (sRet (eC .non)))))))
def Fn_stand_in_step : List D → Res D := runFn 3 7 body_stand_in_step
-- may_stand(one, other, horizon); names 0:one, 1:other, 2:horizon, 3:length
def body_may_stand : Sv :=
    (sSeq (sSet 3 (eCall Fn_first_excess (aApp (aC (eN 0) (aC (eN 1) aN)) (aC (eN 2) aN))))
    (sSeq (sIf (tV (e2 opNotN (eN 3) (eC .non))) (sRet (eCall Fn_part_at (aC (eN 1) (aC (eN 3) aN)))) sNil)
    (sSeq (sIf (tV (e2 opIsN (eCall Fn_stand_in_step (aApp (aC (eN 0) (aC (eN 1) aN)) (aC (eN 2) aN))) (eC .non))) (fun ρ => Out.of ((eN 2) ρ) fun d => .exc 2 [("horizon", d)]) sNil)
    (sRet (eC .non)))))
def Fn_may_stand : List D → Res D := runFn 3 4 body_may_stand
-- law(_law_script); names 0:_law_script, 1:_law_numbers_here, 2:_law_one, 3:_law_other, 4:_law_horizon, 5:_law_course_here, 6:_law_first, 7:_law_part, 8:_law_job, 9:_law_table, 10:_law_late_here
def body_law : Sv :=
    (sSeq (sSet 1 (eL (lCat (eCall Fn_law_numbers (aC (eN 0) (aC (eC (.int 72)) aN))) (eL (aC (eC (.int 0)) aN)))))
    (sSeq (sTo (gT [2, 3]) (eCall Fn_law_two_tasks (aC (eN 1) aN)))
    (sSeq (sSet 4 (e2 opAdd (eC (.int 1)) (eCall Fn_law_pick (aC (eN 1) (aC (eC (.int 43)) (aC (eC (.int 30)) aN))))))
    (sSeq (sSet 5 (eCall Fn_law_course (aC (eN 1) (aC (eC (.int 44)) (aC (e2 opIx (eN 3) (eC (.int 0))) (aC (e2 opIx (eN 3) (eC (.int 1))) (aC (e2 opAdd (eC (.int 1)) (eCall Fn_law_pick (aC (eN 1) (aC (eC (.int 64)) (aC (eC (.int 9)) aN))))) aN)))))))
    (sSeq (sSet 6 (eCall Fn_law_task (aC (eC (.str "one")) (aC (eN 2) aN))))
    (sSeq (sTry (cuIs 2) (sSet 7 (eCallX Fn_may_stand (aApp (aC (eN 6) (aC (eCall Fn_law_task (aC (eC (.str "other")) (aC (eN 3) aN))) aN)) (aC (eN 4) aN)))) (sRet (eC (.bl true))))
    (sSeq (sIf (tV (e2 opIsN (eN 7) (eC .non))) (sRet (eC (.bl true))) sNil)
    (sSeq (sSet 8 (eT (aC (eL (aC (eT (aC (eC (.str "job")) (aC (e1 (fld 1 "cost") (eN 7)) (aC (e1 (fld 1 "length") (eN 7)) aN)))) aN)) (aC (eL aN) aN))))
    (sSeq (sSet 9 (eL (lList (aC (e1 (fld 1 "table") (eN 7)) aN))))
    (sSeq (sIf (tV (e2 opNotN (eCall Fn_law_late (aC (eL (aC (eN 3) (aC (eN 8) aN))) (aC (eL (aC (eN 5) (aC (eL (aC (eT (aC (eCall Fn_law_pick (aC (eN 1) (aC (eC (.int 65)) (aC (eC (.int 13)) aN)))) (aC (eC (.str "job")) aN))) aN)) aN))) (aC (eN 9) aN)))) (eC .non))) (sRet (eC (.bl false))) sNil)
    (sSeq (sSet 10 (eCall Fn_law_late (aC (eL (aC (eN 2) (aC (eN 8) aN))) (aC (eL (aC (eCall Fn_heaviest (aC (eN 6) (aC (e1 (fld 1 "length") (eN 7)) aN))) (aC (eL (aC (eT (aC (eC (.int 0)) (aC (eC (.str "job")) aN))) aN)) aN))) (aC (eN 9) aN)))))
    (sRet (eAnd (e2 opNotN (eN 10) (eC .non)) (e2 opLe (eN 10) (e1 (fld 1 "length") (eN 7))))))))))))))))
def Fn_law : List D → Res D := runFn 1 11 body_law
end G90

namespace G90
open PySem PySem.Spec PyProof.Rows L2 Pu
/-- a list of numbers -/
abbrev dI (ns : List Int) : D := .lst (ns.map D.int)
theorem ix_I {ns : List Int} {i : Int} {n : Nat} {v : Int} (hi : i = n) (h : ns[n]? = some v) : opIx (dI ns) (.int i) = some (.int v) := ix_lst' hi (by rw [List.getElem?_map, h]; rfl)
/-- the list xs, its first i things: what a loop has laid -/
theorem take_snoc {α : Type} {xs : List α} {i : Nat} {x : α} (h : xs[i]? = some x) : xs.take (i + 1) = xs.take i ++ [x] := by
  rw [List.take_add_one, h]; rfl
/-! ### tasks -/
structure Tk where
  ks : List (Str × Int × Int)
  ws : List (Str × Str × Int)
def dK (k : Str × Int × Int) : D := .tup [.str k.1, .int k.2.1, .int k.2.2]
def dW (w : Str × Str × Int) : D := .tup [.str w.1, .str w.2.1, .int w.2.2]
abbrev dT (nm : Str) (t : Tk) : D := .obj 0 [("name", .str nm), ("kinds", .tup (t.ks.map dK)), ("ways", .tup (t.ws.map dW))]
@[simp] theorem fld_kinds (nm : Str) (t : Tk) : fld 0 "kinds" (dT nm t) = some (.tup (t.ks.map dK)) := by
  show (if (0 : Nat) = 0 then List.lookup ("kinds" : Str) [(("name" : Str), D.str nm), (("kinds" : Str), D.tup (t.ks.map dK)), (("ways" : Str), D.tup (t.ws.map dW))] else none) = _
  rw [if_pos rfl]
  rfl
@[simp] theorem fld_ways (nm : Str) (t : Tk) : fld 0 "ways" (dT nm t) = some (.tup (t.ws.map dW)) := by
  show (if (0 : Nat) = 0 then List.lookup ("ways" : Str) [(("name" : Str), D.str nm), (("kinds" : Str), D.tup (t.ks.map dK)), (("ways" : Str), D.tup (t.ws.map dW))] else none) = _
  rw [if_pos rfl]
  rfl
@[simp] theorem ook_kn (nm : Str) (t : Tk) : oOk 0 "kind_number" (dT nm t) = true := by
  unfold oOk
  rfl
@[simp] theorem ook_wf (nm : Str) (t : Tk) : oOk 0 "ways_from" (dT nm t) = true := by
  unfold oOk
  rfl
@[simp] theorem ook_cost (nm : Str) (t : Tk) : oOk 0 "cost" (dT nm t) = true := by
  unfold oOk
  rfl
/-- the number of the kind of a name -/
def num (ks : List (Str × Int × Int)) (x : Str) : Nat := ks.findIdx fun k => decide (k.1 = x)
theorem num_lt {ks : List (Str × Int × Int)} {x : Str} (h : x ∈ ks.map (·.1)) : num ks x < ks.length := by
  obtain ⟨k, hk, rfl⟩ := List.mem_map.mp h
  exact List.findIdx_lt_length_of_exists ⟨k, hk, by simp⟩
theorem num_get {ks : List (Str × Int × Int)} {x : Str} (h : x ∈ ks.map (·.1)) : ∃ k, ks[num ks x]? = some k ∧ k.1 = x := by
  have hl : List.findIdx (fun k : Str × Int × Int => decide (k.1 = x)) ks < ks.length := num_lt h
  refine ⟨ks[List.findIdx (fun k : Str × Int × Int => decide (k.1 = x)) ks], List.getElem?_eq_getElem hl, ?_⟩
  have := List.findIdx_getElem (xs := ks) (p := fun k : Str × Int × Int => decide (k.1 = x)) (w := hl)
  simpa using this
theorem num_min {ks : List (Str × Int × Int)} {x : Str} {j : Nat} (h : j < num ks x) {k : Str × Int × Int} (e : ks[j]? = some k) : k.1 ≠ x := by
  have hl : j < ks.length := (List.getElem?_eq_some_iff.mp e).1
  have := List.not_of_lt_findIdx h
  rw [List.getElem?_eq_getElem hl] at e
  cases e
  simpa using this
theorem num_of {ks : List (Str × Int × Int)} (nd : (ks.map (·.1)).Nodup) {i : Nat} {k : Str × Int × Int} (e : ks[i]? = some k) : num ks k.1 = i := by
  have hm : k.1 ∈ ks.map (·.1) := List.mem_map_of_mem (List.mem_of_getElem? e)
  obtain ⟨k', e', hk⟩ := num_get hm
  have hl : i < (ks.map (·.1)).length := by rw [List.length_map]; exact (List.getElem?_eq_some_iff.mp e).1
  have hq : (ks.map (·.1))[i]? = (ks.map (·.1))[num ks k.1]? := by rw [List.getElem?_map, List.getElem?_map, e, e', Option.map_some, Option.map_some, hk]
  exact ((List.getElem?_inj hl nd).mp hq).symm
/-! ### the law's numbers -/
theorem f_pick {ns : List Int} {at_ n : Int} {k : Nat} {v : Int} (hk : at_ = k) (hv : ns[k]? = some v) (hn : 0 < n) : Fn_law_pick [dI ns, .int at_, .int n] = .ok (.int (v % n)) := by
  refine runFn_eq rfl ?_
  simp -implicitDefEqProofs [ini, body_law_pick, ix_I hk hv, opMod_of _ _ hn]
theorem f_own {nm : D} {c d s : Int} : Fn_own_work [.tup [nm, .int c, .int d], .int s] = .ok (.int (if d ≤ s then c else 0)) := by
  refine runFn_eq rfl ?_
  by_cases h : d ≤ s <;> simp -implicitDefEqProofs [ini, body_own_work, h]
theorem f_ratio {a b : Int} (h : 0 < b) (hb : b < 1000000) : ∃ g : Int, 0 < g ∧ g = Nat.gcd a.natAbs b.natAbs ∧ Fn_make_ratio [.int a, .int b] = .ok (.tup [.int (a / g), .int (b / g)]) := by
  have hg : 0 < Nat.gcd a.natAbs b.natAbs := Nat.gcd_pos_of_pos_right _ (by omega)
  have hl : Nat.gcd a.natAbs b.natAbs ≤ b.natAbs := Nat.gcd_le_right _ (by omega)
  refine ⟨_, by omega, rfl, runFn_eq rfl ?_⟩
  simp -implicitDefEqProofs [ini, body_make_ratio, show ¬ b = 0 by omega, show ¬ b < 0 by omega, opDiv_of _ _ (show (0 : Int) < (Nat.gcd a.natAbs b.natAbs : Nat) by omega) (by omega)]
theorem f_cmp {a b c d : Int} (h1 : -1000000 ≤ a ∧ a ≤ 1000000) (h2 : -1000000 ≤ c ∧ c ≤ 1000000) : Fn_compare_ratios [.tup [.int a, .int b], .tup [.int c, .int d]] = .ok (.int (if a * d < c * b then -1 else if c * b < a * d then 1 else 0)) := by
  refine runFn_eq rfl ?_
  by_cases h : a * d < c * b <;> by_cases h' : c * b < a * d <;> simp -implicitDefEqProofs [ini, body_compare_ratios, opMul_of' a d (by omega), opMul_of' c b (by omega), h, h']
/-! ### kind_number, cost, ways_from, the law's number -/
theorem f_kn {nm x : Str} {t : Tk} (h : x ∈ t.ks.map (·.1)) : Fn_Task_kind_number [dT nm t, .str x] = .ok (.int (num t.ks x)) := by
  refine runFn_eq rfl ?_
  have key := forS_ind (g := gT [2, 3]) (body := sIf (tV (e2 opEq (e2 opIx (eN 3) (eC (.int 0))) (eN 1))) (sRet (eN 2)) sNil) (fun o => o = .rt (.int (num t.ks x))) (prs 0 (t.ks.map dK))
    (fun i ρ => i ≤ num t.ks x ∧ ∃ a b, ρ = [.val (dT nm t), .val (.str x), a, b]) [.val (dT nm t), .val (.str x), .un, .un] ⟨Nat.zero_le _, _, _, rfl⟩ (fun i d ρ e hi => by
      obtain ⟨hle, a, b, rfl⟩ := hi
      obtain ⟨y, e1, rfl⟩ := prs_map _ _ _ _ e
      rw [List.getElem?_map] at e1
      obtain ⟨k, ek, rfl⟩ := Option.map_eq_some_iff.mp e1
      refine ⟨_, rfl, ?_⟩
      by_cases hk : k.1 = x
      · right
        have : num t.ks x = i := by
          have : ¬ i < num t.ks x := fun z => num_min z ek hk
          omega
        refine ⟨_, rfl, ?_, ?_⟩ <;> simp [dK, hk, this]
      · left
        refine ⟨[.val (dT nm t), .val (.str x), .val (.int (0 + i : Nat)), .val (dK k)], .inl (by simp [dK, hk]), ?_, _, _, rfl⟩
        have : i ≠ num t.ks x := fun z => by
          obtain ⟨k', e', hk'⟩ := num_get h
          rw [← z, ek] at e'
          cases e'
          exact hk hk'
        omega)
  rw [prs_len, List.length_map] at key
  rcases key with ⟨ρ', _, h1, _⟩ | h1
  · have := num_lt h; omega
  · simp -implicitDefEqProofs [ini, body_Task_kind_number, h1]
theorem f_cost {nm x : Str} {t : Tk} {k : Str × Int × Int} (h : x ∈ t.ks.map (·.1)) (hk : t.ks[num t.ks x]? = some k) : Fn_Task_cost [dT nm t, .str x] = .ok (.int k.2.1) := by
  refine runFn_eq rfl ?_
  have e1 : opIx (.tup (t.ks.map dK)) (.int (num t.ks x : Int)) = some (dK k) := ix_tup' rfl (by rw [List.getElem?_map, hk]; rfl)
  simp -implicitDefEqProofs [ini, body_Task_cost, f_kn h, e1]
  simp [dK]
theorem f_wf {nm x : Str} {t : Tk} (hz : t.ws.length ≤ 1000) (h : x ∈ t.ks.map (·.1)) : Fn_Task_ways_from [dT nm t, .str x] = .ok (.lst ((t.ws.filter fun w => decide (w.1 = x)).map fun w => .tup [.str w.2.1, .int w.2.2])) := by
  refine runFn_eq rfl ?_
  have key := lcGo_filter (g := gN 2) (tt := tV (e2 opEq (e2 opIx (eN 2) (eC (.int 0))) (eN 1))) (ev := eT (aC (e2 opIx (eN 2) (eC (.int 1))) (aC (e2 opIx (eN 2) (eC (.int 2))) aN))) (ρ := [.val (dT nm t), .val (.str x), .un]) (δ := dW)
    (fun w => decide (w.1 = x)) (fun w => .tup [.str w.2.1, .int w.2.2]) t.ws (fun w _ => ⟨_, rfl, by simp [dW], by simp [dW]⟩)
  have hz' : t.ws.length ≤ sizeLine := Nat.le_of_lt (small1000 hz)
  simp -implicitDefEqProofs [ini, body_Task_ways_from, f_kn h, hz', key]
theorem f_lnum {ks : List (Str × Int × Int)} {x : Str} (hz : ks.length ≤ 1000) (h : x ∈ ks.map (·.1)) : Fn_law_number [.lst (ks.map dK), .str x] = .ok (.int (num ks x)) := by
  refine runFn_eq rfl ?_
  have key := forS_ind (g := gN 2) (body := sIf (tV (e2 opEq (e2 opIx (e2 opIx (eN 0) (eN 2)) (eC (.int 0))) (eN 1))) (sRet (eN 2)) sNil) (fun o => o = .rt (.int (num ks x))) (rgD 0 (ks.length : Int))
    (fun i ρ => i ≤ num ks x ∧ ∃ a, ρ = [.val (.lst (ks.map dK)), .val (.str x), a]) [.val (.lst (ks.map dK)), .val (.str x), .un] ⟨Nat.zero_le _, _, rfl⟩ (fun i d ρ e hi => by
      obtain ⟨hle, a, rfl⟩ := hi
      obtain ⟨rfl, hl⟩ := rg0_some e
      have hl' : i < ks.length := by omega
      obtain ⟨k, ek⟩ : ∃ k, ks[i]? = some k := ⟨_, List.getElem?_eq_getElem hl'⟩
      have e1 : opIx (.lst (ks.map dK)) (.int (i : Int)) = some (.tup [.str k.1, .int k.2.1, .int k.2.2]) := ix_lst' (n := i) rfl (by rw [List.getElem?_map, ek]; rfl)
      refine ⟨[.val (.lst (ks.map dK)), .val (.str x), .val (.int i)], rfl, ?_⟩
      by_cases hk : k.1 = x
      · right
        have : num ks x = i := by
          have : ¬ i < num ks x := fun z => num_min z ek hk
          omega
        refine ⟨.rt (.int i), ?_, trivial, by rw [this]⟩
        simp [e1, hk]
      · left
        refine ⟨[.val (.lst (ks.map dK)), .val (.str x), .val (.int i)], .inl (by simp [e1, hk]), ?_, _, rfl⟩
        have : i ≠ num ks x := fun z => by
          obtain ⟨k', e', hk'⟩ := num_get h
          rw [← z, ek] at e'
          cases e'
          exact hk hk'
        omega)
  rw [rgD_length] at key
  rcases key with ⟨ρ', _, h1, _⟩ | h1
  · have := num_lt h; omega
  · simp -implicitDefEqProofs [ini, body_law_number, asR1_of (ks.length : Int) (by omega) (by omega), h1]
end G90

namespace G90
open PySem PySem.Spec PyProof.Rows L2 Pu
structure Ok (t : Tk) : Prop where
  k1 : 1 ≤ t.ks.length
  k8 : t.ks.length ≤ 4
  w16 : t.ws.length ≤ 8
  nd : (t.ks.map (·.1)).Nodup
  kk : ∀ k ∈ t.ks, 1 ≤ k.2.1 ∧ k.2.1 ≤ 1000 ∧ 1 ≤ k.2.2 ∧ k.2.2 ≤ 1000
  ww : ∀ w ∈ t.ws, w.1 ∈ t.ks.map (·.1) ∧ w.2.1 ∈ t.ks.map (·.1) ∧ 1 ≤ w.2.2 ∧ w.2.2 ≤ 1000
/-! ### the tables -/
def own (k : Str × Int × Int) (n : Nat) : Int := if k.2.2 ≤ (n : Int) then k.2.1 else 0
def at2 (f : List (List Int)) (L i : Nat) : Int := ((f[L]?.getD [])[i]?).getD 0
def bstep (t : Tk) (f : List (List Int)) (n : Nat) (b : Int) (w : Str × Str × Int) : Int := if w.2.2 ≤ (n : Int) then max b (at2 f (n - w.2.2.toNat) (num t.ks w.2.1)) else b
def bestC (t : Tk) (f : List (List Int)) (x : Str) (n : Nat) : Int := (t.ws.filter fun w => decide (w.1 = x)).foldl (bstep t f n) 0
def cellOf (t : Tk) (f : List (List Int)) (n : Nat) (k : Str × Int × Int) : Int := own k n + bestC t f k.1 n
def rowsN (t : Tk) : Nat → List (List Int)
  | 0 => []
  | n + 1 => rowsN t n ++ [t.ks.map (cellOf t (rowsN t n) n)]
theorem rowsN_len (t : Tk) : ∀ n, (rowsN t n).length = n
  | 0 => rfl
  | n + 1 => by show (rowsN t n ++ [_]).length = _; rw [List.length_append, rowsN_len t n]; rfl
theorem rowsN_row (t : Tk) : ∀ n, ∀ r ∈ rowsN t n, r.length = t.ks.length
  | 0, r, h => by cases h
  | n + 1, r, h => by
    rcases List.mem_append.mp h with h | h
    · exact rowsN_row t n r h
    · rw [List.mem_singleton.mp h, List.length_map]
theorem at2_get {f : List (List Int)} {L i m : Nat} (hf : ∀ r ∈ f, r.length = m) (hL : L < f.length) (hi : i < m) : ∃ r, f[L]? = some r ∧ r[i]? = some (at2 f L i) := by
  refine ⟨f[L], List.getElem?_eq_getElem hL, ?_⟩
  have hl : i < (f[L]).length := by rw [hf _ (List.getElem_mem hL)]; exact hi
  unfold at2
  rw [List.getElem?_eq_getElem hL, Option.getD_some, List.getElem?_eq_getElem hl, Option.getD_some]
theorem ix2 {f : List (List Int)} {a b : Int} {L i m : Nat} (hf : ∀ r ∈ f, r.length = m) (ha : a = L) (hb : b = i) (hL : L < f.length) (hi : i < m) :
    ∃ r, opIx (.lst (f.map dI)) (.int a) = some (dI r) ∧ opIx (dI r) (.int b) = some (.int (at2 f L i)) := by
  obtain ⟨r, e1, e2⟩ := at2_get hf hL hi
  exact ⟨r, ix_lst' ha (by rw [List.getElem?_map, e1]; rfl), ix_I hb e2⟩
theorem f_best {nm x : Str} {t : Tk} {f : List (List Int)} {n : Nat} (o : Ok t) (h : x ∈ t.ks.map (·.1)) (hn : n ≤ f.length) (hf : ∀ r ∈ f, r.length = t.ks.length) :
    Fn_best_continuation [dT nm t, .str x, .int n, .lst (f.map dI)] = .ok (.int (bestC t f x n)) := by
  refine runFn_eq rfl ?_
  have hz := o.w16
  have key := forS_thru (g := gT [5, 6]) (body := sIf (tV (e2 opLe (eN 6) (eN 2))) (sSet 4 (eF fMax2 (aC (eN 4) (aC (e2 opIx (e2 opIx (eN 3) (e2 opSub (eN 2) (eN 6))) (eMeth 0 "kind_number" Fn_Task_kind_number (eN 0) (aC (eN 5) aN))) aN)))) sNil)
    ((t.ws.filter fun w => decide (w.1 = x)).map fun w => .tup [.str w.2.1, .int w.2.2])
    (fun i ρ => ∃ a b, ρ = [.val (dT nm t), .val (.str x), .val (.int n), .val (.lst (f.map dI)), .val (.int (((t.ws.filter fun w => decide (w.1 = x)).take i).foldl (bstep t f n) 0)), a, b])
    [.val (dT nm t), .val (.str x), .val (.int n), .val (.lst (f.map dI)), .val (.int 0), .un, .un] ⟨_, _, rfl⟩ (fun i d ρ e hi => by
      obtain ⟨a, b, rfl⟩ := hi
      rw [List.getElem?_map] at e
      obtain ⟨w, ew, rfl⟩ := Option.map_eq_some_iff.mp e
      have hw := o.ww w (List.mem_filter.mp (List.mem_of_getElem? ew)).1
      rw [take_snoc ew, List.foldl_append]
      refine ⟨_, [.val (dT nm t), .val (.str x), .val (.int n), .val (.lst (f.map dI)), .val (.int (bstep t f n (((t.ws.filter fun w => decide (w.1 = x)).take i).foldl (bstep t f n) 0) w)), .val (.str w.2.1), .val (.int w.2.2)], rfl, ?_, _, _, rfl⟩
      by_cases hd : w.2.2 ≤ (n : Int)
      · obtain ⟨r, e1, e2⟩ := ix2 (a := (n : Int) - w.2.2) (L := n - w.2.2.toNat) hf (by omega) rfl (by omega) (num_lt hw.2.1)
        simp -implicitDefEqProofs [hd, e1, e2, f_kn hw.2.1, bstep]
      · simp -implicitDefEqProofs [hd, bstep])
  obtain ⟨ρ', e, a, b, rfl⟩ := key
  rw [List.length_map, List.take_length] at e
  simp -implicitDefEqProofs [ini, body_best_continuation, f_wf (nm := nm) (by omega : t.ws.length ≤ 1000) h, e, bestC]
theorem f_rows {nm : Str} {t : Tk} {n : Nat} (o : Ok t) (hn : n ≤ 500) : Fn_rows [dT nm t, .int n] = .ok (.lst ((rowsN t (n + 1)).map dI)) := by
  refine runFn_eq rfl ?_
  have inner : ∀ i : Nat, i ≤ n → ∀ c, ∃ c', forS (gN 5) (sApp 4 (e2 opAdd (eCall Fn_own_work (aC (eN 5) (aC (eN 3) aN))) (eCallB Fn_best_continuation (aC (eN 0) (aC (e2 opIx (eN 5) (eC (.int 0))) (aC (eN 3) (aC (eB 2) aN)))))))
      (t.ks.map dK) [.val (dT nm t), .val (.int n), .own ((rowsN t i).map dI), .val (.int i), .own [], c] = .nx [.val (dT nm t), .val (.int n), .own ((rowsN t i).map dI), .val (.int i), .own ((t.ks.map (cellOf t (rowsN t i) i)).map D.int), c'] := by
    intro i hi c
    obtain ⟨ρ', e, c', rfl⟩ := forS_thru (g := gN 5) (body := sApp 4 (e2 opAdd (eCall Fn_own_work (aC (eN 5) (aC (eN 3) aN))) (eCallB Fn_best_continuation (aC (eN 0) (aC (e2 opIx (eN 5) (eC (.int 0))) (aC (eN 3) (aC (eB 2) aN)))))))
      (t.ks.map dK) (fun j ρ => ∃ c, ρ = [.val (dT nm t), .val (.int n), .own ((rowsN t i).map dI), .val (.int i), .own (((t.ks.take j).map (cellOf t (rowsN t i) i)).map D.int), c])
      [.val (dT nm t), .val (.int n), .own ((rowsN t i).map dI), .val (.int i), .own [], c] ⟨_, rfl⟩ (fun j d ρ e hj => by
        obtain ⟨c, rfl⟩ := hj
        rw [List.getElem?_map] at e
        obtain ⟨k, ek, rfl⟩ := Option.map_eq_some_iff.mp e
        have hk : k.1 ∈ t.ks.map (·.1) := List.mem_map_of_mem (List.mem_of_getElem? ek)
        have hb := f_best (nm := nm) (f := rowsN t i) (n := i) o hk (by rw [rowsN_len]; exact Nat.le_refl _) (rowsN_row t i)
        have hsz : j < sizeLine := small1000 (by have := (List.getElem?_eq_some_iff.mp ek).1; have := o.k8; omega)
        have hsz' : min j t.ks.length < sizeLine := Nat.lt_of_le_of_lt (Nat.min_le_left _ _) hsz
        rw [take_snoc ek]
        refine ⟨_, [.val (dT nm t), .val (.int n), .own ((rowsN t i).map dI), .val (.int i), .own (((t.ks.take j ++ [k]).map (cellOf t (rowsN t i) i)).map D.int), .val (dK k)], rfl, .inl ?_, _, rfl⟩
        simp -implicitDefEqProofs [dK, f_own, hb, hsz', cellOf, own])
    rw [List.length_map, List.take_length] at e
    exact ⟨c', e⟩
  obtain ⟨ρ', e, a, b, c, rfl⟩ := forS_thru (g := gN 3) (body := sSeq (sOwn 4 aN)
    (sSeq (sFor (iS (e1 (fld 0 "kinds") (eN 0))) (gN 5) (sApp 4 (e2 opAdd (eCall Fn_own_work (aC (eN 5) (aC (eN 3) aN))) (eCallB Fn_best_continuation (aC (eN 0) (aC (e2 opIx (eN 5) (eC (.int 0))) (aC (eN 3) (aC (eB 2) aN))))))))
    (sFrz 4 (sApp 2 (eN 4))))) (rgD 0 ((n : Int) + 1))
    (fun i ρ => ∃ a b c, ρ = [.val (dT nm t), .val (.int n), .own ((rowsN t i).map dI), a, b, c]) [.val (dT nm t), .val (.int n), .own [], .un, .un, .un] ⟨_, _, _, rfl⟩ (fun i d ρ e hi => by
      obtain ⟨a, b, c, rfl⟩ := hi
      obtain ⟨rfl, hl⟩ := rg0_some e
      obtain ⟨c', e2⟩ := inner i (by omega) c
      have hsz : i < sizeLine := small1000 (by omega)
      refine ⟨_, [.val (dT nm t), .val (.int n), .own ((rowsN t (i + 1)).map dI), .val (.int i), .val (dI (t.ks.map (cellOf t (rowsN t i) i))), c'], rfl, .inl ?_, _, _, _, rfl⟩
      simp -implicitDefEqProofs [e2, hsz, rowsN_len, rowsN])
  have hl : (rgD 0 ((n : Int) + 1)).length = n + 1 := by rw [rgD_length]; omega
  rw [hl] at e
  simp -implicitDefEqProofs [ini, body_rows, asR1_of ((n : Int) + 1) (by omega) (by omega), e]
end G90

namespace G90
open PySem PySem.Spec PyProof.Rows L2 Pu
/-! ### the law's own tables -/
def lstep (t : Tk) (f : List (List Int)) (x : Str) (n : Nat) (b : Int) (w : Str × Str × Int) : Int := if w.1 = x then bstep t f n b w else b
theorem bestC_l (t : Tk) (f : List (List Int)) (x : Str) (n : Nat) : t.ws.foldl (lstep t f x n) 0 = bestC t f x n := by
  unfold bestC
  rw [List.foldl_filter]
  congr 1
  funext b w
  simp [lstep]
theorem ne_of_len {α : Type} {l : List α} {n : Nat} (h : l.length = n) (hn : 1 ≤ n) : l ≠ [] := fun z => by rw [z] at h; simp at h; omega
theorem f_demands {nm : Str} {t : Tk} {n : Nat} (o : Ok t) (hn : n ≤ 500) : Fn_demands [dT nm t, .int n] = .ok (dI ((rowsN t (n + 1)).map maxL)) := by
  refine runFn_eq rfl ?_
  have key := lcGo_map (g := gN 2) (ev := eF fMaxL (aC (eN 2) aN)) (ρ := [.val (dT nm t), .val (.int n), .un]) (δ := dI) (fun r => .int (maxL r)) (rowsN t (n + 1)) (fun r hr => ⟨_, rfl, by
    simp -implicitDefEqProofs [fMaxL_map (ne_of_len (rowsN_row t _ r hr) o.k1)]⟩)
  have hz : (rowsN t (n + 1)).length ≤ sizeLine := by rw [rowsN_len]; exact Nat.le_of_lt (small1000 (by omega))
  simp -implicitDefEqProofs [ini, body_demands, f_rows o hn, key, hz]
theorem f_demand {nm : Str} {t : Tk} {n : Nat} (o : Ok t) (hn : n ≤ 500) : ∃ r, (rowsN t (n + 1))[n]? = some r ∧ Fn_demand [dT nm t, .int n] = .ok (.int (maxL r)) := by
  have hl : n < (rowsN t (n + 1)).length := by rw [rowsN_len]; omega
  refine ⟨_, List.getElem?_eq_getElem hl, runFn_eq rfl ?_⟩
  have e : opIx (.lst ((rowsN t (n + 1)).map dI)) (.int n) = some (dI (rowsN t (n + 1))[n]) := ix_lst' rfl (by rw [List.getElem?_map, List.getElem?_eq_getElem hl]; rfl)
  simp -implicitDefEqProofs [ini, body_demand, f_rows o hn, e, fMaxL_map (ne_of_len (rowsN_row t _ _ (List.getElem_mem hl)) o.k1)]
/-- the rows, once laid, stay -/
theorem rowsN_get (t : Tk) {L : Nat} : ∀ {n : Nat}, L < n → (rowsN t n)[L]? = some (t.ks.map (cellOf t (rowsN t L) L))
  | 0, h => absurd h (Nat.not_lt_zero _)
  | n + 1, h => by
    show (rowsN t n ++ [_])[L]? = _
    by_cases hl : L < n
    · rw [List.getElem?_append_left (by rw [rowsN_len]; exact hl)]; exact rowsN_get t hl
    · have : L = n := by omega
      subst this
      rw [List.getElem?_append_right (by rw [rowsN_len]; exact Nat.le_refl _), rowsN_len, Nat.sub_self]; rfl
def row (t : Tk) (L : Nat) : List Int := t.ks.map (cellOf t (rowsN t L) L)
theorem row_len (t : Tk) (L : Nat) : (row t L).length = t.ks.length := List.length_map _
/-- the table -/
def val (t : Tk) (L i : Nat) : Int := (row t L)[i]?.getD 0
theorem at2_rows {t : Tk} {L n i : Nat} (h : L < n) : at2 (rowsN t n) L i = val t L i := by
  unfold at2 val row
  rw [rowsN_get t h]; rfl
theorem row_get {t : Tk} {L i : Nat} (h : i < t.ks.length) : (row t L)[i]? = some (val t L i) := by
  unfold val
  rw [List.getElem?_eq_getElem (by rw [row_len]; exact h)]; rfl
theorem rowsN_map (t : Tk) (n : Nat) : rowsN t n = (List.range n).map (row t) := by
  apply List.ext_getElem?
  intro L
  by_cases h : L < n
  · rw [rowsN_get t h, List.getElem?_map, List.getElem?_range h]; rfl
  · rw [List.getElem?_eq_none (by rw [rowsN_len]; omega), List.getElem?_eq_none (by rw [List.length_map, List.length_range]; omega)]
theorem row_max_ge {t : Tk} {L i : Nat} (h : i < t.ks.length) : val t L i ≤ maxL (row t L) := maxL_ge (List.mem_of_getElem? (row_get h))
theorem row_max_at {t : Tk} (o : Ok t) (L : Nat) : ∃ i, i < t.ks.length ∧ maxL (row t L) = val t L i := by
  have := maxL_mem (ne_of_len (row_len t L) o.k1)
  obtain ⟨i, hi⟩ := List.mem_iff_getElem?.mp this
  have hl := (List.getElem?_eq_some_iff.mp hi).1
  rw [row_len] at hl
  exact ⟨i, hl, by rw [row_get hl] at hi; exact (Option.some.inj hi).symm⟩
/-! ### the abstract table -/
def toW (t : Tk) (w : Str × Str × Int) : Nat × Nat × Nat := (num t.ks w.1, num t.ks w.2.1, w.2.2.toNat)
def sys (t : Tk) : Dem.Sys where
  W := t.ws.map (toW t)
  c := fun i => (t.ks[i]?.map (fun k : Str × Int × Int => k.2.1)).getD 0
  dl := fun i => ((t.ks[i]?.map (fun k : Str × Int × Int => k.2.2)).getD 0).toNat
/-- the best continuation of the kind of number i -/
def bst (t : Tk) (L i : Nat) : Int := ((t.ks[i]?.map fun k => bestC t (rowsN t L) k.1 L)).getD 0
theorem foldl_best {α : Type} {f : Int → α → Int} {P : α → Prop} {g : α → Int} (hf : ∀ b w, (P w ∧ f b w = max b (g w)) ∨ (¬ P w ∧ f b w = b)) : ∀ (l : List α) (b : Int), b ≤ l.foldl f b ∧ (∀ w ∈ l, P w → g w ≤ l.foldl f b) ∧ (l.foldl f b = b ∨ ∃ w ∈ l, P w ∧ l.foldl f b = g w)
  | [], b => ⟨Int.le_refl _, (fun w h => by cases h), .inl rfl⟩
  | w :: l, b => by
    obtain ⟨h1, h2, h3⟩ := foldl_best hf l (f b w)
    have hb : b ≤ f b w ∧ (P w → g w ≤ f b w) := by
      rcases hf b w with ⟨p, e⟩ | ⟨p, e⟩
      · rw [e]; exact ⟨Int.le_max_left _ _, fun _ => Int.le_max_right _ _⟩
      · rw [e]; exact ⟨Int.le_refl _, fun z => absurd z p⟩
    refine ⟨Int.le_trans hb.1 h1, fun x hx px => ?_, ?_⟩
    · rcases List.mem_cons.mp hx with rfl | hx
      · exact Int.le_trans (hb.2 px) h1
      · exact h2 x hx px
    · rcases h3 with h3 | ⟨x, hx, px, e⟩
      · rcases hf b w with ⟨p, e⟩ | ⟨p, e⟩
        · by_cases hm : g w ≤ b
          · left; show l.foldl f (f b w) = b; rw [h3, e]; omega
          · right; refine ⟨w, List.mem_cons_self, p, ?_⟩; show l.foldl f (f b w) = g w; rw [h3, e]; omega
        · left; show l.foldl f (f b w) = b; rw [h3, e]
      · exact .inr ⟨x, List.mem_cons_of_mem _ hx, px, e⟩
theorem best_facts {t : Tk} (o : Ok t) (L : Nat) (x : Str) : 0 ≤ bestC t (rowsN t L) x L ∧ (∀ w ∈ t.ws, w.1 = x → w.2.2 ≤ (L : Int) → val t (L - w.2.2.toNat) (num t.ks w.2.1) ≤ bestC t (rowsN t L) x L) ∧
    (bestC t (rowsN t L) x L = 0 ∨ ∃ w ∈ t.ws, w.1 = x ∧ w.2.2 ≤ (L : Int) ∧ bestC t (rowsN t L) x L = val t (L - w.2.2.toNat) (num t.ks w.2.1)) := by
  have key := foldl_best (f := bstep t (rowsN t L) L) (P := fun w : Str × Str × Int => w.2.2 ≤ (L : Int)) (g := fun w => at2 (rowsN t L) (L - w.2.2.toNat) (num t.ks w.2.1)) (fun b w => by
    unfold bstep
    by_cases h : w.2.2 ≤ (L : Int)
    · exact .inl ⟨h, if_pos h⟩
    · exact .inr ⟨h, if_neg h⟩) (t.ws.filter fun w => decide (w.1 = x)) 0
  have cv : ∀ w ∈ t.ws, w.2.2 ≤ (L : Int) → at2 (rowsN t L) (L - w.2.2.toNat) (num t.ks w.2.1) = val t (L - w.2.2.toNat) (num t.ks w.2.1) := fun w hw hd => at2_rows (by have := (o.ww w hw).2.2.1; omega)
  refine ⟨key.1, fun w hw hx hd => ?_, ?_⟩
  · rw [← cv w hw hd]
    exact key.2.1 w (List.mem_filter.mpr ⟨hw, by simpa using hx⟩) hd
  · rcases key.2.2 with h | ⟨w, hw, hd, e⟩
    · exact .inl h
    · have hw' := List.mem_filter.mp hw
      refine .inr ⟨w, hw'.1, by simpa using hw'.2, hd, ?_⟩
      rw [← cv w hw'.1 hd]
      exact e
theorem val_at {t : Tk} {L i : Nat} {k : Str × Int × Int} (e : t.ks[i]? = some k) : val t L i = own k L + bst t L i := by
  unfold val row bst
  rw [List.getElem?_map, e]; rfl
theorem tab {t : Tk} (o : Ok t) : Dem.Tab (sys t) (fun L i => val t L i) (bst t) where
  pos := fun w hw => by
    obtain ⟨v, hv, rfl⟩ := List.mem_map.mp hw
    have := (o.ww v hv).2.2.1
    show 1 ≤ v.2.2.toNat
    omega
  cp := fun i => by
    show 0 ≤ (t.ks[i]?.map (fun k : Str × Int × Int => k.2.1)).getD 0
    cases e : t.ks[i]? with
    | none => exact Int.le_refl _
    | some k => have := (o.kk k (List.mem_of_getElem? e)).1; show 0 ≤ k.2.1; omega
  rec_ := fun L i => by
    show val t L i = _
    cases e : t.ks[i]? with
    | none =>
      have h1 : val t L i = 0 := by unfold val row; rw [List.getElem?_map, e]; rfl
      have h2 : bst t L i = 0 := by unfold bst; rw [e]; rfl
      have h3 : (sys t).c i = 0 := by show (t.ks[i]?.map (fun k : Str × Int × Int => k.2.1)).getD 0 = 0; rw [e]; rfl
      rw [h1, h2, h3]
      split <;> rfl
    | some k =>
      have h3 : (sys t).c i = k.2.1 := by show (t.ks[i]?.map (fun k : Str × Int × Int => k.2.1)).getD 0 = _; rw [e]; rfl
      have h4 : (sys t).dl i = k.2.2.toNat := by show ((t.ks[i]?.map (fun k : Str × Int × Int => k.2.2)).getD 0).toNat = _; rw [e]; rfl
      have := (o.kk k (List.mem_of_getElem? e)).2.2.1
      rw [val_at e, h3, h4]
      unfold own
      by_cases h : k.2.2 ≤ (L : Int)
      · rw [if_pos h, if_pos (by omega)]
      · rw [if_neg h, if_neg (by omega)]
  b0 := fun L i => by
    unfold bst
    cases e : t.ks[i]? with
    | none => exact Int.le_refl _
    | some k => exact (best_facts o L k.1).1
  b1 := fun L w hw hd => by
    obtain ⟨v, hv, rfl⟩ := List.mem_map.mp hw
    have hv' := o.ww v hv
    obtain ⟨k, ek, hk⟩ := num_get hv'.1
    have hd' : v.2.2.toNat ≤ L := hd
    have := (best_facts o L k.1).2.1 v hv hk.symm (by omega)
    show val t (L - v.2.2.toNat) (num t.ks v.2.1) ≤ bst t L (num t.ks v.1)
    unfold bst
    rw [ek]
    exact this
  b2 := fun L i => by
    unfold bst
    cases e : t.ks[i]? with
    | none => exact .inl rfl
    | some k =>
      rcases (best_facts o L k.1).2.2 with h | ⟨v, hv, hx, hd, e2⟩
      · exact .inl h
      · refine .inr ⟨toW t v, List.mem_map_of_mem hv, ?_, by show v.2.2.toNat ≤ L; omega, e2⟩
        show num t.ks v.1 = i
        rw [hx]; exact num_of o.nd e
end G90

namespace G90
open PySem PySem.Spec PyProof.Rows L2 Pu
/-! ### first_excess -/
theorem dem_of {nm : Str} {t : Tk} {h : Nat} (o : Ok t) (hn : h ≤ 500) : ∃ U : List Int, Fn_demands [dT nm t, .int h] = .ok (dI U) ∧ U.length = h + 1 ∧ ∀ L, L ≤ h → U[L]? = some (maxL (row t L)) :=
  ⟨_, f_demands o hn, by rw [List.length_map, rowsN_len], fun L hL => by rw [List.getElem?_map, rowsN_get t (by omega)]; rfl⟩
theorem f_fe {a b : Str} {t u : Tk} {h : Nat} (o : Ok t) (o2 : Ok u) (hn : h ≤ 500) :
    (Fn_first_excess [dT a t, dT b u, .int h] = .ok .non ∧ ∀ L, L ≤ h → maxL (row t L) ≤ maxL (row u L)) ∨ ∃ L : Nat, L ≤ h ∧ Fn_first_excess [dT a t, dT b u, .int h] = .ok (.int L) := by
  obtain ⟨V, d1, hVl, gV⟩ := dem_of (nm := a) o hn
  obtain ⟨U, d2, hUl, gU⟩ := dem_of (nm := b) o2 hn
  have key := forS_ind (g := gT [4, 5]) (body := sIf (tV (e2 opGt (eN 5) (e2 opIx (eN 3) (eN 4)))) (sRet (eN 4)) sNil) (fun q => ∃ L : Nat, L ≤ h ∧ q = .rt (.int L)) (prs 0 (V.map D.int))
    (fun i ρ => (∀ L, L < i → L ≤ h → maxL (row t L) ≤ maxL (row u L)) ∧ ∃ x y, ρ = [.val (dT a t), .val (dT b u), .val (.int h), .val (dI U), x, y])
    [.val (dT a t), .val (dT b u), .val (.int h), .val (dI U), .un, .un] ⟨fun L hL => absurd hL (Nat.not_lt_zero _), _, _, rfl⟩ (fun i d ρ e hi => by
      obtain ⟨hle, x, y, rfl⟩ := hi
      obtain ⟨v, e1, rfl⟩ := prs_map _ _ _ _ e
      rw [List.getElem?_map] at e1
      obtain ⟨z, ez, rfl⟩ := Option.map_eq_some_iff.mp e1
      have hl : i ≤ h := by
        have := (List.getElem?_eq_some_iff.mp ez).1
        omega
      rw [gV i hl] at ez
      cases ez
      have e2 : opIx (dI U) (.int (0 + i : Nat)) = some (.int (maxL (row u i))) := ix_I (n := i) (by omega) (gU i hl)
      refine ⟨[.val (dT a t), .val (dT b u), .val (.int h), .val (dI U), .val (.int (0 + i : Nat)), .val (.int (maxL (row t i)))], rfl, ?_⟩
      by_cases hc : maxL (row u i) < maxL (row t i)
      · right
        refine ⟨.rt (.int (0 + i : Nat)), ?_, trivial, 0 + i, by omega, rfl⟩
        generalize ((0 + i : Nat) : Int) = N at e2 ⊢
        simp -implicitDefEqProofs [e2, hc]
      · left
        refine ⟨[.val (dT a t), .val (dT b u), .val (.int h), .val (dI U), .val (.int (0 + i : Nat)), .val (.int (maxL (row t i)))], .inl ?_, fun L hL hh => ?_, _, _, rfl⟩
        · generalize ((0 + i : Nat) : Int) = N at e2 ⊢
          simp -implicitDefEqProofs [e2, hc]
        · by_cases q : L = i
          · subst q; omega
          · exact hle L (by omega) hh)
  rcases key with ⟨ρ', e, h1, _⟩ | ⟨L, hL, e⟩
  · left
    refine ⟨runFn_eq rfl ?_, fun L hL => h1 L ?_ hL⟩
    · simp -implicitDefEqProofs [ini, body_first_excess, d1, d2, e]
    · rw [prs_len, List.length_map]; omega
  · right
    refine ⟨L, hL, runFn_eq rfl ?_⟩
    simp -implicitDefEqProofs [ini, body_first_excess, d1, d2, e]
/-! ### the properties -/
theorem map_ints {α : Type} (f : α → Int) (l : List α) : (l.map fun x => D.int (f x)) = (l.map f).map D.int := by rw [List.map_map]; rfl
theorem f_latest {nm : Str} {t : Tk} (o : Ok t) : ∃ D0 : Nat, D0 ≤ 1000 ∧ 1 ≤ D0 ∧ Fn_Task_latest_deadline [dT nm t] = .ok (.int D0) ∧ ∀ k ∈ t.ks, k.2.2 ≤ (D0 : Int) := by
  have k8 := o.k8
  have hne : t.ks.map (fun k : Str × Int × Int => k.2.2) ≠ [] := ne_of_len (List.length_map _) o.k1
  obtain ⟨k, hk, e⟩ := List.mem_map.mp (maxL_mem hne)
  have hk' := o.kk k hk
  refine ⟨(maxL (t.ks.map fun k : Str × Int × Int => k.2.2)).toNat, by omega, by omega, runFn_eq rfl ?_, fun k hk => ?_⟩
  · have key := lcGo_map (g := gN 1) (ev := e2 opIx (eN 1) (eC (.int 2))) (ρ := [.val (dT nm t), .un]) (δ := dK) (fun k => .int k.2.2) t.ks (fun k _ => ⟨_, rfl, by simp -implicitDefEqProofs [dK]⟩)
    rw [map_ints] at key
    have hz : t.ks.length ≤ sizeLine := Nat.le_of_lt (small1000 (by omega))
    simp -implicitDefEqProofs [ini, body_Task_latest_deadline, key, hz, -List.map_map, fMaxL_map hne]
    omega
  · have := maxL_ge (List.mem_map_of_mem (f := fun k : Str × Int × Int => k.2.2) hk)
    omega
theorem f_longest {nm : Str} {t : Tk} (o : Ok t) : ∃ q : Nat, q ≤ 1000 ∧ Fn_Task_longest_distance [dT nm t] = .ok (.int q) ∧ ∀ w ∈ t.ws, w.2.2 ≤ (q : Int) := by
  have w16 := o.w16
  have key := lcGo_map (g := gN 1) (ev := e2 opIx (eN 1) (eC (.int 2))) (ρ := [.val (dT nm t), .un]) (δ := dW) (fun w => .int w.2.2) t.ws (fun k _ => ⟨_, rfl, by simp -implicitDefEqProofs [dW]⟩)
  rw [map_ints] at key
  have hz : t.ws.length ≤ sizeLine := Nat.le_of_lt (small1000 (by omega))
  have run : ∀ z : Int, (if (t.ws.map fun w : Str × Str × Int => w.2.2).isEmpty = true then 0 else maxL (t.ws.map fun w : Str × Str × Int => w.2.2)) = z → (body_Task_longest_distance (ini 2 [dT nm t])).res = .ok (.int z) := by
    intro z hz'
    subst hz'
    generalize (t.ws.map fun w : Str × Str × Int => w.2.2) = l at key ⊢
    simp -implicitDefEqProofs [ini, body_Task_longest_distance, key, hz, -List.map_map, eMaxD]
  by_cases hne : t.ws = []
  · refine ⟨0, by omega, runFn_eq rfl (run 0 (by rw [hne]; rfl)), fun w hw => by rw [hne] at hw; cases hw⟩
  · have hne' : (t.ws.map fun w : Str × Str × Int => w.2.2) ≠ [] := fun z => hne (List.map_eq_nil_iff.mp z)
    obtain ⟨k, hk, e⟩ := List.mem_map.mp (maxL_mem hne')
    have hk' := o.ww k hk
    refine ⟨(maxL (t.ws.map fun w : Str × Str × Int => w.2.2)).toNat, by omega, runFn_eq rfl (run _ ?_), fun w hw => ?_⟩
    · rw [if_neg (fun z => hne' (List.isEmpty_iff.mp z))]; omega
    · have := maxL_ge (List.mem_map_of_mem (f := fun k : Str × Str × Int => k.2.2) hw)
      omega
/-! ### a number among numbers -/
theorem in_ints (i : Int) (l : List Int) : opIn (.int i) (dI l) = some (.bl (decide (i ∈ l))) := by
  have h1 : (l.map D.int).all flat = true := by
    rw [List.all_map, List.all_eq_true]; intro x _; rfl
  have h2 : ((l.map D.int).any fun y => eqF y (.int i)) = decide (i ∈ l) := by
    rw [List.any_map]
    induction l with
    | nil => rfl
    | cons x l ih =>
      rw [List.any_cons, ih (by rw [List.all_map, List.all_eq_true]; intro x _; rfl)]
      show (x == i || decide (i ∈ l)) = _
      by_cases hx : x = i
      · subst hx; simp
      · have h3 : (x == i) = false := by simpa using hx
        rw [h3]; simp [Ne.symm hx]
  show (inF (.int i) (l.map D.int)).map D.bl = _
  unfold inF
  rw [h1, h2]
  rfl
theorem notin_ints (i : Int) (l : List Int) : opNotIn (.int i) (dI l) = some (.bl (!decide (i ∈ l))) := by
  have h := in_ints i l
  unfold opIn at h
  unfold opNotIn
  obtain ⟨b, e1, e2⟩ := Option.map_eq_some_iff.mp h
  cases e2
  rw [e1]; rfl
end G90

namespace G90
open PySem PySem.Spec PyProof.Rows L2 Pu
theorem ix_row {t : Tk} {h L : Nat} {a : Int} (hL : L ≤ h) (ha : a = L) : opIx (.lst ((rowsN t (h + 1)).map dI)) (.int a) = some (dI (row t L)) :=
  ix_lst' ha (by rw [List.getElem?_map, rowsN_get t (by omega)]; rfl)
theorem ix_val {t : Tk} {L i : Nat} {a : Int} (hi : i < t.ks.length) (ha : a = i) : opIx (dI (row t L)) (.int a) = some (.int (val t L i)) := ix_I ha (row_get hi)
/-- what grows_alike tells -/
def Grows (t : Tk) (kept : List Int) (h count step : Nat) (g : Int) : Prop := ∀ below, below < count → ∀ i, i < t.ks.length → val t (h - below) i - val t (h - below - step) i ≤ g ∧ ((i : Int) ∈ kept → val t (h - below) i - val t (h - below - step) i = g)
theorem f_grows {t : Tk} {kept : List Int} {h count step : Nat} {g : Int} (hc : count + step ≤ h) (hn : h ≤ 500) :
    Fn_grows_alike [.lst ((rowsN t (h + 1)).map dI), dI kept, .int h, .int count, .int step, .int g] = .ok (.bl false) ∨
    (Fn_grows_alike [.lst ((rowsN t (h + 1)).map dI), dI kept, .int h, .int count, .int step, .int g] = .ok (.bl true) ∧ Grows t kept h count step g) := by
  obtain ⟨f, hf, gf⟩ : ∃ f, f = .lst ((rowsN t (h + 1)).map dI) ∧ ∀ (L : Nat) (a : Int), L ≤ h → a = L → opIx f (.int a) = some (dI (row t L)) := ⟨_, rfl, fun L a hL ha => ix_row hL ha⟩
  rw [← hf]
  have inner : ∀ below : Nat, below < count → ∀ x y, (∃ x' y', forS (gT [9, 10]) (sSeq (sIf (tV (e2 opGt (e2 opSub (eN 10) (e2 opIx (eN 8) (eN 9))) (eN 5))) (sRet (eC (.bl false))) sNil)
    (sIf (tAnd' (tV (e2 opIn (eN 9) (eN 1))) (tV (e2 opNe (e2 opSub (eN 10) (e2 opIx (eN 8) (eN 9))) (eN 5)))) (sRet (eC (.bl false))) sNil)) (prs 0 ((row t (h - below)).map D.int))
      [.val f, .val (dI kept), .val (.int h), .val (.int count), .val (.int step), .val (.int g), .val (.int below), .val (dI (row t (h - below))), .val (dI (row t (h - below - step))), x, y] =
      .nx [.val f, .val (dI kept), .val (.int h), .val (.int count), .val (.int step), .val (.int g), .val (.int below), .val (dI (row t (h - below))), .val (dI (row t (h - below - step))), x', y'] ∧
      ∀ i, i < t.ks.length → val t (h - below) i - val t (h - below - step) i ≤ g ∧ ((i : Int) ∈ kept → val t (h - below) i - val t (h - below - step) i = g)) ∨
      forS (gT [9, 10]) (sSeq (sIf (tV (e2 opGt (e2 opSub (eN 10) (e2 opIx (eN 8) (eN 9))) (eN 5))) (sRet (eC (.bl false))) sNil)
    (sIf (tAnd' (tV (e2 opIn (eN 9) (eN 1))) (tV (e2 opNe (e2 opSub (eN 10) (e2 opIx (eN 8) (eN 9))) (eN 5)))) (sRet (eC (.bl false))) sNil)) (prs 0 ((row t (h - below)).map D.int))
      [.val f, .val (dI kept), .val (.int h), .val (.int count), .val (.int step), .val (.int g), .val (.int below), .val (dI (row t (h - below))), .val (dI (row t (h - below - step))), x, y] = .rt (.bl false) := by
    intro below hb x y
    have key := forS_ind (g := gT [9, 10]) (body := sSeq (sIf (tV (e2 opGt (e2 opSub (eN 10) (e2 opIx (eN 8) (eN 9))) (eN 5))) (sRet (eC (.bl false))) sNil)
    (sIf (tAnd' (tV (e2 opIn (eN 9) (eN 1))) (tV (e2 opNe (e2 opSub (eN 10) (e2 opIx (eN 8) (eN 9))) (eN 5)))) (sRet (eC (.bl false))) sNil)) (fun o => o = .rt (.bl false)) (prs 0 ((row t (h - below)).map D.int))
      (fun j ρ => (∀ i, i < j → val t (h - below) i - val t (h - below - step) i ≤ g ∧ ((i : Int) ∈ kept → val t (h - below) i - val t (h - below - step) i = g)) ∧ ∃ x y, ρ = [.val f, .val (dI kept), .val (.int h), .val (.int count), .val (.int step), .val (.int g), .val (.int below), .val (dI (row t (h - below))), .val (dI (row t (h - below - step))), x, y])
      [.val f, .val (dI kept), .val (.int h), .val (.int count), .val (.int step), .val (.int g), .val (.int below), .val (dI (row t (h - below))), .val (dI (row t (h - below - step))), x, y] ⟨fun i hi => absurd hi (Nat.not_lt_zero _), _, _, rfl⟩ (fun i d ρ e hi => by
        obtain ⟨hle, x, y, rfl⟩ := hi
        obtain ⟨v, e1, rfl⟩ := prs_map _ _ _ _ e
        rw [List.getElem?_map] at e1
        obtain ⟨z, ez, rfl⟩ := Option.map_eq_some_iff.mp e1
        have hl : i < t.ks.length := by
          have := (List.getElem?_eq_some_iff.mp ez).1
          rwa [row_len] at this
        rw [row_get hl] at ez
        cases ez
        rw [Nat.zero_add]
        have e2 : opIx (dI (row t (h - below - step))) (.int (i : Nat)) = some (.int (val t (h - below - step) i)) := ix_val hl rfl
        have e3 := in_ints (i : Int) kept
        refine ⟨[.val f, .val (dI kept), .val (.int h), .val (.int count), .val (.int step), .val (.int g), .val (.int below), .val (dI (row t (h - below))), .val (dI (row t (h - below - step))), .val (.int (i : Nat)), .val (.int (val t (h - below) i))], rfl, ?_⟩
        have hnx : ∀ i', i' < i + 1 → (i' = i → val t (h - below) i - val t (h - below - step) i ≤ g ∧ ((i : Int) ∈ kept → val t (h - below) i - val t (h - below - step) i = g)) → val t (h - below) i' - val t (h - below - step) i' ≤ g ∧ ((i' : Int) ∈ kept → val t (h - below) i' - val t (h - below - step) i' = g) := fun i' h1 h2 => by
          by_cases q : i' = i
          · subst q; exact h2 rfl
          · exact hle i' (by omega)
        generalize dI (row t (h - below - step)) = G at e2 ⊢
        generalize dI (row t (h - below)) = G2 at e2 ⊢
        generalize dI kept = G3 at e3 ⊢
        by_cases h1 : g < val t (h - below) i - val t (h - below - step) i
        · right
          exact ⟨.rt (.bl false), by simp -implicitDefEqProofs [e2, h1], trivial, rfl⟩
        · by_cases h2 : (i : Int) ∈ kept
          · by_cases h3 : val t (h - below) i - val t (h - below - step) i = g
            · left
              refine ⟨[.val f, .val G3, .val (.int h), .val (.int count), .val (.int step), .val (.int g), .val (.int below), .val G2, .val G, .val (.int (i : Nat)), .val (.int (val t (h - below) i))], .inl ?_, fun i' hi' => hnx i' hi' fun _ => ⟨by omega, fun _ => h3⟩, _, _, rfl⟩
              simp -implicitDefEqProofs [e2, e3, h2, h3]
            · right
              exact ⟨.rt (.bl false), by simp -implicitDefEqProofs [e2, e3, h1, h2, h3], trivial, rfl⟩
          · left
            refine ⟨[.val f, .val G3, .val (.int h), .val (.int count), .val (.int step), .val (.int g), .val (.int below), .val G2, .val G, .val (.int (i : Nat)), .val (.int (val t (h - below) i))], .inl ?_, fun i' hi' => hnx i' hi' fun _ => ⟨by omega, fun z => absurd z h2⟩, _, _, rfl⟩
            simp -implicitDefEqProofs [e2, e3, h1, h2])
    rcases key with ⟨ρ', e, h1, x', y', rfl⟩ | e
    · rw [prs_len, List.length_map, row_len] at h1
      exact .inl ⟨x', y', e, h1⟩
    · exact .inr e
  have key := forS_ind (g := gN 6) (body := sSeq (sSet 7 (e2 opIx (eN 0) (e2 opSub (eN 2) (eN 6))))
    (sSeq (sSet 8 (e2 opIx (eN 0) (e2 opSub (e2 opSub (eN 2) (eN 6)) (eN 4))))
    (sFor (iE (aC (eN 7) aN)) (gT [9, 10]) (sSeq (sIf (tV (e2 opGt (e2 opSub (eN 10) (e2 opIx (eN 8) (eN 9))) (eN 5))) (sRet (eC (.bl false))) sNil)
    (sIf (tAnd' (tV (e2 opIn (eN 9) (eN 1))) (tV (e2 opNe (e2 opSub (eN 10) (e2 opIx (eN 8) (eN 9))) (eN 5)))) (sRet (eC (.bl false))) sNil))))) (fun o => o = .rt (.bl false)) (rgD 0 (count : Int))
    (fun j ρ => (∀ below, below < j → ∀ i, i < t.ks.length → val t (h - below) i - val t (h - below - step) i ≤ g ∧ ((i : Int) ∈ kept → val t (h - below) i - val t (h - below - step) i = g)) ∧ ∃ x1 x2 x3 x4 x5, ρ = [.val f, .val (dI kept), .val (.int h), .val (.int count), .val (.int step), .val (.int g), x1, x2, x3, x4, x5])
    [.val f, .val (dI kept), .val (.int h), .val (.int count), .val (.int step), .val (.int g), .un, .un, .un, .un, .un] ⟨fun i hi => absurd hi (Nat.not_lt_zero _), _, _, _, _, _, rfl⟩ (fun i d ρ e hi => by
      obtain ⟨hle, x1, x2, x3, x4, x5, rfl⟩ := hi
      obtain ⟨rfl, hl⟩ := rg0_some e
      have e1 := gf (h - i) ((h : Int) - i) (by omega) (by omega)
      have e2 := gf (h - i - step) ((h : Int) - i - step) (by omega) (by omega)
      have inn := inner i (by omega) x4 x5
      refine ⟨[.val f, .val (dI kept), .val (.int h), .val (.int count), .val (.int step), .val (.int g), .val (.int i), x2, x3, x4, x5], rfl, ?_⟩
      generalize row t (h - i) = r1 at inn e1
      generalize row t (h - i - step) = r2 at inn e2
      rcases inn with ⟨x', y', e3, h3⟩ | e3
      · left
        refine ⟨[.val f, .val (dI kept), .val (.int h), .val (.int count), .val (.int step), .val (.int g), .val (.int i), .val (dI r1), .val (dI r2), x', y'], .inl ?_, fun below hb => ?_, _, _, _, _, _, rfl⟩
        · simp -implicitDefEqProofs [e1, e2, e3]
        · by_cases q : below = i
          · subst q; exact h3
          · exact hle below (by omega)
      · right
        refine ⟨.rt (.bl false), ?_, trivial, rfl⟩
        simp -implicitDefEqProofs [e1, e2, e3])
  rcases key with ⟨ρ', e, h1, _⟩ | e
  · right
    refine ⟨runFn_eq rfl ?_, ?_⟩
    · simp -implicitDefEqProofs [ini, body_grows_alike, asR1_of (count : Int) (by omega) (by omega), e]
    · rw [rgD_length] at h1
      have : ((count : Int) - 0).toNat = count := by omega
      rw [this] at h1
      exact h1
  · left
    refine runFn_eq rfl ?_
    simp -implicitDefEqProofs [ini, body_grows_alike, asR1_of (count : Int) (by omega) (by omega), e]
end G90

namespace G90
open PySem PySem.Spec PyProof.Rows L2 Pu
theorem foldl_congr' {α β : Type} {f g : β → α → β} : ∀ (l : List α) (b : β), (∀ w ∈ l, ∀ b, f b w = g b w) → l.foldl f b = l.foldl g b
  | [], _, _ => rfl
  | w :: l, b, h => by
    show l.foldl f (f b w) = l.foldl g (g b w)
    rw [h w List.mem_cons_self b]
    exact foldl_congr' l _ fun x hx => h x (List.mem_cons_of_mem _ hx)
theorem bestC_stable {t : Tk} (o : Ok t) {L m : Nat} (x : Str) (h : L ≤ m) : bestC t (rowsN t m) x L = bestC t (rowsN t L) x L := by
  unfold bestC
  refine foldl_congr' _ _ fun w hw b => ?_
  have hw' := o.ww w (List.mem_filter.mp hw).1
  unfold bstep
  by_cases hd : w.2.2 ≤ (L : Int)
  · rw [if_pos hd, if_pos hd, at2_rows (by omega), at2_rows (by omega)]
  · rw [if_neg hd, if_neg hd]
/-- the best within the kept kinds -/
def wstep (t : Tk) (kept : List Int) (L : Nat) (b : Int) (w : Str × Str × Int) : Int := if w.2.2 ≤ (L : Int) ∧ (num t.ks w.2.1 : Int) ∈ kept then max b (val t (L - w.2.2.toNat) (num t.ks w.2.1)) else b
def within (t : Tk) (kept : List Int) (L : Nat) (x : Str) : Int := (t.ws.filter fun w => decide (w.1 = x)).foldl (wstep t kept L) 0
def Within (t : Tk) (kept : List Int) (L : Nat) (g : Int) : Prop := ∀ i : Nat, (i : Int) ∈ kept → (bst t L i = 0 ∧ g = 0) ∨ ∃ w ∈ t.ws, num t.ks w.1 = i ∧ w.2.2 ≤ (L : Int) ∧ (num t.ks w.2.1 : Int) ∈ kept ∧ bst t L i = val t (L - w.2.2.toNat) (num t.ks w.2.1)
theorem f_stays {nm : Str} {t : Tk} {kept : List Int} {h L : Nat} {g : Int} (o : Ok t) (hk : ∀ i ∈ kept, ∃ n : Nat, n < t.ks.length ∧ i = n) (hL : L ≤ h) (hn : h ≤ 500) :
    Fn_stays_within [dT nm t, .lst ((rowsN t (h + 1)).map dI), dI kept, .int L, .int g] = .ok (.bl false) ∨
    (Fn_stays_within [dT nm t, .lst ((rowsN t (h + 1)).map dI), dI kept, .int L, .int g] = .ok (.bl true) ∧ Within t kept L g) := by
  have w16 := o.w16
  obtain ⟨f, gf, fb⟩ : ∃ f : D, (∀ (L : Nat) (a : Int), L ≤ h → a = L → opIx f (.int a) = some (dI (row t L))) ∧ (f = .lst ((rowsN t (h + 1)).map dI) ∧ ∀ x, x ∈ t.ks.map (·.1) → Fn_best_continuation [dT nm t, .str x, .int L, f] = .ok (.int (bestC t (rowsN t L) x L))) :=
    ⟨_, fun L a hL ha => ix_row hL ha, rfl, fun x hx => by rw [f_best o hx (by rw [rowsN_len]; omega) (rowsN_row t _), bestC_stable o x (by omega)]⟩
  obtain ⟨hf, fb⟩ := fb
  rw [← hf]
  clear hf
  obtain ⟨T, hT, kn, wf, bc⟩ : ∃ T : D, T = dT nm t ∧ (∀ x, x ∈ t.ks.map (·.1) → eMeth 0 "kind_number" Fn_Task_kind_number = eMeth 0 "kind_number" Fn_Task_kind_number ∧ (oOk 0 "kind_number" T = true ∧ Fn_Task_kind_number [T, .str x] = .ok (.int (num t.ks x)))) ∧
    (∀ x, x ∈ t.ks.map (·.1) → oOk 0 "ways_from" T = true ∧ Fn_Task_ways_from [T, .str x] = .ok (.lst ((t.ws.filter fun w => decide (w.1 = x)).map fun w => .tup [.str w.2.1, .int w.2.2]))) ∧ fld 0 "kinds" T = some (.tup (t.ks.map dK)) :=
    ⟨_, rfl, fun x hx => ⟨rfl, ook_kn _ _, f_kn hx⟩, fun x hx => ⟨ook_wf _ _, f_wf (by omega) hx⟩, fld_kinds _ _⟩
  rw [← hT] at fb ⊢
  clear hT
  have inner : ∀ (num0 : Int) (x : Str) a b c, ∃ a' b' c', forS (gT [8, 9]) (sSeq (sSet 10 (eMeth 0 "kind_number" Fn_Task_kind_number (eN 0) (aC (eN 8) aN)))
    (sIf (tAnd' (tV (e2 opLe (eN 9) (eN 3))) (tV (e2 opIn (eN 10) (eN 2)))) (sSet 7 (eF fMax2 (aC (eN 7) (aC (e2 opIx (e2 opIx (eN 1) (e2 opSub (eN 3) (eN 9))) (eN 10)) aN)))) sNil))
      ((t.ws.filter fun w => decide (w.1 = x)).map fun w => .tup [.str w.2.1, .int w.2.2]) [.val T, .val f, .val (dI kept), .val (.int L), .val (.int g), .val (.int num0), .val (.str x), .val (.int 0), a, b, c] =
      .nx [.val T, .val f, .val (dI kept), .val (.int L), .val (.int g), .val (.int num0), .val (.str x), .val (.int (within t kept L x)), a', b', c'] := by
    intro num0 x a b c
    obtain ⟨ρ', e, a', b', c', rfl⟩ := forS_thru (g := gT [8, 9]) (body := sSeq (sSet 10 (eMeth 0 "kind_number" Fn_Task_kind_number (eN 0) (aC (eN 8) aN)))
    (sIf (tAnd' (tV (e2 opLe (eN 9) (eN 3))) (tV (e2 opIn (eN 10) (eN 2)))) (sSet 7 (eF fMax2 (aC (eN 7) (aC (e2 opIx (e2 opIx (eN 1) (e2 opSub (eN 3) (eN 9))) (eN 10)) aN)))) sNil))
      ((t.ws.filter fun w => decide (w.1 = x)).map fun w => .tup [.str w.2.1, .int w.2.2])
      (fun j ρ => ∃ a b c, ρ = [.val T, .val f, .val (dI kept), .val (.int L), .val (.int g), .val (.int num0), .val (.str x), .val (.int (((t.ws.filter fun w => decide (w.1 = x)).take j).foldl (wstep t kept L) 0)), a, b, c])
      [.val T, .val f, .val (dI kept), .val (.int L), .val (.int g), .val (.int num0), .val (.str x), .val (.int 0), a, b, c] ⟨_, _, _, rfl⟩ (fun j d ρ e hj => by
        obtain ⟨a, b, c, rfl⟩ := hj
        rw [List.getElem?_map] at e
        obtain ⟨w, ew, rfl⟩ := Option.map_eq_some_iff.mp e
        have hw := o.ww w (List.mem_filter.mp (List.mem_of_getElem? ew)).1
        obtain ⟨_, k1, k2⟩ := kn _ hw.2.1
        have e3 := in_ints (num t.ks w.2.1 : Int) kept
        rw [take_snoc ew, List.foldl_append]
        generalize ((t.ws.filter fun w => decide (w.1 = x)).take j).foldl (wstep t kept L) 0 = acc
        refine ⟨_, [.val T, .val f, .val (dI kept), .val (.int L), .val (.int g), .val (.int num0), .val (.str x), .val (.int (wstep t kept L acc w)), .val (.str w.2.1), .val (.int w.2.2), .val (.int (num t.ks w.2.1))], rfl, .inl ?_, _, _, _, rfl⟩
        generalize dI kept = G3 at e3 ⊢
        by_cases hd : w.2.2 ≤ (L : Int)
        · by_cases hm : (num t.ks w.2.1 : Int) ∈ kept
          · have e1 := gf (L - w.2.2.toNat) ((L : Int) - w.2.2) (by omega) (by omega)
            have e2 : opIx (dI (row t (L - w.2.2.toNat))) (.int (num t.ks w.2.1)) = some (.int (val t (L - w.2.2.toNat) (num t.ks w.2.1))) := ix_val (num_lt hw.2.1) rfl
            generalize dI (row t (L - w.2.2.toNat)) = G at e1 e2
            simp -implicitDefEqProofs [k1, k2, e1, e2, e3, hd, hm, wstep]
          · simp -implicitDefEqProofs [k1, k2, e3, hd, hm, wstep]
        · simp -implicitDefEqProofs [k1, k2, e3, hd, wstep])
    rw [List.length_map, List.take_length] at e
    exact ⟨a', b', c', e⟩
  have key := forS_ind (g := gN 5) (body := sSeq (sSet 6 (e2 opIx (e2 opIx (e1 (fld 0 "kinds") (eN 0)) (eN 5)) (eC (.int 0))))
    (sSeq (sSet 7 (eC (.int 0)))
    (sSeq (sFor (iS (eMeth 0 "ways_from" Fn_Task_ways_from (eN 0) (aC (eN 6) aN))) (gT [8, 9]) (sSeq (sSet 10 (eMeth 0 "kind_number" Fn_Task_kind_number (eN 0) (aC (eN 8) aN)))
    (sIf (tAnd' (tV (e2 opLe (eN 9) (eN 3))) (tV (e2 opIn (eN 10) (eN 2)))) (sSet 7 (eF fMax2 (aC (eN 7) (aC (e2 opIx (e2 opIx (eN 1) (e2 opSub (eN 3) (eN 9))) (eN 10)) aN)))) sNil)))
    (sSeq (sIf (tV (e2 opNe (eN 7) (eCall Fn_best_continuation (aC (eN 0) (aC (eN 6) (aC (eN 3) (aC (eN 1) aN))))))) (sRet (eC (.bl false))) sNil)
    (sIf (tAnd' (tV (e2 opNe (eN 4) (eC (.int 0)))) (tV (e2 opEq (eN 7) (eC (.int 0))))) (sRet (eC (.bl false))) sNil))))) (fun o => o = .rt (.bl false)) (kept.map D.int)
    (fun j ρ => (∀ i' i : Nat, i' < j → kept[i']? = some (i : Int) → ∀ k, t.ks[i]? = some k → within t kept L k.1 = bestC t (rowsN t L) k.1 L ∧ (g ≠ 0 → within t kept L k.1 ≠ 0)) ∧ ∃ x1 x2 x3 x4 x5 x6, ρ = [.val T, .val f, .val (dI kept), .val (.int L), .val (.int g), x1, x2, x3, x4, x5, x6])
    [.val T, .val f, .val (dI kept), .val (.int L), .val (.int g), .un, .un, .un, .un, .un, .un] ⟨fun i' i hi => absurd hi (Nat.not_lt_zero _), _, _, _, _, _, _, rfl⟩ (fun i d ρ e hi => by
      obtain ⟨hle, x1, x2, x3, x4, x5, x6, rfl⟩ := hi
      rw [List.getElem?_map] at e
      obtain ⟨m, em, rfl⟩ := Option.map_eq_some_iff.mp e
      obtain ⟨n, hn', rfl⟩ := hk m (List.mem_of_getElem? em)
      obtain ⟨k, ek⟩ : ∃ k, t.ks[n]? = some k := ⟨_, List.getElem?_eq_getElem hn'⟩
      have hx : k.1 ∈ t.ks.map (·.1) := List.mem_map_of_mem (List.mem_of_getElem? ek)
      have e1 : opIx (.tup (t.ks.map dK)) (.int (n : Int)) = some (.tup [.str k.1, .int k.2.1, .int k.2.2]) := ix_tup' rfl (by rw [List.getElem?_map, ek]; rfl)
      obtain ⟨a', b', c', e2⟩ := inner n k.1 x4 x5 x6
      obtain ⟨w1, w2⟩ := wf _ hx
      have e3 := fb _ hx
      refine ⟨[.val T, .val f, .val (dI kept), .val (.int L), .val (.int g), .val (.int n), x2, x3, x4, x5, x6], rfl, ?_⟩
      have hnx : within t kept L k.1 = bestC t (rowsN t L) k.1 L ∧ (g ≠ 0 → within t kept L k.1 ≠ 0) → ∀ i' i'' : Nat, i' < i + 1 → kept[i']? = some (i'' : Int) → ∀ k, t.ks[i'']? = some k → within t kept L k.1 = bestC t (rowsN t L) k.1 L ∧ (g ≠ 0 → within t kept L k.1 ≠ 0) := fun hh i' i'' h1 h2 k' h3 => by
        by_cases q : i' = i
        · subst q
          rw [em] at h2
          have : n = i'' := by have := Option.some.inj h2; omega
          subst this
          rw [ek] at h3
          cases h3
          exact hh
        · exact hle i' i'' (by omega) h2 k' h3
      generalize within t kept L k.1 = W at e2 hnx
      generalize bestC t (rowsN t L) k.1 L = Bc at e3 hnx
      generalize dI kept = G3 at e2 ⊢
      generalize ((t.ws.filter fun w => decide (w.1 = k.1)).map fun w => D.tup [.str w.2.1, .int w.2.2]) = ws' at e2 w2
      by_cases h1 : W = Bc
      · by_cases h2 : g = 0
        · left
          refine ⟨[.val T, .val f, .val G3, .val (.int L), .val (.int g), .val (.int n), .val (.str k.1), .val (.int W), a', b', c'], .inl ?_, hnx ⟨h1, fun z => absurd h2 z⟩, _, _, _, _, _, _, rfl⟩
          subst h1
          simp -implicitDefEqProofs [bc, e1, w1, w2, e2, e3]
          simp -implicitDefEqProofs [h2]
        · by_cases h3 : W = 0
          · right
            refine ⟨.rt (.bl false), ?_, trivial, rfl⟩
            subst h1
            simp -implicitDefEqProofs [bc, e1, w1, w2, e2, e3, h2, h3]
          · left
            refine ⟨[.val T, .val f, .val G3, .val (.int L), .val (.int g), .val (.int n), .val (.str k.1), .val (.int W), a', b', c'], .inl ?_, hnx ⟨h1, fun _ => h3⟩, _, _, _, _, _, _, rfl⟩
            subst h1
            simp -implicitDefEqProofs [bc, e1, w1, w2, e2, e3, h2, h3]
      · right
        refine ⟨.rt (.bl false), ?_, trivial, rfl⟩
        simp -implicitDefEqProofs [bc, e1, w1, w2, e2, e3, h1])
  rcases key with ⟨ρ', e, h1, _⟩ | e
  · right
    refine ⟨runFn_eq rfl ?_, fun i hi => ?_⟩
    · simp -implicitDefEqProofs [ini, body_stays_within, e]
    · obtain ⟨n, hn', hin⟩ := hk _ hi
      have hin' : i = n := by omega
      subst hin'
      obtain ⟨k, ek⟩ : ∃ k, t.ks[i]? = some k := ⟨_, List.getElem?_eq_getElem hn'⟩
      obtain ⟨j, hj⟩ := List.mem_iff_getElem?.mp hi
      have hjl := (List.getElem?_eq_some_iff.mp hj).1
      obtain ⟨q1, q2⟩ := h1 j i (by rw [List.length_map]; exact hjl) hj k ek
      have eb : bst t L i = bestC t (rowsN t L) k.1 L := by unfold bst; rw [ek]; rfl
      rw [eb, ← q1]
      have fbst := foldl_best (f := wstep t kept L) (P := fun w : Str × Str × Int => w.2.2 ≤ (L : Int) ∧ (num t.ks w.2.1 : Int) ∈ kept) (g := fun w => val t (L - w.2.2.toNat) (num t.ks w.2.1)) (fun b w => by
        unfold wstep
        by_cases h : w.2.2 ≤ (L : Int) ∧ (num t.ks w.2.1 : Int) ∈ kept
        · exact .inl ⟨h, if_pos h⟩
        · exact .inr ⟨h, if_neg h⟩) (t.ws.filter fun w => decide (w.1 = k.1)) 0
      rcases fbst.2.2 with hh | ⟨w, hw, ⟨hd, hm⟩, ew⟩
      · refine .inl ⟨hh, ?_⟩
        by_cases hg : g = 0
        · exact hg
        · exact absurd hh (q2 hg)
      · have hw' := List.mem_filter.mp hw
        refine .inr ⟨w, hw'.1, ?_, hd, hm, ew⟩
        have : w.1 = k.1 := by simpa using hw'.2
        rw [this]
        exact num_of o.nd ek
  · left
    refine runFn_eq rfl ?_
    simp -implicitDefEqProofs [ini, body_stays_within, e]
end G90

namespace G90
open PySem PySem.Spec PyProof.Rows L2 Pu
@[simp] theorem sIO_ap (i : Nat) (Fn : List D → List D → Res (List D)) (as : Av) (ρ : PEnv) : sIO i Fn as ρ = match ρ[i]? with | some (.own es) => Out.of (as ρ) fun ds => Out.of (Fn ds es).nx fun rs => .nx (ρ.set i (.own rs)) | _ => .stuck := rfl
/-! ### circuits -/
def Circ (t : Tk) (c : List Int) : Prop := c ≠ [] ∧ c.length ≤ 6 ∧ ∀ x ∈ c, ∃ m : Nat, m < t.ws.length ∧ x = m
/-- how many kinds are not visited -/
def freeN (t : Tk) (visited : List Int) : Nat := ((List.range t.ks.length).filter fun j : Nat => decide (¬ (j : Int) ∈ visited)).length
theorem free_lt {t : Tk} {v : List Int} {j : Nat} (hj : j < t.ks.length) (hn : ¬ (j : Int) ∈ v) : freeN t (v ++ [(j : Int)]) < freeN t v := by
  unfold freeN
  have e : ((List.range t.ks.length).filter fun i : Nat => decide (¬ (i : Int) ∈ v ++ [(j : Int)])) = ((List.range t.ks.length).filter fun i : Nat => decide (¬ (i : Int) ∈ v)).filter fun i : Nat => decide (i ≠ j) := by
    rw [List.filter_filter]
    congr 1
    funext i
    by_cases h1 : (i : Int) ∈ v <;> by_cases h2 : i = j
    · simp [h1, h2]
    · simp [h1, h2]
    · simp [h1, h2]
    · have : ¬ (i : Int) = (j : Int) := by omega
      simp [h1, h2, this]
  rw [e, List.length_filter_lt_length_iff_exists]
  exact ⟨j, List.mem_filter.mpr ⟨List.mem_range.mpr hj, by simpa using hn⟩, by simp⟩
theorem pow9 (n : Nat) : 1 ≤ 9 ^ n := Nat.one_le_pow n 9 (by omega)
theorem f_ext {nm : Str} {t : Tk} (o : Ok t) : ∀ (n st0 last : Nat) (path visited : List Int) (es : List (List Int)), (∀ x ∈ path, ∃ m : Nat, m < t.ws.length ∧ x = m) → path.length + n ≤ 6 → freeN t visited + 1 ≤ n → visited.length + n ≤ 100 → es.length + 9 ^ n ≤ 1000000 →
    ∃ cs, Fn_extend_path n [dT nm t, .int st0, .int last, dI path, dI visited] (es.map dI) = .ok ((es ++ cs).map dI) ∧ (∀ c ∈ cs, Circ t c) ∧ cs.length ≤ 9 ^ n
  | 0, _, _, _, _, _, _, _, hf, _, _ => absurd hf (by omega)
  | n + 1, st0, last, path, visited, es, hp, hpl, hf, hv, hsz => by
    have w16 := o.w16
    have p9 := pow9 n
    have e9 : 9 ^ (n + 1) = 9 * 9 ^ n := by rw [Nat.pow_succ, Nat.mul_comm]
    have ih := f_ext (nm := nm) o n
    generalize 9 ^ n = P at *
    rw [e9] at hsz ⊢
    obtain ⟨T, hT, kn, ws⟩ : ∃ T : D, T = dT nm t ∧ (∀ x, x ∈ t.ks.map (·.1) → oOk 0 "kind_number" T = true ∧ Fn_Task_kind_number [T, .str x] = .ok (.int (num t.ks x))) ∧ fld 0 "ways" T = some (.tup (t.ws.map dW)) :=
      ⟨_, rfl, fun x hx => ⟨ook_kn _ _, f_kn hx⟩, fld_ways _ _⟩
    rw [← hT] at ih ⊢
    clear hT
    obtain ⟨ρ', e, cs, x, y, z, rfl, hcs, hcl⟩ := forS_thru (g := gT [6, 7]) (body := sSeq (sIf (tV (e2 opNe (eMeth 0 "kind_number" Fn_Task_kind_number (eN 0) (aC (e2 opIx (eN 7) (eC (.int 0))) aN)) (eN 2))) .ct sNil)
    (sSeq (sSet 8 (eMeth 0 "kind_number" Fn_Task_kind_number (eN 0) (aC (e2 opIx (eN 7) (eC (.int 1))) aN)))
    (sIf (tV (e2 opEq (eN 8) (eN 1))) (sApp 5 (eL (lCat (eN 3) (eL (aC (eN 6) aN))))) (sIf (tAnd' (tV (e2 opGt (eN 8) (eN 1))) (tV (e2 opNotIn (eN 8) (eN 4)))) (sIO 5 (Fn_extend_path n) (aC (eN 0) (aC (eN 1) (aC (eN 8) (aC (eL (lCat (eN 3) (eL (aC (eN 6) aN)))) (aC (eL (lCat (eN 4) (eL (aC (eN 8) aN)))) aN)))))) sNil)))) (prs 0 (t.ws.map dW))
      (fun i ρ => ∃ cs x y z, ρ = [.val T, .val (.int st0), .val (.int last), .val (dI path), .val (dI visited), .own ((es ++ cs).map dI), x, y, z] ∧ (∀ c ∈ cs, Circ t c) ∧ cs.length ≤ i * P)
      [.val T, .val (.int st0), .val (.int last), .val (dI path), .val (dI visited), .own (es.map dI), .un, .un, .un] ⟨[], _, _, _, by rw [List.append_nil], fun c h => (by cases h), by simp⟩ (fun i d ρ e hi => by
        obtain ⟨cs, x, y, z, rfl, hcs, hcl⟩ := hi
        obtain ⟨v, e1, rfl⟩ := prs_map _ _ _ _ e
        rw [List.getElem?_map] at e1
        obtain ⟨w, ew, rfl⟩ := Option.map_eq_some_iff.mp e1
        have hil : i < t.ws.length := (List.getElem?_eq_some_iff.mp ew).1
        have hw := o.ww w (List.mem_of_getElem? ew)
        obtain ⟨k1, k2⟩ := kn _ hw.1
        obtain ⟨_, k3⟩ := kn _ hw.2.1
        have hm : i * P + P = (i + 1) * P := by rw [Nat.add_mul, Nat.one_mul]
        have hm8 : (i + 1) * P ≤ 8 * P := Nat.mul_le_mul_right P (by omega)
        rw [Nat.zero_add]
        refine ⟨[.val T, .val (.int st0), .val (.int last), .val (dI path), .val (dI visited), .own ((es ++ cs).map dI), .val (.int (i : Nat)), .val (dW w), z], ?_⟩
        by_cases h1 : (num t.ks w.1 : Int) = last
        · by_cases h2 : (num t.ks w.2.1 : Int) = st0
          · -- a circuit is closed
            have hz : (es ++ cs).length < sizeLine := Nat.lt_of_lt_of_le (show (es ++ cs).length < 1000001 by rw [List.length_append]; omega) (by decide)
            have hz2 : path.length + 1 ≤ sizeLine := Nat.le_of_lt (small1000 (by omega))
            refine ⟨[.val T, .val (.int st0), .val (.int last), .val (dI path), .val (dI visited), .own ((es ++ (cs ++ [path ++ [(i : Int)]])).map dI), .val (.int (i : Nat)), .val (dW w), .val (.int (num t.ks w.2.1))], rfl, .inl ?_, cs ++ [path ++ [(i : Int)]], _, _, _, rfl, fun c hc => ?_, ?_⟩
            · rw [← List.append_assoc]
              generalize es ++ cs = E at hz ⊢
              rw [List.map_append (l₁ := E)]
              have hz' : (E.map dI).length < sizeLine := by rw [List.length_map]; exact hz
              generalize E.map dI = E' at hz' ⊢
              simp -implicitDefEqProofs [dW, k1, k2, k3, h1, h2, hz', hz2]
            · rcases List.mem_append.mp hc with hc | hc
              · exact hcs c hc
              · rw [List.mem_singleton.mp hc]
                refine ⟨by simp, by simp; omega, fun x hx => ?_⟩
                rcases List.mem_append.mp hx with hx | hx
                · exact hp x hx
                · exact ⟨i, hil, List.mem_singleton.mp hx⟩
            · simp only [List.length_append, List.length_singleton]; omega
          · by_cases h3 : (st0 : Int) < num t.ks w.2.1 ∧ ¬ (num t.ks w.2.1 : Int) ∈ visited
            · -- on from the target
              have hz2 : path.length + 1 ≤ sizeLine := Nat.le_of_lt (small1000 (by omega))
              have hz3 : visited.length + 1 ≤ sizeLine := Nat.le_of_lt (small1000 (by omega))
              have fl := free_lt (t := t) (num_lt hw.2.1) h3.2
              obtain ⟨cs2, e2, hc2, hl2⟩ := ih st0 (num t.ks w.2.1) (path ++ [(i : Int)]) (visited ++ [(num t.ks w.2.1 : Int)]) (es ++ cs) (fun x hx => by
                rcases List.mem_append.mp hx with hx | hx
                · exact hp x hx
                · exact ⟨i, hil, List.mem_singleton.mp hx⟩) (by simp; omega) (by omega) (by simp; omega) (by simp; omega)
              have e3 := notin_ints (num t.ks w.2.1 : Int) visited
              refine ⟨[.val T, .val (.int st0), .val (.int last), .val (dI path), .val (dI visited), .own ((es ++ (cs ++ cs2)).map dI), .val (.int (i : Nat)), .val (dW w), .val (.int (num t.ks w.2.1))], rfl, .inl ?_, cs ++ cs2, _, _, _, rfl, fun c hc => ?_, ?_⟩
              · rw [← List.append_assoc]
                generalize es ++ cs ++ cs2 = E2 at e2 ⊢
                generalize es ++ cs = E at e2 ⊢
                generalize E2.map dI = E2' at e2 ⊢
                generalize E.map dI = E' at e2 ⊢
                have e2' : Fn_extend_path n [T, .int st0, .int (num t.ks w.2.1), .lst (path.map D.int ++ [.int i]), .lst (visited.map D.int ++ [.int (num t.ks w.2.1)])] E' = .ok E2' := by
                  have e4 := e2
                  unfold dI at e4
                  rw [List.map_append, List.map_append] at e4
                  exact e4
                simp -implicitDefEqProofs [dW, k1, k2, k3, h1, h2, h3.1, h3.2, hz2, hz3, e3, e2']
              · rcases List.mem_append.mp hc with hc | hc
                · exact hcs c hc
                · exact hc2 c hc
              · simp only [List.length_append]; omega
            · -- nothing
              have e3 := notin_ints (num t.ks w.2.1 : Int) visited
              refine ⟨[.val T, .val (.int st0), .val (.int last), .val (dI path), .val (dI visited), .own ((es ++ cs).map dI), .val (.int (i : Nat)), .val (dW w), .val (.int (num t.ks w.2.1))], rfl, .inl ?_, cs, _, _, _, rfl, hcs, by omega⟩
              by_cases h4 : (st0 : Int) < num t.ks w.2.1
              · have h5 : (num t.ks w.2.1 : Int) ∈ visited := by
                  by_cases q : (num t.ks w.2.1 : Int) ∈ visited
                  · exact q
                  · exact absurd ⟨h4, q⟩ h3
                generalize (es ++ cs).map dI = E
                generalize dI visited = G at e3 ⊢
                simp -implicitDefEqProofs [dW, k1, k2, k3, h1, h2, h4, h5, e3]
              · generalize (es ++ cs).map dI = E
                generalize dI visited = G at e3 ⊢
                simp -implicitDefEqProofs [dW, k1, k2, k3, h1, h2, h4, e3]
        · refine ⟨[.val T, .val (.int st0), .val (.int last), .val (dI path), .val (dI visited), .own ((es ++ cs).map dI), .val (.int (i : Nat)), .val (dW w), z], rfl, .inr ?_, cs, _, _, _, rfl, hcs, by omega⟩
          generalize (es ++ cs).map dI = E
          simp -implicitDefEqProofs [dW, k1, k2, k3, h1])
    rw [prs_len, List.length_map] at hcl
    refine ⟨cs, ?_, hcs, ?_⟩
    · show runIO 6 9 (body_extend_path (Fn_extend_path n)) _ _ = _
      unfold runIO
      have hlen : ([T, .int st0, .int last, dI path, dI visited] : List D).length + 1 = 6 := rfl
      rw [if_pos hlen]
      generalize (es ++ cs).map dI = E at e ⊢
      generalize es.map dI = E0 at e ⊢
      simp -implicitDefEqProofs [iniO, body_extend_path, ws, e, Out.io, Slot.ownOf]
    · have := Nat.mul_le_mul_right P (show t.ws.length ≤ 9 by omega)
      omega
end G90

namespace G90
open PySem PySem.Spec PyProof.Rows L2 Pu
theorem free_le (t : Tk) (v : List Int) : freeN t v ≤ t.ks.length := by
  unfold freeN
  exact Nat.le_trans (List.length_filter_le _ _) (by rw [List.length_range]; exact Nat.le_refl _)
theorem f_circuits {nm : Str} {t : Tk} (o : Ok t) : ∃ cs : List (List Int), Fn_circuits [dT nm t] = .ok (.lst (cs.map dI)) ∧ (∀ c ∈ cs, Circ t c) ∧ cs.length ≤ 1000000 := by
  have k8 := o.k8
  obtain ⟨T, hT, ext, kd⟩ : ∃ T : D, T = dT nm t ∧ (∀ (s : Nat) (es : List (List Int)), es.length ≤ 300000 → ∃ cs, Fn_extend_path 5 [T, .int s, .int s, .lst [], .lst [.int s]] (es.map dI) = .ok ((es ++ cs).map dI) ∧ (∀ c ∈ cs, Circ t c) ∧ cs.length ≤ 60000) ∧ fld 0 "kinds" T = some (.tup (t.ks.map dK)) := by
    refine ⟨_, rfl, fun s es he => ?_, fld_kinds _ _⟩
    obtain ⟨cs, h1, h2, h3⟩ := f_ext (nm := nm) o 5 s s [] [(s : Int)] es (fun x hx => by cases hx) (by simp) (by have := free_le t [(s : Int)]; omega) (by simp) (by omega)
    exact ⟨cs, h1, h2, by omega⟩
  rw [← hT]
  clear hT
  obtain ⟨ρ', e, cs, x, rfl, hcs, hcl⟩ := forS_thru (g := gN 2) (body := sIO 1 (Fn_extend_path 5) (aC (eN 0) (aC (eN 2) (aC (eN 2) (aC (eL aN) (aC (eL (aC (eN 2) aN)) aN)))))) (rgD 0 (t.ks.length : Int))
    (fun i ρ => ∃ cs x, ρ = [.val T, .own (cs.map dI), x] ∧ (∀ c ∈ cs, Circ t c) ∧ cs.length ≤ i * 60000) [.val T, .own [], .un] ⟨[], _, rfl, fun c h => (by cases h), by simp⟩ (fun i d ρ e hi => by
      obtain ⟨cs, x, rfl, hcs, hcl⟩ := hi
      obtain ⟨rfl, hl⟩ := rg0_some e
      obtain ⟨cs2, e2, h2, h3⟩ := ext i cs (by omega)
      refine ⟨_, [.val T, .own ((cs ++ cs2).map dI), .val (.int i)], rfl, .inl ?_, _, _, rfl, fun c hc => ?_, by rw [List.length_append]; omega⟩
      · generalize (cs ++ cs2).map dI = E2 at e2 ⊢
        generalize cs.map dI = E at e2 ⊢
        simp -implicitDefEqProofs [e2]
      · rcases List.mem_append.mp hc with hc | hc
        · exact hcs c hc
        · exact h2 c hc)
  rw [rgD_length] at hcl
  refine ⟨cs, runFn_eq rfl ?_, hcs, by omega⟩
  generalize cs.map dI = E at e ⊢
  simp -implicitDefEqProofs [ini, body_circuits, kd, asR1_of (t.ks.length : Int) (by omega) (by omega), e]
abbrev dR (r : Int × Int) : D := .tup [.int r.1, .int r.2]
def mean (nm : Str) (t : Tk) (c : List Int) : Int × Int := match Fn_circuit_mean [dT nm t, dI c] with
  | .ok (.tup [.int p, .int q]) => (p, q)
  | _ => (0, 0)
theorem f_mean {nm : Str} {t : Tk} (o : Ok t) {c : List Int} (hc : Circ t c) : Fn_circuit_mean [dT nm t, dI c] = .ok (dR (mean nm t c)) ∧ 1 ≤ (mean nm t c).1 ∧ (mean nm t c).1 ≤ 100000 := by
  have main : ∃ p q : Int, Fn_circuit_mean [dT nm t, dI c] = .ok (.tup [.int p, .int q]) ∧ 1 ≤ p ∧ p ≤ 100000 := by
    obtain ⟨h1, h2, h3⟩ := hc
    have hlen : 1 ≤ c.length := by cases c with | nil => exact absurd rfl h1 | cons _ _ => simp
    obtain ⟨T, hT, kn, kd⟩ : ∃ T : D, T = dT nm t ∧ (∀ x, x ∈ t.ks.map (·.1) → oOk 0 "cost" T = true ∧ ∃ k ∈ t.ks, Fn_Task_cost [T, .str x] = .ok (.int k.2.1)) ∧ fld 0 "ways" T = some (.tup (t.ws.map dW)) :=
      ⟨_, rfl, fun x hx => ⟨ook_cost _ _, by obtain ⟨k, e, _⟩ := num_get hx; exact ⟨k, List.mem_of_getElem? e, f_cost hx e⟩⟩, fld_ways _ _⟩
    rw [← hT]
    clear hT
    obtain ⟨ρ', e, a, b, x, y, rfl, ha1, ha2, hb1, hb2⟩ := forS_thru (g := gN 4) (body := sSeq (sSet 5 (e2 opIx (e1 (fld 0 "ways") (eN 0)) (eN 4)))
    (sSeq (sAug 2 opAddI (eMeth 0 "cost" Fn_Task_cost (eN 0) (aC (e2 opIx (eN 5) (eC (.int 0))) aN)))
    (sAug 3 opAddI (e2 opIx (eN 5) (eC (.int 2)))))) (c.map D.int)
      (fun i ρ => ∃ (a b : Int) (x y : Pu.Slot), ρ = [.val T, .val (dI c), .val (.int a), .val (.int b), x, y] ∧ (i : Int) ≤ a ∧ a ≤ 1000 * i ∧ (i : Int) ≤ b ∧ b ≤ 1000 * i)
      [.val T, .val (dI c), .val (.int 0), .val (.int 0), .un, .un] ⟨0, 0, _, _, rfl, by simp, by simp, by simp, by simp⟩ (fun i d ρ e hi => by
        obtain ⟨a, b, x, y, rfl, ha1, ha2, hb1, hb2⟩ := hi
        rw [List.getElem?_map] at e
        obtain ⟨m, em, rfl⟩ := Option.map_eq_some_iff.mp e
        obtain ⟨n, hn, rfl⟩ := h3 m (List.mem_of_getElem? em)
        obtain ⟨w, ew⟩ : ∃ w, t.ws[n]? = some w := ⟨_, List.getElem?_eq_getElem hn⟩
        have hw := o.ww w (List.mem_of_getElem? ew)
        have e1 : opIx (.tup (t.ws.map dW)) (.int (n : Int)) = some (.tup [.str w.1, .str w.2.1, .int w.2.2]) := ix_tup' rfl (by rw [List.getElem?_map, ew]; rfl)
        obtain ⟨k1, k, hk, k2⟩ := kn _ hw.1
        have hk' := o.kk k hk
        refine ⟨_, [.val T, .val (dI c), .val (.int (a + k.2.1)), .val (.int (b + w.2.2)), .val (.int n), .val (.tup [.str w.1, .str w.2.1, .int w.2.2])], rfl, .inl ?_, a + k.2.1, b + w.2.2, _, _, rfl, by omega, by omega, by omega, by omega⟩
        generalize dI c = C
        simp -implicitDefEqProofs [kd, e1, k1, k2])
    rw [List.length_map] at ha1 ha2 hb1 hb2
    obtain ⟨g, hg, eg, er⟩ := f_ratio (a := a) (b := b) (by omega) (by omega)
    have hga : g ≤ a := by
      have := Nat.gcd_le_left b.natAbs (show 0 < a.natAbs by omega)
      omega
    refine ⟨a / g, b / g, runFn_eq rfl ?_, ?_, ?_⟩
    · simp -implicitDefEqProofs [ini, body_circuit_mean, e, er]
    · exact Int.le_ediv_of_mul_le hg (by omega)
    · have := Int.ediv_le_self g (show 0 ≤ a by omega)
      omega
  obtain ⟨p, q, e, h1, h2⟩ := main
  have em : mean nm t c = (p, q) := by unfold mean; rw [e]
  rw [em]
  exact ⟨e, h1, h2⟩
theorem f_bestc {nm : Str} {t : Tk} (o : Ok t) {cs : List (List Int)} (hcs : Fn_circuits [dT nm t] = .ok (.lst (cs.map dI))) (hc : ∀ c ∈ cs, Circ t c) (hne : cs ≠ []) : ∃ c ∈ cs, Fn_best_circuit [dT nm t] = .ok (dI c) := by
  obtain ⟨g, hg, eg, er⟩ := f_ratio (a := 0) (b := 1) (by omega) (by omega)
  have hg1 : g = 1 := by rw [eg]; rfl
  subst hg1
  have er' : Fn_make_ratio [.int 0, .int 1] = .ok (dR (0, 1)) := by rw [er]; rfl
  obtain ⟨T, mn, hT⟩ : ∃ T : D, (∀ c ∈ cs, Fn_circuit_mean [T, dI c] = .ok (dR (mean nm t c)) ∧ 1 ≤ (mean nm t c).1 ∧ (mean nm t c).1 ≤ 100000) ∧ T = dT nm t := ⟨_, fun c h => f_mean o (hc c h), rfl⟩
  rw [← hT] at hcs ⊢
  clear hT
  obtain ⟨ρ', e, hI⟩ := forS_thru (g := gN 3) (body := sSeq (sSet 4 (eCall Fn_circuit_mean (aC (eN 0) (aC (eN 3) aN))))
    (sIf (tV (e2 opGt (eCall Fn_compare_ratios (aC (eN 4) (aC (eN 2) aN))) (eC (.int 0)))) (sSeq (sSet 1 (eN 3))
    (sSet 2 (eN 4))) sNil)) (cs.map dI)
    (fun i ρ => ∃ x y, (i = 0 ∧ ρ = [.val T, .val (.lst []), .val (dR (0, 1)), x, y]) ∨ ∃ c ∈ cs, ρ = [.val T, .val (dI c), .val (dR (mean nm t c)), x, y])
    [.val T, .val (.lst []), .val (dR (0, 1)), .un, .un] ⟨_, _, .inl ⟨rfl, rfl⟩⟩ (fun i d ρ e hi => by
      rw [List.getElem?_map] at e
      obtain ⟨c, ec, rfl⟩ := Option.map_eq_some_iff.mp e
      have hcm := List.mem_of_getElem? ec
      obtain ⟨e1, m1, m2⟩ := mn c hcm
      obtain ⟨x, y, hi⟩ := hi
      rcases hi with ⟨rfl, rfl⟩ | ⟨c0, hc0, rfl⟩
      · have e2 := f_cmp (a := (mean nm t c).1) (b := (mean nm t c).2) (c := 0) (d := 1) (by omega) (by omega)
        refine ⟨_, [.val T, .val (dI c), .val (dR (mean nm t c)), .val (dI c), .val (dR (mean nm t c))], rfl, .inl ?_, _, _, .inr ⟨c, hcm, rfl⟩⟩
        generalize dI c = C at e1 ⊢
        generalize mean nm t c = M at *
        rw [if_neg (by omega), if_pos (by omega)] at e2
        simp -implicitDefEqProofs [e1, e2]
      · obtain ⟨_, n1, n2⟩ := mn c0 hc0
        have e2 := f_cmp (a := (mean nm t c).1) (b := (mean nm t c).2) (c := (mean nm t c0).1) (d := (mean nm t c0).2) (by omega) (by omega)
        by_cases hgt : (if (mean nm t c).1 * (mean nm t c0).2 < (mean nm t c0).1 * (mean nm t c).2 then (-1 : Int) else if (mean nm t c0).1 * (mean nm t c).2 < (mean nm t c).1 * (mean nm t c0).2 then 1 else 0) > 0
        · refine ⟨_, [.val T, .val (dI c), .val (dR (mean nm t c)), .val (dI c), .val (dR (mean nm t c))], rfl, .inl ?_, _, _, .inr ⟨c, hcm, rfl⟩⟩
          generalize (if (mean nm t c).1 * (mean nm t c0).2 < (mean nm t c0).1 * (mean nm t c).2 then (-1 : Int) else if (mean nm t c0).1 * (mean nm t c).2 < (mean nm t c).1 * (mean nm t c0).2 then 1 else 0) = Z at *
          generalize dI c = C at e1 ⊢
          generalize dI c0 = C0
          generalize mean nm t c = M at *
          generalize mean nm t c0 = M0 at *
          simp -implicitDefEqProofs [e1, e2, hgt]
        · refine ⟨_, [.val T, .val (dI c0), .val (dR (mean nm t c0)), .val (dI c), .val (dR (mean nm t c))], rfl, .inl ?_, _, _, .inr ⟨c0, hc0, rfl⟩⟩
          generalize (if (mean nm t c).1 * (mean nm t c0).2 < (mean nm t c0).1 * (mean nm t c).2 then (-1 : Int) else if (mean nm t c0).1 * (mean nm t c).2 < (mean nm t c).1 * (mean nm t c0).2 then 1 else 0) = Z at *
          generalize dI c = C at e1 ⊢
          generalize dI c0 = C0
          generalize mean nm t c = M at *
          generalize mean nm t c0 = M0 at *
          have hgt' : ¬ 0 < Z := hgt
          simp -implicitDefEqProofs [e1, e2, hgt'])
  obtain ⟨x, y, hI⟩ := hI
  rcases hI with ⟨h0, _⟩ | ⟨c, hc', rfl⟩
  · rw [List.length_map] at h0
    exact absurd (List.length_eq_zero_iff.mp h0) hne
  · refine ⟨c, hc', runFn_eq rfl ?_⟩
    generalize dI c = C at e ⊢
    generalize cs.map dI = E at hcs e
    generalize dR (mean nm t c) = MM at e
    simp -implicitDefEqProofs [ini, body_best_circuit, er', hcs, e]
theorem f_share {nm : Str} {t : Tk} (o : Ok t) {cs : List (List Int)} (hcs : Fn_circuits [dT nm t] = .ok (.lst (cs.map dI))) (hc : ∀ c ∈ cs, Circ t c) (hne : cs ≠ []) : ∃ c ∈ cs, Fn_share [dT nm t] = .ok (dR (mean nm t c)) := by
  obtain ⟨c, h1, h2⟩ := f_bestc o hcs hc hne
  refine ⟨c, h1, runFn_eq rfl ?_⟩
  have h3 := (f_mean (nm := nm) o (hc c h1)).1
  have h4 : ¬ ((c.length : Int) = 0) := by
    have := (hc c h1).1
    cases c with
    | nil => exact absurd rfl this
    | cons _ _ => simp; omega
  generalize mean nm t c = M at h3 ⊢
  generalize dT nm t = T at *
  have h4' : fLen [dI c] = some (.int c.length) := by simp
  generalize (c.length : Int) = Z at *
  generalize dI c = C at *
  simp -implicitDefEqProofs [ini, body_share, h2, h3, h4, h4']
end G90

namespace G90
open PySem PySem.Spec PyProof.Rows L2 Pu
@[simp] theorem sPut_ap (i : Nat) (j a : Ev) (ρ : PEnv) : sPut i j a ρ = match ρ[i]? with | some (.own ds) => Out.of (a ρ) fun d => Out.of (j ρ) fun k => putAt i ρ ds d k | _ => .stuck := rfl
theorem putAt_of {i : Nat} {ρ : PEnv} {ds : List D} {d : D} {z : Int} {n : Nat} (hz : z = n) (hn : n < ds.length) : putAt i ρ ds d (.int z) = .nx (ρ.set i (.own (ds.set n d))) := by
  subst hz
  show (match ixN ds.length (n : Int) with | some n => _ | none => _) = _
  have : ixN ds.length (n : Int) = some n := by
    unfold ixN
    rw [if_pos (by omega), if_pos (by omega)]
    simp
  rw [this]
theorem opEq_pair (a b c d : Int) : ∃ v : Bool, opEq (dR (a, b)) (dR (c, d)) = some (.bl v) ∧ (a = c → b = d → v = true) := by
  have h : ∃ v : Bool, eqPy (dR (a, b)) (dR (c, d)) = some v ∧ (a = c → b = d → v = true) := by
    refine ⟨PyData.eqv (.tuple [.int a, .int b]) (.tuple [.int c, .int d]), ?_, ?_⟩
    · rfl
    · rintro rfl rfl
      simp [PyData.eqv, PyData.eqvAll]
  obtain ⟨v, e, hv⟩ := h
  refine ⟨v, ?_, hv⟩
  show (eqPy (dR (a, b)) (dR (c, d))).map D.bl = _
  rw [e]; rfl
theorem f_lasting {nm : Str} {t : Tk} (o : Ok t) : ∃ kept : List Int, Fn_lasting_kinds [dT nm t] = .ok (dI kept) ∧ kept ≠ [] ∧ (∀ i ∈ kept, ∃ n : Nat, n < t.ks.length ∧ i = n) ∧ kept.length ≤ 1000 := by
  obtain ⟨cs, h1, h2, h3⟩ := f_circuits (nm := nm) o
  have k1 := o.k1
  have k8 := o.k8
  have kd := fld_kinds nm t
  have wd := fld_ways nm t
  have kn : ∀ x, x ∈ t.ks.map (·.1) → oOk 0 "kind_number" (dT nm t) = true ∧ Fn_Task_kind_number [dT nm t, .str x] = .ok (.int (num t.ks x)) := fun x hx => ⟨ook_kn _ _, f_kn hx⟩
  have hmap : ∀ n : Nat, rgD 0 (n : Int) = ((List.range n).map fun i : Nat => D.int (i : Int)) := fun n => by
    unfold rgD
    have : ((n : Int) - 0).toNat = n := by omega
    rw [this]
    apply List.map_congr_left
    intro a _
    rw [Int.zero_add]
  by_cases hne : cs = []
  · subst hne
    refine ⟨(List.range t.ks.length).map fun i : Nat => (i : Int), runFn_eq rfl ?_, ?_, ?_, by rw [List.length_map, List.length_range]; omega⟩
    · generalize dT nm t = T at *
      have hl : (decide ((0 : Int) ≤ (t.ks.length : Int)) && decide ((t.ks.length : Int) ≤ 1000000)) = true := by
        rw [Bool.and_eq_true, decide_eq_true_eq, decide_eq_true_eq]; omega
      have e1 : lListR (eF fLen (aC (e1 (fld 0 "kinds") (eN 0)) aN)) [.val T, .val (.lst []), .un, .un, .un, .un, .un, .un, .un] = .ok (((List.range t.ks.length).map fun i : Nat => (i : Int)).map D.int) := by
        unfold lListR
        simp -implicitDefEqProofs only [eF_ap, aC_ap, e1_ap, eN_ap, aN_ap, List.getElem?_cons_zero, Res.bind_ok, kd, Res.of_some, fLen_tup, List.length_map]
        rw [if_pos hl, hmap, List.map_map]
        rfl
      have h1' : Fn_circuits [T] = .ok (.lst []) := h1
      simp -implicitDefEqProofs [ini, body_lasting_kinds, h1', e1]
    · intro z
      rw [List.map_eq_nil_iff, List.range_eq_nil] at z
      omega
    · intro i hi
      obtain ⟨n, hn, rfl⟩ := List.mem_map.mp hi
      exact ⟨n, List.mem_range.mp hn, rfl⟩
  · obtain ⟨c0, hc0, hsh⟩ := f_share o h1 h2 hne
    have mn : ∀ c ∈ cs, Fn_circuit_mean [dT nm t, dI c] = .ok (dR (mean nm t c)) := fun c h => (f_mean o (h2 c h)).1
    generalize dT nm t = T at *
    obtain ⟨j0, hj0⟩ := List.mem_iff_getElem?.mp hc0
    have htrue : ∀ (L : List Bool) (m : Nat), m < L.length → true ∈ L.set m true := fun L m hm => List.mem_iff_getElem?.mpr ⟨m, by rw [List.getElem?_set_self hm]⟩
    -- the marks of one circuit
    have mark : ∀ c ∈ cs, ∀ (L : List Bool) (x : Pu.Slot) (y : Pu.Slot), L.length = t.ks.length → ∃ (L' : List Bool) (x' : Pu.Slot), forS (gN 5) (sPut 3 (eMeth 0 "kind_number" Fn_Task_kind_number (eN 0) (aC (e2 opIx (e2 opIx (e1 (fld 0 "ways") (eN 0)) (eN 5)) (eC (.int 0))) aN)) (eC (.bl true))) (c.map D.int)
        [.val T, .val (.lst (cs.map dI)), .val (dR (mean nm t c0)), .own (L.map D.bl), .val (dI c), x, y, .un, .un] = .nx [.val T, .val (.lst (cs.map dI)), .val (dR (mean nm t c0)), .own (L'.map D.bl), .val (dI c), x', y, .un, .un] ∧ L'.length = t.ks.length ∧ true ∈ L' := by
      intro c hc L x y hL
      obtain ⟨g1, g2, g3⟩ := h2 c hc
      obtain ⟨ρ', e, L', x', rfl, e1, e2⟩ := forS_thru (g := gN 5) (body := sPut 3 (eMeth 0 "kind_number" Fn_Task_kind_number (eN 0) (aC (e2 opIx (e2 opIx (e1 (fld 0 "ways") (eN 0)) (eN 5)) (eC (.int 0))) aN)) (eC (.bl true))) (c.map D.int)
        (fun i ρ => ∃ (L' : List Bool) (x' : Pu.Slot), ρ = [.val T, .val (.lst (cs.map dI)), .val (dR (mean nm t c0)), .own (L'.map D.bl), .val (dI c), x', y, .un, .un] ∧ L'.length = t.ks.length ∧ (0 < i → true ∈ L'))
        [.val T, .val (.lst (cs.map dI)), .val (dR (mean nm t c0)), .own (L.map D.bl), .val (dI c), x, y, .un, .un] ⟨L, x, rfl, hL, fun z => absurd z (Nat.lt_irrefl 0)⟩ (fun i d ρ e hi => by
          obtain ⟨L', x', rfl, e1, _⟩ := hi
          rw [List.getElem?_map] at e
          obtain ⟨m, em, rfl⟩ := Option.map_eq_some_iff.mp e
          obtain ⟨n, hn, rfl⟩ := g3 m (List.mem_of_getElem? em)
          obtain ⟨w, ew⟩ : ∃ w, t.ws[n]? = some w := ⟨_, List.getElem?_eq_getElem hn⟩
          have hw := o.ww w (List.mem_of_getElem? ew)
          have e2 : opIx (.tup (t.ws.map dW)) (.int (n : Int)) = some (.tup [.str w.1, .str w.2.1, .int w.2.2]) := ix_tup' rfl (by rw [List.getElem?_map, ew]; rfl)
          obtain ⟨q1, q2⟩ := kn _ hw.1
          have hm := num_lt hw.1
          refine ⟨_, [.val T, .val (.lst (cs.map dI)), .val (dR (mean nm t c0)), .own ((L'.set (num t.ks w.1) true).map D.bl), .val (dI c), .val (.int n), y, .un, .un], rfl, .inl ?_, _, _, rfl, by rw [List.length_set, e1], fun _ => htrue _ _ (by omega)⟩
          rw [List.map_set]
          have hl : (num t.ks w.1) < (L'.map D.bl).length := by rw [List.length_map]; omega
          generalize L'.map D.bl = LL at hl ⊢
          generalize cs.map dI = E
          generalize dR (mean nm t c0) = M
          generalize dI c = C
          simp -implicitDefEqProofs [wd, e2, q1, q2, putAt_of rfl hl])
      refine ⟨L', x', e, e1, e2 ?_⟩
      rw [List.length_map]
      cases c with
      | nil => exact absurd rfl g1
      | cons _ _ => simp
    -- the first loop
    obtain ⟨ρ1, er1, L1, x1, x2, rfl, l1, l2⟩ := forS_thru (g := gN 4) (body := sIf (tV (e2 opEq (eCall Fn_circuit_mean (aC (eN 0) (aC (eN 4) aN))) (eN 2))) (sFor (iS (eN 4)) (gN 5) (sPut 3 (eMeth 0 "kind_number" Fn_Task_kind_number (eN 0) (aC (e2 opIx (e2 opIx (e1 (fld 0 "ways") (eN 0)) (eN 5)) (eC (.int 0))) aN)) (eC (.bl true)))) sNil) (cs.map dI)
      (fun i ρ => ∃ (L : List Bool) (x y : Pu.Slot), ρ = [.val T, .val (.lst (cs.map dI)), .val (dR (mean nm t c0)), .own (L.map D.bl), x, y, .un, .un, .un] ∧ L.length = t.ks.length ∧ (j0 < i → true ∈ L))
      [.val T, .val (.lst (cs.map dI)), .val (dR (mean nm t c0)), .own ((t.ks.map fun _ => false).map D.bl), .un, .un, .un, .un, .un] ⟨_, _, _, rfl, by rw [List.length_map], fun z => absurd z (Nat.not_lt_zero _)⟩ (fun i d ρ e hi => by
        obtain ⟨L, x, y, rfl, l1, l2⟩ := hi
        rw [List.getElem?_map] at e
        obtain ⟨c, ec, rfl⟩ := Option.map_eq_some_iff.mp e
        have hcm := List.mem_of_getElem? ec
        obtain ⟨v, ev, hv⟩ := opEq_pair (mean nm t c).1 (mean nm t c).2 (mean nm t c0).1 (mean nm t c0).2
        have ev' : opEq (dR (mean nm t c)) (dR (mean nm t c0)) = some (.bl v) := ev
        have e1 := mn c hcm
        cases hvv : v with
        | true =>
          subst hvv
          obtain ⟨L', x', m1, m2, m3⟩ := mark c hcm L y .un l1
          refine ⟨_, [.val T, .val (.lst (cs.map dI)), .val (dR (mean nm t c0)), .own (L'.map D.bl), .val (dI c), x', .un, .un, .un], rfl, .inl ?_, L', _, _, rfl, m2, fun _ => m3⟩
          generalize L.map D.bl = LL at m1 ⊢
          generalize L'.map D.bl = LL' at m1 ⊢
          generalize cs.map dI = E at m1 ⊢
          have hcc : asSeq (dI c) = .ok (c.map D.int) := rfl
          generalize c.map D.int = cm at m1 hcc
          generalize dI c = C at m1 e1 hcc ⊢
          generalize dR (mean nm t c) = M1 at e1 ev'
          generalize dR (mean nm t c0) = M0 at m1 ev' ⊢
          simp -implicitDefEqProofs [e1, ev', m1, hcc]
        | false =>
          subst hvv
          have hji : i ≠ j0 := fun z => by
            subst z
            rw [hj0] at ec
            cases ec
            exact absurd (hv rfl rfl) Bool.false_ne_true
          refine ⟨_, [.val T, .val (.lst (cs.map dI)), .val (dR (mean nm t c0)), .own (L.map D.bl), .val (dI c), y, .un, .un, .un], rfl, .inl ?_, L, _, _, rfl, l1, fun z => l2 (by omega)⟩
          generalize L.map D.bl = LL
          generalize cs.map dI = E
          generalize dI c = C at e1 ⊢
          generalize dR (mean nm t c) = M1 at e1 ev'
          generalize dR (mean nm t c0) = M0 at ev' ⊢
          simp -implicitDefEqProofs [e1, ev'])
    have l2' : true ∈ L1 := l2 (by rw [List.length_map]; exact (List.getElem?_eq_some_iff.mp hj0).1)
    -- the closure
    have clo : ∀ (L : List Bool) (x1 x2 x3 x4 x5 : Pu.Slot), L.length = t.ks.length → true ∈ L → ∃ (L' : List Bool) (x3' x4' x5' : Pu.Slot), forS (gT [7, 8, 6]) (sIf (tV (e2 opIx (eB 3) (eMeth 0 "kind_number" Fn_Task_kind_number (eN 0) (aC (eN 8) aN)))) (sPut 3 (eMeth 0 "kind_number" Fn_Task_kind_number (eN 0) (aC (eN 7) aN)) (eC (.bl true))) sNil) (t.ws.map dW)
        [.val T, .val (.lst (cs.map dI)), .val (dR (mean nm t c0)), .own (L.map D.bl), x1, x2, x3, x4, x5] = .nx [.val T, .val (.lst (cs.map dI)), .val (dR (mean nm t c0)), .own (L'.map D.bl), x1, x2, x3', x4', x5'] ∧ L'.length = t.ks.length ∧ true ∈ L' := by
      intro L x1 x2 x3 x4 x5 hL hT
      obtain ⟨ρ', e, L', x3', x4', x5', rfl, e1, e2⟩ := forS_thru (g := gT [7, 8, 6]) (body := sIf (tV (e2 opIx (eB 3) (eMeth 0 "kind_number" Fn_Task_kind_number (eN 0) (aC (eN 8) aN)))) (sPut 3 (eMeth 0 "kind_number" Fn_Task_kind_number (eN 0) (aC (eN 7) aN)) (eC (.bl true))) sNil) (t.ws.map dW)
        (fun i ρ => ∃ (L' : List Bool) (x3 x4 x5 : Pu.Slot), ρ = [.val T, .val (.lst (cs.map dI)), .val (dR (mean nm t c0)), .own (L'.map D.bl), x1, x2, x3, x4, x5] ∧ L'.length = t.ks.length ∧ true ∈ L')
        [.val T, .val (.lst (cs.map dI)), .val (dR (mean nm t c0)), .own (L.map D.bl), x1, x2, x3, x4, x5] ⟨L, _, _, _, rfl, hL, hT⟩ (fun i d ρ e hi => by
          obtain ⟨L', x3, x4, x5, rfl, e1, e2⟩ := hi
          rw [List.getElem?_map] at e
          obtain ⟨w, ew, rfl⟩ := Option.map_eq_some_iff.mp e
          have hw := o.ww w (List.mem_of_getElem? ew)
          obtain ⟨q1, q2⟩ := kn _ hw.1
          obtain ⟨_, q3⟩ := kn _ hw.2.1
          have hm := num_lt hw.1
          have hm2 := num_lt hw.2.1
          obtain ⟨v, ev⟩ : ∃ v, L'[num t.ks w.2.1]? = some v := ⟨_, List.getElem?_eq_getElem (by omega)⟩
          have e3 : opIx (.lst (L'.map D.bl)) (.int (num t.ks w.2.1)) = some (.bl v) := ix_lst' rfl (by rw [List.getElem?_map, ev]; rfl)
          have hl : (num t.ks w.1) < (L'.map D.bl).length := by rw [List.length_map]; omega
          cases v with
          | true =>
            refine ⟨_, [.val T, .val (.lst (cs.map dI)), .val (dR (mean nm t c0)), .own ((L'.set (num t.ks w.1) true).map D.bl), x1, x2, .val (.int w.2.2), .val (.str w.1), .val (.str w.2.1)], rfl, .inl ?_, _, _, _, _, rfl, by rw [List.length_set, e1], htrue _ _ (by omega)⟩
            rw [List.map_set]
            generalize L'.map D.bl = LL at hl e3 ⊢
            generalize cs.map dI = E
            generalize dR (mean nm t c0) = M
            simp -implicitDefEqProofs [e3, q1, q2, q3, putAt_of rfl hl]
          | false =>
            refine ⟨_, [.val T, .val (.lst (cs.map dI)), .val (dR (mean nm t c0)), .own (L'.map D.bl), x1, x2, .val (.int w.2.2), .val (.str w.1), .val (.str w.2.1)], rfl, .inl ?_, _, _, _, _, rfl, e1, e2⟩
            generalize L'.map D.bl = LL at hl e3 ⊢
            generalize cs.map dI = E
            generalize dR (mean nm t c0) = M
            simp -implicitDefEqProofs [e3, q1, q2, q3])
      exact ⟨L', x3', x4', x5', e, e1, e2⟩
    obtain ⟨ρ2, er2, L2, y3, y4, y5, rfl, l3, l4⟩ := forS_thru (g := gN 6) (body := sFor (iS (e1 (fld 0 "ways") (eN 0))) (gT [7, 8, 6]) (sIf (tV (e2 opIx (eB 3) (eMeth 0 "kind_number" Fn_Task_kind_number (eN 0) (aC (eN 8) aN)))) (sPut 3 (eMeth 0 "kind_number" Fn_Task_kind_number (eN 0) (aC (eN 7) aN)) (eC (.bl true))) sNil)) (rgD 0 (t.ks.length : Int))
      (fun i ρ => ∃ (L : List Bool) (x3 x4 x5 : Pu.Slot), ρ = [.val T, .val (.lst (cs.map dI)), .val (dR (mean nm t c0)), .own (L.map D.bl), x1, x2, x3, x4, x5] ∧ L.length = t.ks.length ∧ true ∈ L)
      [.val T, .val (.lst (cs.map dI)), .val (dR (mean nm t c0)), .own (L1.map D.bl), x1, x2, .un, .un, .un] ⟨L1, _, _, _, rfl, l1, l2'⟩ (fun i d ρ e hi => by
        obtain ⟨L, x3, x4, x5, rfl, g1, g2⟩ := hi
        obtain ⟨rfl, hl⟩ := rg0_some e
        obtain ⟨L', x3', x4', x5', g3, g4, g5⟩ := clo L x1 x2 (.val (.int i)) x4 x5 g1 g2
        refine ⟨_, [.val T, .val (.lst (cs.map dI)), .val (dR (mean nm t c0)), .own (L'.map D.bl), x1, x2, x3', x4', x5'], rfl, .inl ?_, L', _, _, _, rfl, g4, g5⟩
        generalize L'.map D.bl = LL' at g3 ⊢
        generalize L.map D.bl = LL at g3 ⊢
        generalize cs.map dI = E at g3 ⊢
        generalize dR (mean nm t c0) = M at g3 ⊢
        simp -implicitDefEqProofs [wd, g3])
    -- what is kept
    have flg : lcGo (gN 6) tYes' (eC (.bl false)) [.val T, .val (.lst (cs.map dI)), .val (dR (mean nm t c0)), .un, .un, .un, .un, .un, .un] (t.ks.map dK) = .ok ((t.ks.map fun _ => false).map D.bl) := by
      rw [lcGo_map (δ := dK) (fun _ => D.bl false) t.ks (fun k _ => ⟨_, rfl, rfl⟩), List.map_map]; rfl
    have fin : lcGo (gN 5) (tV (e2 opIx (eB 3) (eN 5))) (eN 5) [.val T, .val (.lst (cs.map dI)), .val (dR (mean nm t c0)), .own (L2.map D.bl), x1, .un, y3, y4, y5] (rgD 0 (t.ks.length : Int)) = .ok ((((List.range t.ks.length).filter fun i => (L2[i]?).getD false).map fun i : Nat => (i : Int)).map D.int) := by
      rw [hmap, lcGo_filter (δ := fun i : Nat => D.int (i : Int)) (fun i => (L2[i]?).getD false) (fun i : Nat => D.int (i : Int)) (List.range t.ks.length) (fun i hi => ?_), List.map_map]
      · rfl
      · have hl : i < L2.length := by rw [l3]; exact List.mem_range.mp hi
        have e3 : opIx (.lst (L2.map D.bl)) (.int (i : Int)) = some (.bl ((L2[i]?).getD false)) := ix_lst' rfl (by rw [List.getElem?_map, List.getElem?_eq_getElem hl]; rfl)
        refine ⟨_, rfl, ?_, ?_⟩
        · generalize L2.map D.bl = LL at e3 ⊢
          generalize cs.map dI = E
          generalize dR (mean nm t c0) = M
          simp -implicitDefEqProofs [e3]
        · generalize L2.map D.bl = LL
          generalize cs.map dI = E
          generalize dR (mean nm t c0) = M
          simp -implicitDefEqProofs
    refine ⟨((List.range t.ks.length).filter fun i => (L2[i]?).getD false).map fun i : Nat => (i : Int), runFn_eq rfl ?_, ?_, ?_, by
      rw [List.length_map]
      have := List.length_filter_le (fun i => (L2[i]?).getD false) (List.range t.ks.length)
      rw [List.length_range] at this
      omega⟩
    · have hcl : ¬ ((cs.length : Int) = 0) := by
        intro z
        exact hne (List.length_eq_zero_iff.mp (by omega))
      have hz1 : (t.ks.map dK).length ≤ sizeLine := by rw [List.length_map]; exact Nat.le_of_lt (small1000 (by omega))
      have hz2 : (rgD 0 (t.ks.length : Int)).length ≤ sizeLine := by rw [rgD_length]; exact Nat.le_of_lt (small1000 (by omega))
      have hr := asR1_of (t.ks.length : Int) (by omega) (by omega)
      generalize hK : (List.map (fun i : Nat => (i : Int)) ((List.range t.ks.length).filter fun i => (L2[i]?).getD false)).map D.int = K at fin
      have hln : fLen [.lst (cs.map dI)] = some (.int (cs.length : Int)) := by simp
      have hlk : fLen [.tup (t.ks.map dK)] = some (.int (t.ks.length : Int)) := by simp
      generalize (cs.length : Int) = Z at *
      generalize rgD 0 (t.ks.length : Int) = RG at *
      generalize (t.ks.length : Int) = ZK at *
      generalize t.ks.map dK = KD at *
      generalize L2.map D.bl = LL2 at *
      generalize L1.map D.bl = LL1 at *
      generalize (t.ks.map fun _ => false).map D.bl = LL0 at *
      generalize cs.map dI = E at *
      generalize dR (mean nm t c0) = M at *
      simp -implicitDefEqProofs [ini, body_lasting_kinds, h1, hln, hlk, hcl, hsh, kd, flg, hz1, er1, hr, er2, fin, hz2]
      rw [← hK, List.map_map]
    · intro z
      rw [List.map_eq_nil_iff, List.filter_eq_nil_iff] at z
      obtain ⟨j, hj⟩ := List.mem_iff_getElem?.mp l4
      have hjl := (List.getElem?_eq_some_iff.mp hj).1
      exact z j (List.mem_range.mpr (by omega)) (by rw [hj]; rfl)
    · intro i hi
      obtain ⟨n, hn, rfl⟩ := List.mem_map.mp hi
      exact ⟨n, List.mem_range.mp (List.mem_filter.mp hn).1, rfl⟩
end G90

namespace G90
open PySem PySem.Spec PyProof.Rows L2 Pu
/-! ### splittings -/
theorem ix_ex {ns : List Int} {z : Int} (h1 : -(ns.length : Int) ≤ z) (h2 : z < ns.length) : ∃ v, opIx (dI ns) (.int z) = some (.int v) := by
  have hl : (ns.map D.int).length = ns.length := List.length_map _
  obtain ⟨n, hn, e⟩ : ∃ n, n < ns.length ∧ ixN (ns.map D.int).length z = some n := by
    rw [hl]
    unfold ixN
    by_cases h : 0 ≤ z
    · exact ⟨z.toNat, by omega, by rw [if_pos h, if_pos h2]⟩
    · exact ⟨(z + ns.length).toNat, by omega, by rw [if_neg h, if_pos h1]⟩
  refine ⟨ns[n], ?_⟩
  show (ixN (ns.map D.int).length z).bind (fun j => (ns.map D.int)[j]?) = _
  rw [e]
  show (ns.map D.int)[n]? = _
  rw [List.getElem?_map, List.getElem?_eq_getElem hn]; rfl
theorem rg1_map (n : Nat) : rgD 1 ((n : Int) + 1) = ((List.range n).map fun i : Nat => D.int (1 + (i : Int))) := by
  unfold rgD
  have : ((n : Int) + 1 - 1).toNat = n := by omega
  rw [this]
def gI (l : List Int) (n : Nat) : Int := l[n]?.getD 0
theorem gI_get {l : List Int} {n : Nat} (h : n < l.length) : l[n]? = some (gI l n) := by
  unfold gI
  rw [List.getElem?_eq_getElem h]; rfl
theorem gI_app {l m : List Int} {n : Nat} (h : n < l.length) : gI (l ++ m) n = gI l n := by
  unfold gI
  rw [List.getElem?_append_left h]
theorem gI_snoc {l : List Int} {x : Int} : gI (l ++ [x]) l.length = x := by
  unfold gI
  rw [List.getElem?_append_right (Nat.le_refl _), Nat.sub_self]; rfl
theorem ix_gI {l : List Int} {z : Int} {n : Nat} (hz : z = n) (h : n < l.length) : opIx (dI l) (.int z) = some (.int (gI l n)) := ix_I hz (gI_get h)
/-- what splittings builds -/
structure Spl (U : Nat → Int) (B : List Int) (h : Nat) : Prop where
  len : B.length = h + 1
  z : gI B 0 = 0
  le : ∀ n p, 1 ≤ p → p ≤ n → n ≤ h → gI B (n - p) + U p ≤ gI B n
  ex : ∀ n, 1 ≤ n → n ≤ h → ∃ p, 1 ≤ p ∧ p ≤ n ∧ gI B n = gI B (n - p) + U p
theorem Spl.zero (U : Nat → Int) : Spl U [0] 0 := ⟨rfl, rfl, fun n p h1 h2 h3 => by omega, fun n h1 h2 => by omega⟩
theorem Spl.next {U : Nat → Int} {B : List Int} {i : Nat} (s : Spl U B i) : Spl U (B ++ [maxL ((List.range (i + 1)).map fun j => gI B (i - j) + U (1 + j))]) (i + 1) := by
  have hl := s.len
  have hne : ((List.range (i + 1)).map fun j => gI B (i - j) + U (1 + j)) ≠ [] := by
    intro z
    rw [List.map_eq_nil_iff, List.range_eq_nil] at z
    omega
  have last : gI (B ++ [maxL ((List.range (i + 1)).map fun j => gI B (i - j) + U (1 + j))]) (i + 1) = maxL ((List.range (i + 1)).map fun j => gI B (i - j) + U (1 + j)) := by
    have := gI_snoc (l := B) (x := maxL ((List.range (i + 1)).map fun j => gI B (i - j) + U (1 + j)))
    rw [hl] at this; exact this
  have old : ∀ n, n ≤ i → gI (B ++ [maxL ((List.range (i + 1)).map fun j => gI B (i - j) + U (1 + j))]) n = gI B n := fun n hn => gI_app (by omega)
  refine ⟨by simp [hl], by rw [old 0 (by omega)]; exact s.z, fun n p h1 h2 h3 => ?_, fun n h1 h2 => ?_⟩
  · by_cases hn : n = i + 1
    · subst hn
      rw [last, old _ (by omega)]
      refine maxL_ge (List.mem_map.mpr ⟨p - 1, List.mem_range.mpr (by omega), ?_⟩)
      rw [show i - (p - 1) = i + 1 - p by omega, show 1 + (p - 1) = p by omega]
    · rw [old _ (by omega), old _ (by omega)]
      exact s.le n p h1 h2 (by omega)
  · by_cases hn : n = i + 1
    · subst hn
      obtain ⟨j, hj, e⟩ := List.mem_map.mp (maxL_mem hne)
      have := List.mem_range.mp hj
      refine ⟨1 + j, by omega, by omega, ?_⟩
      rw [last, old _ (by omega), ← e, show i + 1 - (1 + j) = i - j by omega]
    · obtain ⟨p, h3, h4, e⟩ := s.ex n h1 (by omega)
      exact ⟨p, h3, h4, by rw [old _ (by omega), old _ (by omega)]; exact e⟩
theorem f_split {nm : Str} {t : Tk} {h : Nat} (o : Ok t) (hn : h ≤ 500) : ∃ B : List Int, Fn_splittings [dT nm t, .int h] = .ok (dI B) ∧ Spl (fun n => maxL (row t n)) B h := by
  obtain ⟨U, d1, hUl, gU⟩ := dem_of (nm := nm) o hn
  generalize dT nm t = T at *
  obtain ⟨ρ', e, B, x, y, rfl, hB⟩ := forS_thru (g := gN 4) (body := sApp 3 (eF fMaxL (aC (eL (lLc (iR2 (aC (eC (.int 1)) (aC (e2 opAdd (eN 4) (eC (.int 1))) aN))) (gN 5) [5] tYes' (e2 opAdd (e2 opIx (eB 3) (e2 opSub (eN 4) (eN 5))) (e2 opIx (eN 2) (eN 5))))) aN))) (rgD 1 ((h : Int) + 1))
    (fun i ρ => ∃ (B : List Int) (x y : Pu.Slot), ρ = [.val T, .val (.int h), .val (dI U), .own (B.map D.int), x, y] ∧ Spl (fun n => maxL (row t n)) B i) [.val T, .val (.int h), .val (dI U), .own ([0].map D.int), .un, .un] ⟨[0], _, _, rfl, Spl.zero _⟩ (fun i d ρ e hi => by
      obtain ⟨B, x, y, rfl, hS⟩ := hi
      have hB := hS.len
      obtain ⟨rfl, hl⟩ := rgD_some e
      have key := lcGo_map (g := gN 5) (ev := e2 opAdd (e2 opIx (eB 3) (e2 opSub (eN 4) (eN 5))) (e2 opIx (eN 2) (eN 5))) (ρ := [.val T, .val (.int h), .val (dI U), .own (B.map D.int), .val (.int (1 + (i : Int))), .un]) (δ := fun j : Nat => D.int (1 + (j : Int))) (fun j => .int (gI B (i - j) + maxL (row t (1 + j)))) (List.range (i + 1)) (fun j hj => by
        have hji : j ≤ i := by have := List.mem_range.mp hj; omega
        have q1 : opIx (dI B) (.int (1 + (i : Int) - (1 + (j : Int)))) = some (.int (gI B (i - j))) := ix_gI (by omega) (by omega)
        have q2 : opIx (dI U) (.int (1 + (j : Int))) = some (.int (maxL (row t (1 + j)))) := ix_I (n := 1 + j) (by omega) (gU _ (by omega))
        refine ⟨_, rfl, ?_⟩
        have q1' : opIx (.lst (B.map D.int)) (.int (1 + (i : Int) - (1 + (j : Int)))) = some (.int (gI B (i - j))) := q1
        clear q1
        generalize B.map D.int = BB at q1' ⊢
        generalize dI U = UU at q2 ⊢
        simp -implicitDefEqProofs [q1', q2])
      rw [← rg1_map, map_ints (fun j => gI B (i - j) + maxL (row t (1 + j)))] at key
      have hcast : (((i + 1 : Nat) : Int) + 1) = 1 + (i : Int) + 1 := by omega
      rw [hcast] at key
      have hne : ((List.range (i + 1)).map fun j => gI B (i - j) + maxL (row t (1 + j))) ≠ [] := by
        intro z
        rw [List.map_eq_nil_iff, List.range_eq_nil] at z
        omega
      have hmx := fMaxL_map hne
      have hz : (rgD 1 (1 + (i : Int) + 1)).length ≤ sizeLine := by rw [rgD_length]; exact Nat.le_of_lt (small1000 (by omega))
      have hr := asR2_of 1 (1 + (i : Int) + 1) (by omega) (by omega) (by omega) (by omega)
      refine ⟨_, [.val T, .val (.int h), .val (dI U), .own ((B ++ [maxL ((List.range (i + 1)).map fun j => gI B (i - j) + maxL (row t (1 + j)))]).map D.int), .val (.int (1 + (i : Int))), y], rfl, .inl ?_, _, _, _, rfl, hS.next⟩
      rw [List.map_append]
      have hbl : (B.map D.int).length < sizeLine := by rw [List.length_map]; exact small1000 (by omega)
      generalize B.map D.int = BB at *
      generalize dI U = UU at *
      generalize ((List.range (i + 1)).map fun j => gI B (i - j) + maxL (row t (1 + j))) = mm at *
      generalize rgD 1 (1 + (i : Int) + 1) = RG at *
      generalize mm.map D.int = MM at *
      simp -implicitDefEqProofs [hr, hz, key, hmx, hbl])
  rw [rgD_length] at hB
  have hh : ((h : Int) + 1 - 1).toNat = h := by omega
  rw [hh] at hB
  refine ⟨B, runFn_eq rfl ?_, hB⟩
  have hr := asR2_of 1 ((h : Int) + 1) (by omega) (by omega) (by omega) (by omega)
  have e' : forS (gN 4) (sApp 3 (eF fMaxL (aC (eL (lLc (iR2 (aC (eC (.int 1)) (aC (e2 opAdd (eN 4) (eC (.int 1))) aN))) (gN 5) [5] tYes' (e2 opAdd (e2 opIx (eB 3) (e2 opSub (eN 4) (eN 5))) (e2 opIx (eN 2) (eN 5))))) aN))) (rgD 1 ((h : Int) + 1)) [.val T, .val (.int h), .val (dI U), .own [.int 0], .un, .un] = .nx [.val T, .val (.int h), .val (dI U), .own (B.map D.int), x, y] := e
  generalize rgD 1 ((h : Int) + 1) = RG at *
  show _ = Res.ok (D.lst (B.map D.int))
  generalize B.map D.int = BB at *
  generalize dI U = UU at *
  simp -implicitDefEqProofs [ini, body_splittings, d1, hr, e']
@[simp] theorem sFldC_ob (C i : Nat) (f : Str) (a : Ev) (ρ : PEnv) : sFldC C i f a ρ = match ρ[i]? with | some (.ob C' fs) => if C' = C then sFld i f a ρ else .stuck | _ => .stuck := rfl
@[simp] theorem sFld_ap (i : Nat) (f : Str) (a : Ev) (ρ : PEnv) : sFld i f a ρ = match ρ[i]? with | some (.ob C fs) => Out.of (a ρ) fun d => if fs.length < 1000 then .nx (ρ.set i (.ob C (putD f d fs))) else .stuck | _ => .stuck := rfl
theorem putD_len (f : Str) (d : D) : ∀ fs : List (Str × D), (putD f d fs).length ≤ fs.length + 1
  | [] => Nat.le_refl _
  | (g, x) :: r => by
    unfold putD
    split
    · exact Nat.le_succ _
    · exact Nat.succ_le_succ (putD_len f d r)
theorem putDc (f g : Str) (d x : D) (r : List (Str × D)) (h : ¬ g = f) : putD f d ((g, x) :: r) = (g, x) :: putD f d r := by
  show (if g = f then _ else _) = _
  rw [if_neg h]
/-- a part -/
def dPart (a b : Int) (tb : List Int) : D := .obj 1 [("length", .int a), ("cost", .int b), ("table", dI tb)]
theorem putD_part (a b c : D) : putD ("table" : Str) c (putD ("cost" : Str) b (putD ("length" : Str) a [])) = [(("length" : Str), a), (("cost" : Str), b), (("table" : Str), c)] := by
  show putD ("table" : Str) c (putD ("cost" : Str) b [(("length" : Str), a)]) = _
  rw [putDc _ _ _ _ _ (by decide), putDc _ _ _ _ _ (by decide)]
  show (("length" : Str), a) :: putD ("table" : Str) c [(("cost" : Str), b)] = _
  rw [putDc _ _ _ _ _ (by decide)]
  rfl
theorem f_Part {a b : D} {tb : List D} (ht : tb.length ≤ 1000) : Fn_Part_init [a, b, .lst tb] = .ok [("length", a), ("cost", b), ("table", .lst tb)] := by
  rw [← putD_part]
  have h1 : (putD "length" a []).length < 1000 := by have h := putD_len "length" a []; have e : ([] : List (Str × D)).length = 0 := rfl; omega
  have h2 : (putD "cost" b (putD "length" a [])).length < 1000 := by
    have q1 := putD_len "length" a []
    have q2 := putD_len "cost" b (putD "length" a [])
    have e : ([] : List (Str × D)).length = 0 := rfl
    omega
  have hz : tb.length ≤ sizeLine := Nat.le_of_lt (small1000 ht)
  show runIn 1 4 4 body_Part_init _ = _
  unfold runIn
  rw [if_pos (show ([a, b, D.lst tb] : List D).length + 1 = 4 from rfl)]
  show (body_Part_init [.ob 1 [], .val a, .val b, .val (.lst tb)]).init 1 = _
  generalize hg1 : putD "length" a [] = g1 at *
  generalize hg2 : putD "cost" b g1 = g2 at *
  simp -implicitDefEqProofs [body_Part_init, hg1, hg2, h1, h2, hz, Out.init, Slot.fsOf]
end G90

namespace G90
open PySem PySem.Spec PyProof.Rows L2 Pu
theorem val_nn {t : Tk} (o : Ok t) (L i : Nat) : 0 ≤ val t L i := (tab o).nn L i
theorem val_mono {t : Tk} (o : Ok t) {L M : Nat} (h : L ≤ M) (i : Nat) : val t L i ≤ val t M i := (tab o).mono h i
/-- the greatest cost -/
def mcost (t : Tk) : Int := maxL (t.ks.map fun k : Str × Int × Int => k.2.1)
/-- the table that a task fills up to h -/
def ptab (t : Tk) (B : List Int) (h : Nat) : List Int :=
  ((List.range (h - 1)).map fun j => gI B (1 + j) - gI B j) ++ [maxL (row t h) + max 1 (gI B h) - gI B (h - 1)] ++ [2 * mcost t * ((h : Int) + 1) + max 1 (gI B h)]
theorem f_partat {nm : Str} {t : Tk} {h : Nat} (o : Ok t) (h1 : 1 ≤ h) (hn : h ≤ 500) : ∃ B : List Int, Spl (fun n => maxL (row t n)) B h ∧ Fn_part_at [dT nm t, .int h] = .ok (dPart h (max 1 (gI B h)) (ptab t B h)) := by
  obtain ⟨B, d1, hS⟩ := f_split (nm := nm) o hn
  have hB := hS.len
  refine ⟨B, hS, ?_⟩
  obtain ⟨r, hr, d2⟩ := f_demand (nm := nm) o hn
  rw [rowsN_get t (Nat.lt_succ_self h)] at hr
  cases hr
  have k8 := o.k8
  have kd := fld_kinds nm t
  generalize dT nm t = T at *
  have i1 : opIx (dI B) (.int (h : Int)) = some (.int (gI B h)) := ix_gI rfl (by omega)
  have i2 : opIx (dI B) (.int ((h : Int) - 1)) = some (.int (gI B (h - 1))) := ix_gI (by omega) (by omega)
  generalize hv1 : gI B h = v1 at *
  generalize hv2 : gI B (h - 1) = v2 at *
  -- the table
  have tb : lcGo (gN 6) tYes' (e2 opSub (e2 opIx (eN 2) (eN 6)) (e2 opIx (eN 2) (e2 opSub (eN 6) (eC (.int 1))))) [.val T, .val (.int h), .val (dI B), .val (.int (max 1 v1)), .un, .un, .un, .un] (rgD 1 (h : Int)) = .ok (((List.range (h - 1)).map fun j => gI B (1 + j) - gI B j).map D.int) := by
    have er : rgD 1 (h : Int) = ((List.range (h - 1)).map fun i : Nat => D.int (1 + (i : Int))) := by
      unfold rgD
      have : ((h : Int) - 1).toNat = h - 1 := by omega
      rw [this]
    rw [er, lcGo_map (δ := fun j : Nat => D.int (1 + (j : Int))) (fun j => .int (gI B (1 + j) - gI B j)) (List.range (h - 1)) (fun j hj => ?_), map_ints fun j => gI B (1 + j) - gI B j]
    have hj' := List.mem_range.mp hj
    have q1 : opIx (dI B) (.int (1 + (j : Int))) = some (.int (gI B (1 + j))) := ix_gI (by omega) (by omega)
    have q2 : opIx (dI B) (.int (1 + (j : Int) - 1)) = some (.int (gI B j)) := ix_gI (by omega) (by omega)
    refine ⟨_, rfl, ?_⟩
    generalize dI B = BB at q1 q2 ⊢
    simp -implicitDefEqProofs [q1, q2]
  have htl : (((List.range (h - 1)).map fun j => gI B (1 + j) - gI B j).map D.int).length = h - 1 := by rw [List.length_map, List.length_map, List.length_range]
  generalize htb : ((List.range (h - 1)).map fun j => gI B (1 + j) - gI B j) = tbl at *
  have hne : t.ks.map (fun k : Str × Int × Int => k.2.1) ≠ [] := ne_of_len (List.length_map _) o.k1
  have hmx := fMaxL_map hne
  have hmb : 0 ≤ maxL (t.ks.map fun k : Str × Int × Int => k.2.1) ∧ maxL (t.ks.map fun k : Str × Int × Int => k.2.1) ≤ 1000 := by
    obtain ⟨k, hk, e⟩ := List.mem_map.mp (maxL_mem hne)
    have := o.kk k hk
    omega
  have hlk := lcGo_map (g := gN 7) (ev := e2 opIx (eN 7) (eC (.int 1))) (ρ := [.val T, .val (.int h), .val (dI B), .val (.int (max 1 v1)), .own (tbl.map D.int ++ [.int (maxL (row t h) + max 1 v1 - v2)]), .un, .un, .un]) (δ := dK) (fun k => .int k.2.1) t.ks (fun k _ => ⟨_, rfl, by
    generalize tbl.map D.int ++ [D.int (maxL (row t h) + max 1 v1 - v2)] = TT
    generalize dI B = BB
    simp -implicitDefEqProofs [dK]⟩)
  rw [map_ints fun k : Str × Int × Int => k.2.1] at hlk
  have hzk : (t.ks.map dK).length ≤ sizeLine := by rw [List.length_map]; exact Nat.le_of_lt (small1000 (by omega))
  have hzr : (rgD 1 (h : Int)).length ≤ sizeLine := by rw [rgD_length]; exact Nat.le_of_lt (small1000 (by omega))
  have hrr := asR2_of 1 (h : Int) (by omega) (by omega) (by omega) (by omega)
  have hl1 : (tbl.map D.int).length < sizeLine := by rw [htl]; exact small1000 (by omega)
  have hl2 : (tbl.map D.int ++ [D.int (maxL (row t h) + max 1 v1 - v2)]).length < sizeLine := by rw [List.length_append, htl]; exact small1000 (by simp; omega)
  have hl3 : (tbl.map D.int ++ [D.int (maxL (row t h) + max 1 v1 - v2)] ++ [D.int (2 * maxL (t.ks.map fun k : Str × Int × Int => k.2.1) * ((h : Int) + 1) + max 1 v1)]).length ≤ 1000 := by
    rw [List.length_append, List.length_append, htl]; simp; omega
  have hfs := f_Part (a := .int h) (b := .int (max 1 v1)) hl3
  have fin : dPart h (max 1 v1) (ptab t B h) = .obj 1 [("length", .int h), ("cost", .int (max 1 v1)), ("table", .lst (tbl.map D.int ++ [D.int (maxL (row t h) + max 1 v1 - v2)] ++ [D.int (2 * maxL (t.ks.map fun k : Str × Int × Int => k.2.1) * ((h : Int) + 1) + max 1 v1)]))] := by
    unfold dPart ptab mcost dI
    rw [htb, hv1, hv2, List.map_append, List.map_append]; rfl
  rw [fin]
  clear fin
  have d2' : Fn_demand [T, .int h] = .ok (.int (maxL (row t h))) := d2
  clear d2
  refine runFn_eq rfl ?_
  generalize t.ks.map (fun k : Str × Int × Int => k.2.1) = mm at *
  have m1 := opMul_of 2 (maxL mm) (by omega)
  have m2 := opMul_of (2 * maxL mm) ((h : Int) + 1) (by omega)
  generalize maxL (row t h) = mr at *
  generalize maxL mm = mxx at *
  generalize mm.map D.int = MM at *
  generalize t.ks.map dK = KD at *
  generalize rgD 1 (h : Int) = RG at *
  generalize tbl.map D.int = TB at *
  generalize dI B = BB at *
  rw [List.length_append] at hl2
  have hl2' : TB.length + 1 < sizeLine := hl2
  simp only [List.append_assoc, List.cons_append, List.nil_append] at hfs
  simp -implicitDefEqProofs [ini, body_part_at, d1, i1, i2, hrr, tb, hzr, hl1, d2', kd, hlk, hzk, hmx, m1, m2, hl2', hfs]
end G90

namespace G90
open PySem PySem.Spec PyProof.Rows L2 Pu
/-- what stands_by tells -/
structure Stands (t u : Tk) (kept : List Int) (h s : Nat) : Prop where
  ex : ∃ (D1 D2 q1 q2 : Nat) (g : Int), (∀ k ∈ t.ks, k.2.2 ≤ (D1 : Int)) ∧ (∀ k ∈ u.ks, k.2.2 ≤ (D2 : Int)) ∧ (∀ w ∈ t.ws, w.2.2 ≤ (q1 : Int)) ∧ (∀ w ∈ u.ws, w.2.2 ≤ (q2 : Int)) ∧ D1 + q1 + s ≤ h ∧ D2 + q2 + s ≤ h ∧ 0 ≤ g ∧ 1 ≤ s ∧
    Grows u kept h q2 s g ∧ Grows t [] h q1 s g ∧ ∀ L, h - s < L → L ≤ h → Within u kept L g ∧ ∃ j : Nat, (j : Int) ∈ kept ∧ maxL (row t L) ≤ val u L j
theorem eProp_T (Fn : List D → Res D) (nm : Str) (t : Tk) (i : Nat) (ρ : PEnv) (h : ρ[i]? = some (.val (dT nm t))) : eProp 0 Fn (eN i) ρ = (Fn [dT nm t]).nx := by
  unfold eProp
  rw [eN_ap, h]
  rfl
theorem f_stands {a b : Str} {t u : Tk} {kept : List Int} {h s : Nat} (o : Ok t) (o2 : Ok u) (hk : ∀ i ∈ kept, ∃ n : Nat, n < u.ks.length ∧ i = n) (hne : kept ≠ []) (hs : 1 ≤ s) (hn : h ≤ 500) (hsh : s ≤ 500) (hkl : kept.length ≤ 1000) :
    Fn_stands_by [dT a t, dT b u, .lst ((rowsN t (h + 1)).map dI), .lst ((rowsN u (h + 1)).map dI), dI kept, .int s, .int h] = .ok (.bl false) ∨
    (Fn_stands_by [dT a t, dT b u, .lst ((rowsN t (h + 1)).map dI), .lst ((rowsN u (h + 1)).map dI), dI kept, .int s, .int h] = .ok (.bl true) ∧ Stands t u kept h s) := by
  obtain ⟨D1, hD1, hD1', l1, hd1⟩ := f_latest (nm := a) o
  obtain ⟨D2, hD2, hD2', l2, hd2⟩ := f_latest (nm := b) o2
  obtain ⟨q1, hq1, g1, hw1⟩ := f_longest (nm := a) o
  obtain ⟨q2, hq2, g2, hw2⟩ := f_longest (nm := b) o2
  by_cases hre : D1 + q1 + s ≤ h ∧ D2 + q2 + s ≤ h
  · obtain ⟨r1, r2⟩ := hre
    -- the growth
    obtain ⟨k0, kr, hk0⟩ : ∃ k0 kr, kept = k0 :: kr := by cases kept with | nil => exact absurd rfl hne | cons x r => exact ⟨x, r, rfl⟩
    obtain ⟨n0, hn0, hn0'⟩ := hk k0 (by rw [hk0]; exact List.mem_cons_self)
    have ik : opIx (dI kept) (.int 0) = some (.int (n0 : Int)) := ix_I (n := 0) rfl (by rw [hk0, hn0']; rfl)
    obtain ⟨g, hg, hge⟩ : ∃ g : Int, 0 ≤ g ∧ g = if (0 : Int) < q2 then val u h n0 - val u (h - s) n0 else 0 := by
      refine ⟨_, ?_, rfl⟩
      split
      · have := val_mono o2 (show h - s ≤ h by omega) n0; omega
      · exact Int.le_refl _
    have gr2 := f_grows (t := u) (kept := kept) (h := h) (count := q2) (step := s) (g := g) (by omega) hn
    have gr1 := f_grows (t := t) (kept := []) (h := h) (count := q1) (step := s) (g := g) (by omega) hn
    have st : ∀ L : Nat, L ≤ h → _ := fun L hL => f_stays (nm := b) (t := u) (kept := kept) (h := h) (L := L) (g := g) o2 hk hL hn
    have ixT : ∀ (L : Nat) (z : Int), L ≤ h → z = L → opIx (.lst ((rowsN t (h + 1)).map dI)) (.int z) = some (dI (row t L)) := fun L z hL hz => ix_row hL hz
    have ixU : ∀ (L : Nat) (z : Int), L ≤ h → z = L → opIx (.lst ((rowsN u (h + 1)).map dI)) (.int z) = some (dI (row u L)) := fun L z hL hz => ix_row hL hz
    have p1 : ∀ ρ : PEnv, ρ[0]? = some (.val (dT a t)) → eProp 0 Fn_Task_latest_deadline (eN 0) ρ = .ok (.int D1) ∧ eProp 0 Fn_Task_longest_distance (eN 0) ρ = .ok (.int q1) := fun ρ h => by
      rw [eProp_T _ _ _ _ _ h, eProp_T _ _ _ _ _ h, l1, g1]; exact ⟨rfl, rfl⟩
    have p2 : ∀ ρ : PEnv, ρ[1]? = some (.val (dT b u)) → eProp 0 Fn_Task_latest_deadline (eN 1) ρ = .ok (.int D2) ∧ eProp 0 Fn_Task_longest_distance (eN 1) ρ = .ok (.int q2) := fun ρ h => by
      rw [eProp_T _ _ _ _ _ h, eProp_T _ _ _ _ _ h, l2, g2]; exact ⟨rfl, rfl⟩
    clear l1 l2 g1 g2
    generalize dT a t = TA at *
    generalize dT b u = TB at *
    obtain ⟨mt, hmt⟩ : ∃ mt : D, mt = .lst ((rowsN t (h + 1)).map dI) := ⟨_, rfl⟩
    obtain ⟨mu, hmu⟩ : ∃ mu : D, mu = .lst ((rowsN u (h + 1)).map dI) := ⟨_, rfl⟩
    rw [← hmt] at gr1 ixT ⊢
    rw [← hmu] at gr2 ixU ⊢
    simp only [← hmu] at st
    clear hmt hmu
    have i1 := ixU h (h : Int) (Nat.le_refl _) rfl
    have i2 := ixU (h - s) ((h : Int) - s) (by omega) (by omega)
    have v1 : opIx (dI (row u h)) (.int (n0 : Int)) = some (.int (val u h n0)) := ix_val hn0 rfl
    have v2 : opIx (dI (row u (h - s))) (.int (n0 : Int)) = some (.int (val u (h - s) n0)) := ix_val hn0 rfl
    have hreach : ¬ ((h : Int) < max ((D1 : Int) + q1) ((D2 : Int) + q2) + s) := by omega
    have hs1 : ¬ ((s : Int) < 1) := by omega
    -- the lengths
    have key := forS_ind (g := gN 10) (body := sSeq (sIf (tNot' (tV (eCall Fn_stays_within (aApp (aC (eN 1) (aC (eN 3) (aC (eN 4) aN))) (aC (eN 10) (aC (eN 8) aN)))))) (sRet (eC (.bl false))) sNil)
    (sIf (tV (e2 opGt (eF fMaxL (aC (e2 opIx (eN 2) (eN 10)) aN)) (eF fMaxL (aC (eL (lLc (iS (eN 4)) (gN 11) [11] tYes' (e2 opIx (e2 opIx (eN 3) (eN 10)) (eN 11)))) aN)))) (sRet (eC (.bl false))) sNil)) (fun o => o = .rt (.bl false)) (rgD ((h : Int) - s + 1) ((h : Int) + 1))
      (fun i ρ => (∀ L, h - s < L → L ≤ h → L < h - s + 1 + i → Within u kept L g ∧ ∃ j : Nat, (j : Int) ∈ kept ∧ maxL (row t L) ≤ val u L j) ∧ ∃ x y, ρ = [.val TA, .val TB, .val mt, .val mu, .val (dI kept), .val (.int s), .val (.int h), .val (.int (max ((D1 : Int) + q1) ((D2 : Int) + q2))), .val (.int g), .val (.int q2), x, y])
      [.val TA, .val TB, .val mt, .val mu, .val (dI kept), .val (.int s), .val (.int h), .val (.int (max ((D1 : Int) + q1) ((D2 : Int) + q2))), .val (.int g), .val (.int q2), .un, .un] ⟨fun L h1 h2 h3 => by omega, _, _, rfl⟩ (fun i d ρ e hi => by
        obtain ⟨hle, x, y, rfl⟩ := hi
        obtain ⟨rfl, hl⟩ := rgD_some e
        obtain ⟨L, hL⟩ : ∃ L : Nat, L = h - s + 1 + i := ⟨_, rfl⟩
        have hLz : (h : Int) - s + 1 + i = (L : Int) := by omega
        have hLh : L ≤ h := by omega
        rw [hLz]
        have hst := st L hLh
        have hnx : (Within u kept L g ∧ ∃ j : Nat, (j : Int) ∈ kept ∧ maxL (row t L) ≤ val u L j) → ∀ L', h - s < L' → L' ≤ h → L' < h - s + 1 + (i + 1) → Within u kept L' g ∧ ∃ j : Nat, (j : Int) ∈ kept ∧ maxL (row t L') ≤ val u L' j := fun hh L' h1 h2 h3 => by
          by_cases q : L' = L
          · subst q; exact hh
          · exact hle L' h1 h2 (by omega)
        refine ⟨[.val TA, .val TB, .val mt, .val mu, .val (dI kept), .val (.int s), .val (.int h), .val (.int (max ((D1 : Int) + q1) ((D2 : Int) + q2))), .val (.int g), .val (.int q2), .val (.int L), y], rfl, ?_⟩
        have ja := ixT L (L : Int) hLh rfl
        have jb := ixU L (L : Int) hLh rfl
        have jm := fMaxL_map (ne_of_len (row_len t L) o.k1)
        have lc := lcGo_map (g := gN 11) (ev := e2 opIx (e2 opIx (eN 3) (eN 10)) (eN 11)) (ρ := [.val TA, .val TB, .val mt, .val mu, .val (dI kept), .val (.int s), .val (.int h), .val (.int (max ((D1 : Int) + q1) ((D2 : Int) + q2))), .val (.int g), .val (.int q2), .val (.int L), .un]) (δ := D.int) (fun i => .int (val u L i.toNat)) kept (fun i hi' => by
          obtain ⟨n, hn', rfl⟩ := hk i hi'
          have jv : opIx (dI (row u L)) (.int (n : Int)) = some (.int (val u L n)) := ix_val hn' rfl
          refine ⟨_, rfl, ?_⟩
          generalize dI (row u L) = RU at jb jv
          generalize dI kept = KK
          generalize max ((D1 : Int) + q1) ((D2 : Int) + q2) = MX
          simp -implicitDefEqProofs [jb, jv])
        rw [map_ints fun i : Int => val u L i.toNat] at lc
        have kne : kept.map (fun i : Int => val u L i.toNat) ≠ [] := fun z => hne (List.map_eq_nil_iff.mp z)
        have km := fMaxL_map kne
        obtain ⟨j, hj, hje⟩ := List.mem_map.mp (maxL_mem kne)
        obtain ⟨jn, hjn, rfl⟩ := hk j hj
        have kz : (kept.map D.int).length ≤ sizeLine := by rw [List.length_map]; exact Nat.le_of_lt (small1000 hkl)
        by_cases hcmp : maxL (kept.map fun i : Int => val u L i.toNat) < maxL (row t L)
        · rcases hst with hst | ⟨hst, hw⟩
          · right
            refine ⟨.rt (.bl false), ?_, trivial, rfl⟩
            generalize dI kept = KK at *
            generalize max ((D1 : Int) + q1) ((D2 : Int) + q2) = MX
            simp -implicitDefEqProofs [hst]
          · · right
              refine ⟨.rt (.bl false), ?_, trivial, rfl⟩
              have hcc : asSeq (dI kept) = .ok (kept.map D.int) := rfl
              generalize kept.map (fun i : Int => val u L i.toNat) = ku at *
              generalize row t L = rt at *
              generalize ku.map D.int = KU at *
              generalize kept.map D.int = KL at lc hcc kz
              generalize dI kept = KK at *
              generalize max ((D1 : Int) + q1) ((D2 : Int) + q2) = MX at *
              simp -implicitDefEqProofs [hst, ja, jm, lc, hcc, kz, km, hcmp]
        · rcases hst with hst | ⟨hst, hw⟩
          · right
            refine ⟨.rt (.bl false), ?_, trivial, rfl⟩
            generalize dI kept = KK at *
            generalize max ((D1 : Int) + q1) ((D2 : Int) + q2) = MX
            simp -implicitDefEqProofs [hst]
          · · left
              refine ⟨[.val TA, .val TB, .val mt, .val mu, .val (dI kept), .val (.int s), .val (.int h), .val (.int (max ((D1 : Int) + q1) ((D2 : Int) + q2))), .val (.int g), .val (.int q2), .val (.int L), y], .inl ?_, hnx ⟨hw, jn, hj, by rw [← hje] at hcmp; exact Int.not_lt.mp hcmp⟩, _, _, rfl⟩
              have hcc : asSeq (dI kept) = .ok (kept.map D.int) := rfl
              generalize kept.map (fun i : Int => val u L i.toNat) = ku at *
              generalize row t L = rt at *
              generalize ku.map D.int = KU at *
              generalize kept.map D.int = KL at lc hcc kz
              generalize dI kept = KK at *
              generalize max ((D1 : Int) + q1) ((D2 : Int) + q2) = MX at *
              simp -implicitDefEqProofs [hst, ja, jm, lc, hcc, kz, km, hcmp]
            )
    have hr := asR2_of ((h : Int) - s + 1) ((h : Int) + 1) (by omega) (by omega) (by omega) (by omega)
    have hdl : dI kept = .lst (kept.map D.int) := rfl
    have gr1' : Fn_grows_alike [mt, .lst [], .int h, .int q1, .int s, .int g] = .ok (.bl false) ∨ (Fn_grows_alike [mt, .lst [], .int h, .int q1, .int s, .int g] = .ok (.bl true) ∧ Grows t [] h q1 s g) := gr1
    have fin : (∃ v : Bool, (body_stands_by [.val TA, .val TB, .val mt, .val mu, .val (dI kept), .val (.int s), .val (.int h), .un, .un, .un, .un, .un]).res = .ok (.bl v) ∧ (v = true → Grows u kept h q2 s g ∧ Grows t [] h q1 s g ∧ ∀ L, h - s < L → L ≤ h → Within u kept L g ∧ ∃ j : Nat, (j : Int) ∈ kept ∧ maxL (row t L) ≤ val u L j)) := by
      have keyE : (∃ ρ', forS (gN 10) (sSeq (sIf (tNot' (tV (eCall Fn_stays_within (aApp (aC (eN 1) (aC (eN 3) (aC (eN 4) aN))) (aC (eN 10) (aC (eN 8) aN)))))) (sRet (eC (.bl false))) sNil)
    (sIf (tV (e2 opGt (eF fMaxL (aC (e2 opIx (eN 2) (eN 10)) aN)) (eF fMaxL (aC (eL (lLc (iS (eN 4)) (gN 11) [11] tYes' (e2 opIx (e2 opIx (eN 3) (eN 10)) (eN 11)))) aN)))) (sRet (eC (.bl false))) sNil)) (rgD ((h : Int) - s + 1) ((h : Int) + 1)) [.val TA, .val TB, .val mt, .val mu, .val (dI kept), .val (.int s), .val (.int h), .val (.int (max ((D1 : Int) + q1) ((D2 : Int) + q2))), .val (.int g), .val (.int q2), .un, .un] = .nx ρ' ∧ ∀ L, h - s < L → L ≤ h → Within u kept L g ∧ ∃ j : Nat, (j : Int) ∈ kept ∧ maxL (row t L) ≤ val u L j) ∨ forS (gN 10) (sSeq (sIf (tNot' (tV (eCall Fn_stays_within (aApp (aC (eN 1) (aC (eN 3) (aC (eN 4) aN))) (aC (eN 10) (aC (eN 8) aN)))))) (sRet (eC (.bl false))) sNil)
    (sIf (tV (e2 opGt (eF fMaxL (aC (e2 opIx (eN 2) (eN 10)) aN)) (eF fMaxL (aC (eL (lLc (iS (eN 4)) (gN 11) [11] tYes' (e2 opIx (e2 opIx (eN 3) (eN 10)) (eN 11)))) aN)))) (sRet (eC (.bl false))) sNil)) (rgD ((h : Int) - s + 1) ((h : Int) + 1)) [.val TA, .val TB, .val mt, .val mu, .val (dI kept), .val (.int s), .val (.int h), .val (.int (max ((D1 : Int) + q1) ((D2 : Int) + q2))), .val (.int g), .val (.int q2), .un, .un] = .rt (.bl false) := by
        rcases key with ⟨ρ', e, h1, _⟩ | e
        · refine .inl ⟨ρ', e, fun L g1 g2 => h1 L g1 g2 ?_⟩
          rw [rgD_length]; omega
        · exact .inr e
      clear key
      generalize rgD ((h : Int) - s + 1) ((h : Int) + 1) = RG at *
      generalize dI (row u h) = R1 at *
      generalize dI (row u (h - s)) = R2 at *
      generalize dI kept = KK at *
      generalize hMX : max ((D1 : Int) + q1) ((D2 : Int) + q2) = MX at *
      by_cases hq : (0 : Int) < (q2 : Int)
      · rw [if_pos hq] at hge
        have hq' : 0 < q2 := by omega
        rcases gr2 with gr2 | ⟨gr2, G2⟩
        · refine ⟨false, ?_, fun z => by cases z⟩
          rw [hge] at gr2
          simp -implicitDefEqProofs [body_stands_by, p1, p2, hMX, hs1, hreach, hq', i1, i2, ik, v1, v2, gr2]
        · rcases gr1' with gr1' | ⟨gr1', G1⟩
          · refine ⟨false, ?_, fun z => by cases z⟩
            rw [hge] at gr2 gr1'
            simp -implicitDefEqProofs [body_stands_by, p1, p2, hMX, hs1, hreach, hq', i1, i2, ik, v1, v2, gr2, gr1']
          · rcases keyE with ⟨ρ', e, hall⟩ | e
            · refine ⟨true, ?_, fun _ => ⟨G2, G1, hall⟩⟩
              rw [hge] at gr2 gr1' e
              simp -implicitDefEqProofs [body_stands_by, p1, p2, hMX, hs1, hreach, hq', i1, i2, ik, v1, v2, gr2, gr1', hr, e]
            · refine ⟨false, ?_, fun z => by cases z⟩
              rw [hge] at gr2 gr1' e
              simp -implicitDefEqProofs [body_stands_by, p1, p2, hMX, hs1, hreach, hq', i1, i2, ik, v1, v2, gr2, gr1', hr, e]
      · rw [if_neg hq] at hge
        have hq' : ¬ 0 < q2 := by omega
        rcases gr2 with gr2 | ⟨gr2, G2⟩
        · refine ⟨false, ?_, fun z => by cases z⟩
          rw [hge] at gr2
          simp -implicitDefEqProofs [body_stands_by, p1, p2, hMX, hs1, hreach, hq', gr2]
        · rcases gr1' with gr1' | ⟨gr1', G1⟩
          · refine ⟨false, ?_, fun z => by cases z⟩
            rw [hge] at gr2 gr1'
            simp -implicitDefEqProofs [body_stands_by, p1, p2, hMX, hs1, hreach, hq', gr2, gr1']
          · rcases keyE with ⟨ρ', e, hall⟩ | e
            · refine ⟨true, ?_, fun _ => ⟨G2, G1, hall⟩⟩
              rw [hge] at gr2 gr1' e
              simp -implicitDefEqProofs [body_stands_by, p1, p2, hMX, hs1, hreach, hq', gr2, gr1', hr, e]
            · refine ⟨false, ?_, fun z => by cases z⟩
              rw [hge] at gr2 gr1' e
              simp -implicitDefEqProofs [body_stands_by, p1, p2, hMX, hs1, hreach, hq', gr2, gr1', hr, e]
    obtain ⟨v, e, hv⟩ := fin
    cases v with
    | false => exact .inl (runFn_eq rfl e)
    | true =>
      obtain ⟨x1, x2, x3⟩ := hv rfl
      exact .inr ⟨runFn_eq rfl e, ⟨⟨D1, D2, q1, q2, g, hd1, hd2, hw1, hw2, r1, r2, hg, hs, x1, x2, x3⟩⟩⟩
  · left
    have p1 : ∀ ρ : PEnv, ρ[0]? = some (.val (dT a t)) → eProp 0 Fn_Task_latest_deadline (eN 0) ρ = .ok (.int D1) ∧ eProp 0 Fn_Task_longest_distance (eN 0) ρ = .ok (.int q1) := fun ρ h => by
      rw [eProp_T _ _ _ _ _ h, eProp_T _ _ _ _ _ h, l1, g1]; exact ⟨rfl, rfl⟩
    have p2 : ∀ ρ : PEnv, ρ[1]? = some (.val (dT b u)) → eProp 0 Fn_Task_latest_deadline (eN 1) ρ = .ok (.int D2) ∧ eProp 0 Fn_Task_longest_distance (eN 1) ρ = .ok (.int q2) := fun ρ h => by
      rw [eProp_T _ _ _ _ _ h, eProp_T _ _ _ _ _ h, l2, g2]; exact ⟨rfl, rfl⟩
    clear l1 l2 g1 g2
    have hreach : (h : Int) < max ((D1 : Int) + q1) ((D2 : Int) + q2) + s := by omega
    have hs1 : ¬ ((s : Int) < 1) := by omega
    refine runFn_eq rfl ?_
    show (body_stands_by [.val (dT a t), .val (dT b u), .val (.lst ((rowsN t (h + 1)).map dI)), .val (.lst ((rowsN u (h + 1)).map dI)), .val (dI kept), .val (.int s), .val (.int h), .un, .un, .un, .un, .un]).res = _
    generalize D.lst ((rowsN t (h + 1)).map dI) = mt
    generalize D.lst ((rowsN u (h + 1)).map dI) = mu
    generalize dT a t = TA at *
    generalize dT b u = TB at *
    generalize dI kept = KK
    generalize hMX : max ((D1 : Int) + q1) ((D2 : Int) + q2) = MX at *
    simp -implicitDefEqProofs [body_stands_by, p1, p2, hMX, hs1, hreach]
end G90

namespace G90
open PySem PySem.Spec PyProof.Rows L2 Pu
theorem f_sis {a b : Str} {t u : Tk} {h : Nat} (o : Ok t) (o2 : Ok u) (hn : h ≤ 500) (hfe : Fn_first_excess [dT a t, dT b u, .int h] = .ok .non) :
    Fn_stand_in_step [dT a t, dT b u, .int h] = .ok .non ∨ ∃ s : Nat, Fn_stand_in_step [dT a t, dT b u, .int h] = .ok (.int s) ∧ ∃ kept : List Int, (∀ i ∈ kept, ∃ n : Nat, n < u.ks.length ∧ i = n) ∧ Stands t u kept h s := by
  obtain ⟨kept, k1, k2, k3, k4⟩ := f_lasting (nm := b) o2
  have r1 := f_rows (nm := a) o hn
  have r2 := f_rows (nm := b) o2 hn
  have st : ∀ s : Nat, 1 ≤ s → s ≤ h → _ := fun s h1 h2 => f_stands (a := a) (b := b) (t := t) (u := u) (kept := kept) (h := h) (s := s) o o2 k3 k2 h1 hn (by omega) k4
  obtain ⟨mt, hmt⟩ : ∃ mt : D, mt = .lst ((rowsN t (h + 1)).map dI) := ⟨_, rfl⟩
  obtain ⟨mu, hmu⟩ : ∃ mu : D, mu = .lst ((rowsN u (h + 1)).map dI) := ⟨_, rfl⟩
  rw [← hmt] at r1
  rw [← hmu] at r2
  simp only [← hmt, ← hmu] at st
  clear hmt hmu
  generalize dT a t = TA at *
  generalize dT b u = TB at *
  have key := forS_ind (g := gN 6) (body := sIf (tV (eCall Fn_stands_by (aApp (aC (eN 0) (aC (eN 1) (aC (eN 3) (aC (eN 4) (aC (eN 5) aN))))) (aC (eN 6) (aC (eN 2) aN))))) (sRet (eN 6)) sNil) (fun o => ∃ s : Nat, o = .rt (.int s) ∧ Stands t u kept h s) (rgD 1 ((h : Int) + 1))
    (fun i ρ => ∃ x, ρ = [.val TA, .val TB, .val (.int h), .val mt, .val mu, .val (dI kept), x]) [.val TA, .val TB, .val (.int h), .val mt, .val mu, .val (dI kept), .un] ⟨_, rfl⟩ (fun i d ρ e hi => by
      obtain ⟨x, rfl⟩ := hi
      obtain ⟨rfl, hl⟩ := rgD_some e
      have hc : (1 : Int) + i = ((1 + i : Nat) : Int) := by omega
      rw [hc]
      refine ⟨[.val TA, .val TB, .val (.int h), .val mt, .val mu, .val (dI kept), .val (.int (1 + i : Nat))], rfl, ?_⟩
      have s1 := st (1 + i) (by omega) (by omega)
      generalize (1 + i : Nat) = s at *
      generalize dI kept = KK at *
      rcases s1 with s1 | ⟨s1, S⟩
      · left
        exact ⟨[.val TA, .val TB, .val (.int h), .val mt, .val mu, .val KK, .val (.int s)], .inl (by simp -implicitDefEqProofs [s1]), _, rfl⟩
      · right
        exact ⟨.rt (.int s), by simp -implicitDefEqProofs [s1], trivial, s, rfl, S⟩)
  have hr := asR2_of 1 ((h : Int) + 1) (by omega) (by omega) (by omega) (by omega)
  generalize rgD 1 ((h : Int) + 1) = RG at *
  rcases key with ⟨ρ', e, _⟩ | ⟨s, e, S⟩
  · left
    refine runFn_eq rfl ?_
    generalize dI kept = KK at *
    simp -implicitDefEqProofs [ini, body_stand_in_step, hfe, r1, r2, k1, hr, e]
  · right
    refine ⟨s, runFn_eq rfl ?_, kept, k3, S⟩
    generalize dI kept = KK at *
    simp -implicitDefEqProofs [ini, body_stand_in_step, hfe, r1, r2, k1, hr, e]
/-- what stands_by tells holds for ever -/
theorem stands_all {t u : Tk} {h s : Nat} {kept : List Int} (o : Ok t) (o2 : Ok u) (hfe : ∀ L, L ≤ h → maxL (row t L) ≤ maxL (row u L)) (hk : ∀ i ∈ kept, ∃ n : Nat, n < u.ks.length ∧ i = n) (S : Stands t u kept h s) : ∀ L, maxL (row t L) ≤ maxL (row u L) := by
  intro L
  by_cases hL : L ≤ h
  · exact hfe L hL
  obtain ⟨D1, D2, q1, q2, g, d1, d2, w1, w2, e1, e2, hg, hs, G2, G1, X⟩ := S.ex
  have dl1 : ∀ (v : Tk) (Dv : Nat), (∀ k ∈ v.ks, k.2.2 ≤ (Dv : Int)) → ∀ i, i < v.ks.length → (sys v).dl i ≤ Dv := fun v Dv hv i hi => by
    show ((v.ks[i]?.map (fun k : Str × Int × Int => k.2.2)).getD 0).toNat ≤ Dv
    rw [List.getElem?_eq_getElem hi]
    have := hv _ (List.getElem_mem hi)
    show (v.ks[i]).2.2.toNat ≤ Dv
    omega
  have ww : ∀ (v : Tk) (ov : Ok v), ∀ w ∈ (sys v).W, w.1 < v.ks.length ∧ w.2.1 < v.ks.length := fun v ov w hw => by
    obtain ⟨x, hx, rfl⟩ := List.mem_map.mp hw
    have := ov.ww x hx
    exact ⟨num_lt this.1, num_lt this.2.1⟩
  have wd : ∀ (v : Tk) (q : Nat), (∀ w ∈ v.ws, w.2.2 ≤ (q : Int)) → ∀ w ∈ (sys v).W, w.2.2 ≤ q := fun v q hq w hw => by
    obtain ⟨x, hx, rfl⟩ := List.mem_map.mp hw
    have := hq x hx
    show x.2.2.toNat ≤ q
    omega
  have kl : ∀ i : Nat, (i : Int) ∈ kept → i < u.ks.length := fun i hi => by
    obtain ⟨n, hn, e⟩ := hk _ hi
    omega
  have key := Dem.stand (tab o) (tab o2) (h := h) (st := s) (q1 := q1) (q2 := q2) (D := D1) (D2 := D2) (g := g) (P := fun i => (i : Int) ∈ kept) (n1 := t.ks.length) hg hs (wd t q1 w1) (wd u q2 w2) e1 e2 (dl1 t D1 d1) (ww t o)
    (fun w hw => ⟨dl1 u D2 d2 _ (ww u o2 w hw).1, dl1 u D2 d2 _ (ww u o2 w hw).2⟩) (fun i hi => dl1 u D2 d2 _ (kl i hi))
    (fun below hb i hi => (G1 below hb i hi).1) (fun below hb w hw => (G2 below hb _ (ww u o2 w hw).2).1) (fun below hb i hi => (G2 below hb i (kl i hi)).2 hi)
    (fun L h1 h2 i hi => by
      rcases (X L h1 h2).1 i hi with z | ⟨w, hw, n1, hd, hm, ev⟩
      · exact .inl z
      · have := (o2.ww w hw).2.2.1
        exact .inr ⟨toW u w, List.mem_map_of_mem hw, n1, by show w.2.2.toNat ≤ L; omega, hm, ev⟩)
    (fun L h1 h2 i hi => by
      obtain ⟨j, hj, hle⟩ := (X L h1 h2).2
      exact ⟨j, hj, Int.le_trans (row_max_ge hi) hle⟩)
  obtain ⟨i, hi, e⟩ := row_max_at o L
  obtain ⟨j, hj, hle⟩ := key L (by omega) i hi
  rw [e]
  exact Int.le_trans hle (row_max_ge (kl j hj))
end G90

namespace G90
open PySem PySem.Spec PyProof.Rows L2 Pu
theorem val0 {t : Tk} (o : Ok t) {i : Nat} (hi : i < t.ks.length) : val t 0 i = 0 := by
  have tb := tab o
  have h1 := tb.rec_ 0 i
  have hb : bst t 0 i = 0 := by
    rcases tb.b2 0 i with h | ⟨w, hw, _, h2, _⟩
    · exact h
    · have := tb.pos w hw; omega
  have hd : ¬ (sys t).dl i ≤ 0 := by
    show ¬ ((t.ks[i]?.map (fun k : Str × Int × Int => k.2.2)).getD 0).toNat ≤ 0
    rw [List.getElem?_eq_getElem hi]
    have := (o.kk _ (List.getElem_mem hi)).2.2.1
    show ¬ (t.ks[i]).2.2.toNat ≤ 0
    omega
  rw [if_neg hd] at h1
  have h1' : val t 0 i = 0 + bst t 0 i := h1
  omega
theorem max0 {t : Tk} (o : Ok t) : maxL (row t 0) = 0 := by
  obtain ⟨i, hi, e⟩ := row_max_at o 0
  rw [e, val0 o hi]
theorem max_nn {t : Tk} (o : Ok t) (L : Nat) : 0 ≤ maxL (row t L) := by
  obtain ⟨i, hi, e⟩ := row_max_at o L
  rw [e]; exact val_nn o L i
theorem f_feX {a b : Str} {t u : Tk} {h : Nat} (o : Ok t) (o2 : Ok u) (hn : h ≤ 500) :
    (Fn_first_excess [dT a t, dT b u, .int h] = .ok .non ∧ ∀ L, L ≤ h → maxL (row t L) ≤ maxL (row u L)) ∨ ∃ L : Nat, 1 ≤ L ∧ L ≤ h ∧ Fn_first_excess [dT a t, dT b u, .int h] = .ok (.int L) ∧ maxL (row u L) < maxL (row t L) := by
  obtain ⟨V, d1, hVl, gV⟩ := dem_of (nm := a) o hn
  obtain ⟨U, d2, hUl, gU⟩ := dem_of (nm := b) o2 hn
  have key := forS_ind (g := gT [4, 5]) (body := sIf (tV (e2 opGt (eN 5) (e2 opIx (eN 3) (eN 4)))) (sRet (eN 4)) sNil) (fun q => ∃ L : Nat, L ≤ h ∧ q = .rt (.int L) ∧ maxL (row u L) < maxL (row t L)) (prs 0 (V.map D.int))
    (fun i ρ => (∀ L, L < i → L ≤ h → maxL (row t L) ≤ maxL (row u L)) ∧ ∃ x y, ρ = [.val (dT a t), .val (dT b u), .val (.int h), .val (dI U), x, y])
    [.val (dT a t), .val (dT b u), .val (.int h), .val (dI U), .un, .un] ⟨fun L hL => absurd hL (Nat.not_lt_zero _), _, _, rfl⟩ (fun i d ρ e hi => by
      obtain ⟨hle, x, y, rfl⟩ := hi
      obtain ⟨v, e1, rfl⟩ := prs_map _ _ _ _ e
      rw [List.getElem?_map] at e1
      obtain ⟨z, ez, rfl⟩ := Option.map_eq_some_iff.mp e1
      have hl : i ≤ h := by
        have := (List.getElem?_eq_some_iff.mp ez).1
        omega
      rw [gV i hl] at ez
      cases ez
      have e2 : opIx (dI U) (.int (0 + i : Nat)) = some (.int (maxL (row u i))) := ix_I (n := i) (by omega) (gU i hl)
      refine ⟨[.val (dT a t), .val (dT b u), .val (.int h), .val (dI U), .val (.int (0 + i : Nat)), .val (.int (maxL (row t i)))], rfl, ?_⟩
      by_cases hc : maxL (row u i) < maxL (row t i)
      · right
        refine ⟨.rt (.int (0 + i : Nat)), ?_, trivial, 0 + i, by omega, rfl, by rw [Nat.zero_add]; exact hc⟩
        generalize ((0 + i : Nat) : Int) = N at e2 ⊢
        simp -implicitDefEqProofs [e2, hc]
      · left
        refine ⟨[.val (dT a t), .val (dT b u), .val (.int h), .val (dI U), .val (.int (0 + i : Nat)), .val (.int (maxL (row t i)))], .inl ?_, fun L hL hh => ?_, _, _, rfl⟩
        · generalize ((0 + i : Nat) : Int) = N at e2 ⊢
          simp -implicitDefEqProofs [e2, hc]
        · by_cases q : L = i
          · subst q; omega
          · exact hle L (by omega) hh)
  rcases key with ⟨ρ', e, h1, _⟩ | ⟨L, hL, e, hgt⟩
  · left
    refine ⟨runFn_eq rfl ?_, fun L hL => h1 L ?_ hL⟩
    · simp -implicitDefEqProofs [ini, body_first_excess, d1, d2, e]
    · rw [prs_len, List.length_map]; omega
  · right
    refine ⟨L, ?_, hL, runFn_eq rfl ?_, hgt⟩
    · by_cases h0 : L = 0
      · subst h0; rw [max0 o, max0 o2] at hgt; omega
      · omega
    · simp -implicitDefEqProofs [ini, body_first_excess, d1, d2, e]
/-- what may_stand answers -/
theorem f_may {a b : Str} {t u : Tk} {h : Nat} (o : Ok t) (o2 : Ok u) (hn : h ≤ 500) :
    (∃ (L : Nat) (B : List Int), 1 ≤ L ∧ L ≤ h ∧ maxL (row u L) < maxL (row t L) ∧ Spl (fun n => maxL (row u n)) B L ∧ Fn_may_stand [dT a t, dT b u, .int h] = .ok (dPart L (max 1 (gI B L)) (ptab u B L))) ∨
    (∃ fs, Fn_may_stand [dT a t, dT b u, .int h] = .exc 2 fs) ∨ Fn_may_stand [dT a t, dT b u, .int h] = .ok .non := by
  rcases f_feX (a := a) (b := b) o o2 hn with ⟨fe, hle⟩ | ⟨L, hL1, hL, fe, hgt⟩
  · rcases f_sis (a := a) (b := b) o o2 hn fe with s | ⟨s, es, kept, hk, S⟩
    · right; left
      refine ⟨[("horizon", .int h)], runFn_eq rfl ?_⟩
      generalize dT a t = TA at *
      generalize dT b u = TB at *
      simp -implicitDefEqProofs [ini, body_may_stand, fe, s]
    · right; right
      refine runFn_eq rfl ?_
      generalize dT a t = TA at *
      generalize dT b u = TB at *
      simp -implicitDefEqProofs [ini, body_may_stand, fe, es]
  · left
    obtain ⟨B, hS, hp⟩ := f_partat (nm := b) o2 hL1 (show L ≤ 500 by omega)
    refine ⟨L, B, hL1, hL, hgt, hS, runFn_eq rfl ?_⟩
    generalize dT a t = TA at *
    generalize dT b u = TB at *
    generalize dPart L (max 1 (gI B L)) (ptab u B L) = PP at *
    simp -implicitDefEqProofs [ini, body_may_stand, fe, hp]
end G90

namespace G90
open PySem PySem.Spec PyProof.Rows L2 Pu
/-! ### the law's numbers -/
def Small (l : List Int) : Prop := ∀ x ∈ l, 0 ≤ x ∧ x < 1009
theorem f_lrow (c : Int) {m : Nat} (hm : m ≤ 200) : ∃ l : List Int, Fn_law_row [.int c, .int m] = .ok (dI l) ∧ l.length = m ∧ Small l := by
  have hp : opPow (.int 10) (.int 18) = some (.int (10 ^ 18)) := rfl
  obtain ⟨ρ', e, l, x, y, z, rfl, hl, hs⟩ := forS_thru (g := gN 4) (body := sIf (tV (e2 opGe (eF fAbs (aC (eN 0) aN)) (e2 opPow (eC (.int 10)) (eC (.int 18))))) (sSeq (sApp 2 (e2 opMod (eF fInt (aC (eN 3) aN)) (eC (.int 1009))))
    (sSet 3 (e2 opDiv (eN 3) (eC (.int 1009))))) (sSeq (sSet 5 (e2 opMod (eF fInt (aC (e2 opAdd (e2 opMul (eN 3) (eC (.int 48271))) (e2 opMul (e2 opAdd (eN 4) (eC (.int 1))) (eC (.int 69621)))) aN)) (eC (.int 2147483647))))
    (sSeq (sSet 5 (e2 opMod (eF fInt (aC (e2 opAdd (e2 opMul (eN 5) (eC (.int 16807))) (e2 opMul (eC (.int 271)) (e2 opAdd (eN 4) (eC (.int 3))))) aN)) (eC (.int 2147483629))))
    (sApp 2 (e2 opMod (eF fInt (aC (eN 5) aN)) (eC (.int 1009)))))))
    (rgD 0 (m : Int)) (fun i ρ => ∃ (l : List Int) (r : Int) (y z : Pu.Slot), ρ = [.val (.int c), .val (.int m), .own (l.map D.int), .val (.int r), y, z] ∧ l.length = i ∧ Small l)
    [.val (.int c), .val (.int m), .own [], .val (.int (if c < 0 then -c else c)), .un, .un] ⟨[], _, _, _, rfl, rfl, fun x h => (by cases h)⟩ (fun i d ρ e hi => by
      obtain ⟨l, r, y, z, rfl, hl, hs⟩ := hi
      obtain ⟨rfl, hil⟩ := rg0_some e
      have hsz : (l.map D.int).length < sizeLine := by rw [List.length_map]; exact small1000 (by omega)
      have snoc : ∀ v : Int, (l ++ [v % 1009]).length = i + 1 ∧ Small (l ++ [v % 1009]) := fun v => by
        refine ⟨by rw [List.length_append, hl]; rfl, fun x hx => ?_⟩
        rcases List.mem_append.mp hx with hx | hx
        · exact hs x hx
        · rw [List.mem_singleton.mp hx]; omega
      have hab : fAbs [.int c] = some (.int (if c < 0 then -c else c)) := rfl
      by_cases hb : (10 : Int) ^ 18 ≤ (if c < 0 then -c else c)
      · refine ⟨_, [.val (.int c), .val (.int m), .own ((l ++ [r % 1009]).map D.int), .val (.int (r / 1009)), .val (.int i), z], rfl, .inl ?_, _, _, _, _, rfl, (snoc r).1, (snoc r).2⟩
        rw [List.map_append]
        generalize l.map D.int = ll at *
        generalize (if c < 0 then -c else c) = ab at *
        generalize hbig : (10 : Int) ^ 18 = big at *
        simp -implicitDefEqProofs [-fAbs_int, hab, hp, hb, hsz, opMod_of _ _ (show (0 : Int) < 1009 by omega), opDiv_of _ _ (show (0 : Int) < 1009 by omega) (by omega)]
      · refine ⟨_, [.val (.int c), .val (.int m), .own ((l ++ [((((r * 48271 + ((i : Int) + 1) * 69621) % 2147483647) * 16807 + 271 * ((i : Int) + 3)) % 2147483629) % 1009]).map D.int), .val (.int r), .val (.int i), .val (.int ((((r * 48271 + ((i : Int) + 1) * 69621) % 2147483647) * 16807 + 271 * ((i : Int) + 3)) % 2147483629))], rfl, .inl ?_, _, _, _, _, rfl, (snoc _).1, (snoc _).2⟩
        rw [List.map_append]
        have m1 := opMul_of r 48271 (by omega)
        have m2 := opMul_of ((i : Int) + 1) 69621 (by omega)
        have m3 := opMul_of ((r * 48271 + ((i : Int) + 1) * 69621) % 2147483647) 16807 (by omega)
        have m4 := opMul_of' 271 ((i : Int) + 3) (by omega)
        have d1 := fun z : Int => opMod_of z 2147483647 (by omega)
        have d2 := fun z : Int => opMod_of z 2147483629 (by omega)
        have d3 := fun z : Int => opMod_of z 1009 (by omega)
        generalize l.map D.int = ll at *
        generalize (if c < 0 then -c else c) = ab at *
        generalize hbig : (10 : Int) ^ 18 = big at *
        simp -implicitDefEqProofs [-fAbs_int, hab, hp, hb, hsz, m1, m2, m3, m4, d1, d2, d3])
  rw [rgD_length] at hl
  refine ⟨l, runFn_eq rfl ?_, by omega, hs⟩
  have hr := asR1_of (m : Int) (by omega) (by omega)
  have hab : fAbs [.int c] = some (.int (if c < 0 then -c else c)) := rfl
  generalize (if c < 0 then -c else c) = ab at *
  generalize rgD 0 (m : Int) = RG at *
  show _ = Res.ok (D.lst (l.map D.int))
  generalize l.map D.int = ll at *
  simp -implicitDefEqProofs [ini, body_law_row, -fAbs_int, hab, hr, e]
end G90

namespace G90
open PySem PySem.Spec PyProof.Rows L2 Pu
theorem cutD_ints (l : List Int) (lo hi : Option Int) : ∃ l' : List Int, Pu.cutD (l.map D.int) lo hi = l'.map D.int ∧ (∀ x ∈ l', x ∈ l) := by
  refine ⟨(l.drop (HT.sIx l.length 0 lo)).take (HT.sIx l.length l.length hi - HT.sIx l.length 0 lo), ?_, fun x hx => List.mem_of_mem_drop (List.mem_of_mem_take hx)⟩
  unfold Pu.cutD
  rw [List.length_map, ← List.map_drop, ← List.map_take]
theorem cutD_head (l : List Int) (n : Nat) : Pu.cutD (l.map D.int) none (some (n : Int)) = (l.take n).map D.int := by
  unfold Pu.cutD
  rw [List.length_map, HT.sIx_none, HT.sIx_nat, List.drop_zero, Nat.sub_zero, ← List.map_take]
  by_cases h : n ≤ l.length
  · rw [Nat.min_eq_left h]
  · rw [Nat.min_eq_right (by omega), List.take_of_length_le (Nat.le_refl _), List.take_of_length_le (by omega)]
theorem f_lnums {ns : List Int} (hn : ns.length ≤ 63) : ∃ l : List Int, Fn_law_numbers [.scr ns, .int 72] = .ok (dI l) ∧ l.length = 72 ∧ Small l := by
  have hzs : ns.length ≤ sizeLine := Nat.le_of_lt (small1000 (by omega))
  have hcut : Pu.cutD (ns.map D.int) none (some 63) = (ns.take 63).map D.int := cutD_head ns 63
  obtain ⟨cs, hcs, hcl⟩ : ∃ cs, cs = ns.take 63 ∧ cs.length ≤ 63 := ⟨_, rfl, by rw [List.length_take]; omega⟩
  rw [← hcs] at hcut
  clear hcs
  obtain ⟨each, he1, he2, he3⟩ : ∃ each : Nat, (1 : Int) + 72 / max 1 (cs.length : Int) = each ∧ each ≤ 74 ∧ True := by
    have h1 : 0 ≤ (72 : Int) / max 1 (cs.length : Int) := Int.ediv_nonneg (by omega) (by omega)
    have h2 : (72 : Int) / max 1 (cs.length : Int) ≤ 72 := Int.ediv_le_self _ (by omega)
    exact ⟨(1 + (72 : Int) / max 1 (cs.length : Int)).toNat, by omega, by omega, trivial⟩
  have inner : ∀ (l r : List Int) (c : Int) (x : Pu.Slot), Small l → Small r → l.length ≤ 63 * 200 → r.length ≤ 200 → ∃ x', forS (gN 6) (sApp 4 (eN 6)) (r.map D.int) [.val (.scr ns), .val (.int 72), .val (dI cs), .val (.int each), .own (l.map D.int), .val (.int c), x] = .nx [.val (.scr ns), .val (.int 72), .val (dI cs), .val (.int each), .own ((l ++ r).map D.int), .val (.int c), x'] := by
    intro l r c x h1 h2 h3 h4
    obtain ⟨ρ', e, x', rfl⟩ := forS_thru (g := gN 6) (body := sApp 4 (eN 6)) (r.map D.int) (fun i ρ => ∃ x, ρ = [.val (.scr ns), .val (.int 72), .val (dI cs), .val (.int each), .own ((l ++ r.take i).map D.int), .val (.int c), x])
      [.val (.scr ns), .val (.int 72), .val (dI cs), .val (.int each), .own (l.map D.int), .val (.int c), x] ⟨_, by rw [List.take_zero, List.append_nil]⟩ (fun i d ρ e hi => by
        obtain ⟨x, rfl⟩ := hi
        rw [List.getElem?_map] at e
        obtain ⟨z, ez, rfl⟩ := Option.map_eq_some_iff.mp e
        have hsz : ((l ++ r.take i).map D.int).length < sizeLine := Nat.lt_of_le_of_lt (show _ ≤ 20000 by rw [List.length_map, List.length_append, List.length_take]; omega) (by decide)
        rw [take_snoc ez, ← List.append_assoc]
        refine ⟨_, [.val (.scr ns), .val (.int 72), .val (dI cs), .val (.int each), .own ((l ++ r.take i ++ [z]).map D.int), .val (.int c), .val (.int z)], rfl, .inl ?_, _, rfl⟩
        rw [List.map_append (l₂ := [z])]
        generalize (l ++ r.take i).map D.int = LL at *
        generalize dI cs = CS
        simp -implicitDefEqProofs [hsz])
    rw [List.length_map, List.take_length] at e
    exact ⟨x', e⟩
  obtain ⟨ρ', e, l, x, y, rfl, hl, hs⟩ := forS_thru (g := gN 5) (body := sFor (iS (eCall Fn_law_row (aC (eN 5) (aC (eN 3) aN)))) (gN 6) (sApp 4 (eN 6))) (cs.map D.int)
    (fun i ρ => ∃ (l : List Int) (x y : Pu.Slot), ρ = [.val (.scr ns), .val (.int 72), .val (dI cs), .val (.int each), .own (l.map D.int), x, y] ∧ l.length = i * each ∧ Small l)
    [.val (.scr ns), .val (.int 72), .val (dI cs), .val (.int each), .own [], .un, .un] ⟨[], _, _, rfl, by simp, fun x h => (by cases h)⟩ (fun i d ρ e hi => by
      obtain ⟨l, x, y, rfl, hl, hs⟩ := hi
      rw [List.getElem?_map] at e
      obtain ⟨z, ez, rfl⟩ := Option.map_eq_some_iff.mp e
      have hi63 : i < 63 := by have := (List.getElem?_eq_some_iff.mp ez).1; omega
      obtain ⟨r, e1, r1, r2⟩ := f_lrow z (m := each) (by omega)
      have hle : i * each ≤ 63 * 200 := Nat.mul_le_mul (by omega) (by omega)
      obtain ⟨x', e2⟩ := inner l r z y hs r2 (by omega) (by omega)
      refine ⟨_, [.val (.scr ns), .val (.int 72), .val (dI cs), .val (.int each), .own ((l ++ r).map D.int), .val (.int z), x'], rfl, .inl ?_, _, _, _, rfl, by rw [List.length_append, hl, r1, Nat.add_mul, Nat.one_mul], fun x hx => ?_⟩
      · generalize (l ++ r).map D.int = L2' at *
        generalize l.map D.int = L1' at *
        have hcc : asSeq (dI r) = .ok (r.map D.int) := rfl
        generalize r.map D.int = RR at *
        generalize dI r = R at *
        generalize dI cs = CS at *
        simp -implicitDefEqProofs [e1, hcc, e2]
      · rcases List.mem_append.mp hx with hx | hx
        · exact hs x hx
        · exact r2 x hx)
  rw [List.length_map] at hl
  -- noughts behind
  have wh : ∀ (k : Nat) (l : List Int), Small l → l.length ≤ 63 * 200 → 72 ≤ l.length + k → ∃ l', whileS (tV (e2 opLt (eF fLen (aC (eB 4) aN)) (eN 1))) (sApp 4 (eC (.int 0))) (k + 1) [.val (.scr ns), .val (.int 72), .val (dI cs), .val (.int each), .own (l.map D.int), x, y] = .nx [.val (.scr ns), .val (.int 72), .val (dI cs), .val (.int each), .own (l'.map D.int), x, y] ∧ 72 ≤ l'.length ∧ l'.length ≤ 63 * 200 + 72 ∧ Small l' := by
    intro k
    induction k with
    | zero =>
      intro l h1 h2 h3
      refine ⟨l, ?_, by omega, by omega, h1⟩
      have hlt : ¬ ((l.map D.int).length : Int) < 72 := by rw [List.length_map]; omega
      generalize l.map D.int = LL at *
      generalize dI cs = CS
      unfold whileS
      simp -implicitDefEqProofs [hlt]
    | succ k ih =>
      intro l h1 h2 h3
      by_cases hc : l.length < 72
      · obtain ⟨l', g1, g2, g3, g4⟩ := ih (l ++ [0]) (fun x hx => by
          rcases List.mem_append.mp hx with hx | hx
          · exact h1 x hx
          · rw [List.mem_singleton.mp hx]; omega) (by rw [List.length_append]; simp; omega) (by rw [List.length_append]; simp; omega)
        refine ⟨l', ?_, g2, g3, g4⟩
        have hlt : ((l.map D.int).length : Int) < 72 := by rw [List.length_map]; omega
        have hsz : (l.map D.int).length < sizeLine := by rw [List.length_map]; exact small1000 (by omega)
        rw [List.map_append] at g1
        have g1' : whileS (tV (e2 opLt (eF fLen (aC (eB 4) aN)) (eN 1))) (sApp 4 (eC (.int 0))) (k + 1) [.val (.scr ns), .val (.int 72), .val (dI cs), .val (.int each), .own (l.map D.int ++ [.int 0]), x, y] = _ := g1
        generalize l'.map D.int = LL' at *
        generalize l.map D.int = LL at *
        generalize dI cs = CS at *
        rw [whileS]
        simp -implicitDefEqProofs [hlt, hsz, g1']
      · refine ⟨l, ?_, by omega, by omega, h1⟩
        have hlt : ¬ ((l.map D.int).length : Int) < 72 := by rw [List.length_map]; omega
        generalize l.map D.int = LL at *
        generalize dI cs = CS
        rw [whileS]
        simp -implicitDefEqProofs [hlt]
  have hlb : l.length ≤ 63 * 200 := by rw [hl]; exact Nat.mul_le_mul hcl (by omega)
  obtain ⟨l', w1, w2, w3, w4⟩ := wh 199 l hs hlb (by omega)
  refine ⟨l'.take 72, runFn_eq rfl ?_, by rw [List.length_take]; omega, fun x hx => w4 x (List.mem_of_mem_take hx)⟩
  have hc2 := cutD_head l' 72
  have hz2 : (l'.map D.int).length ≤ sizeLine := Nat.le_of_lt (Nat.lt_of_le_of_lt (show _ ≤ 20000 by rw [List.length_map]; omega) (by decide))
  have hmx : opDiv (.int 72) (.int (max 1 (cs.length : Int))) = some (.int (72 / max 1 (cs.length : Int))) := opDiv_of _ _ (by omega) (by omega)
  have hln : fLen [dI cs] = some (.int (cs.length : Int)) := by simp
  have hdc : (D.lst (cs.map D.int)) = dI cs := rfl
  have hcc : asSeq (dI cs) = .ok (cs.map D.int) := rfl
  show _ = Res.ok (D.lst ((l'.take 72).map D.int))
  generalize (l'.take 72).map D.int = LT at *
  generalize l'.map D.int = LL' at *
  generalize l.map D.int = LL at *
  generalize (cs.length : Int) = Z at *
  generalize hM : max 1 Z = M at *
  generalize hE : (1 : Int) + 72 / M = EE at *
  generalize cs.map D.int = CM at *
  generalize dI cs = CS at *
  subst he1
  have hc2' : Pu.cutD LL' none (some 72) = LT := hc2
  simp -implicitDefEqProofs [ini, body_law_numbers, hzs, hcut, hdc, hln, hM, hmx, hE, hcc, e, w1, hc2', hz2]
end G90

namespace G90
open PySem PySem.Spec PyProof.Rows L2 Pu
def mk (l : List Nat) : Str := ⟨l.toArray⟩
/-- the signs that a name may have -/
def Cl : List Nat := (("abcdefghijklmnopqrstuvwxyz0123456789" : Str)).cps.toList
theorem Cl_len : Cl.length = 36 := by decide +kernel
def kq : List Nat := (("kq3zx9" : Str)).cps.toList
theorem kq_len : kq.length = 6 := by decide +kernel
theorem kq_nd : kq.Nodup := by decide +kernel
theorem kq_Cl : ∀ c ∈ kq, c ∈ Cl := by decide +kernel
theorem ix_str {l : List Nat} {z : Str} {i : Int} {n : Nat} {c : Nat} (hz : z.cps.toList = l) (hl : l.length ≤ 100) (hi : i = n) (hc : l[n]? = some c) : opIx (.str z) (.int i) = some (.str ⟨#[c]⟩) := by
  have hn : n < l.length := (List.getElem?_eq_some_iff.mp hc).1
  have hzl : z.length ≤ sizeLine := by
    rw [show z.length = l.length by rw [← hz]; simp [Str.length]]
    exact Nat.le_of_lt (small1000 (by omega))
  subst hi
  show (if z.length ≤ sizeLine then (atI z.cps.toList (n : Int)).map fun c => D.str ⟨#[c]⟩ else none) = _
  rw [if_pos hzl, hz, atI_nat hn, hc]; rfl
theorem joinL_one : ∀ ls : List Nat, TL.joinL [] (ls.map fun c => [c]) = ls
  | [] => rfl
  | [_] => rfl
  | a :: b :: r => by
    show [a] ++ ([] ++ TL.joinL [] ((b :: r).map fun c => [c])) = _
    rw [joinL_one (b :: r)]; rfl
theorem mk_len (l : List Nat) : (mk l).length = l.length := by simp [mk, Str.length]
theorem mk_app (a b : List Nat) : mk a ++ mk b = mk (a ++ b) := by
  apply TL.ext_tl
  rw [TL.tl_append]
  simp [mk, TL.tl]
theorem cut_lo (l : List Nat) {z : Nat} (h : z ≤ l.length) : L2.cutS (mk l) none (some (z : Int)) = mk (l.take z) := by
  unfold L2.cutS
  rw [mk_len, HT.sIx_none, HT.sIx_nat, Nat.min_eq_left h]
  simp [mk]
theorem cut_hi (l : List Nat) {z : Nat} (h : z ≤ l.length) : L2.cutS (mk l) (some (z : Int)) none = mk (l.drop z) := by
  unfold L2.cutS
  rw [mk_len, HT.sIx_none, HT.sIx_nat, Nat.min_eq_left h]
  have : ((mk l).cps.toList.drop z).take (l.length - z) = l.drop z := List.take_of_length_le (by rw [List.length_drop]; exact Nat.le_refl _)
  rw [this]; rfl
theorem sum_ones : ∀ m : Nat, ((List.range m).map fun _ => 1).sum = m
  | 0 => rfl
  | m + 1 => by rw [List.range_succ, List.map_append, List.sum_append, sum_ones m]; rfl
theorem join_mk (l : List Nat) : Txt.join "" (l.map fun c => mk [c]) = mk l := by
  apply TL.ext_tl
  rw [TL.join_eq, TL.tl_join, List.map_map]
  exact joinL_one l
theorem f_lname {l : List Int} (hl : l.length = 73) (hs : Small l) : ∃ A B : List Nat, A.length + B.length ≤ 4 ∧ (∀ c ∈ A, c ∈ Cl) ∧ (∀ c ∈ B, c ∈ Cl) ∧ ∀ (k c : Nat), kq[k]? = some c → Fn_law_name [dI l, .int k] = .ok (.str (mk (A ++ c :: B))) := by
  obtain ⟨s, es⟩ : ∃ s, l[71]? = some s := ⟨_, List.getElem?_eq_getElem (by omega)⟩
  obtain ⟨u, eu⟩ : ∃ u, l[70]? = some u := ⟨_, List.getElem?_eq_getElem (by omega)⟩
  have hs0 := hs s (List.mem_of_getElem? es)
  have hu0 := hs u (List.mem_of_getElem? eu)
  have i1 : opIx (dI l) (.int 71) = some (.int s) := ix_I (n := 71) rfl es
  have i2 : opIx (dI l) (.int 70) = some (.int u) := ix_I (n := 70) rfl eu
  have hln : fLen [dI l] = some (.int 73) := by simp [hl]
  obtain ⟨m, hm, hm4⟩ : ∃ m : Nat, s % 5 = m ∧ m ≤ 4 := ⟨(s % 5).toNat, by omega, by omega⟩
  -- the word
  have hc : ∀ j : Nat, ∃ c : Nat, j ≤ 4 → c ∈ Cl ∧ opIx (.str "abcdefghijklmnopqrstuvwxyz0123456789") (.int ((s / 5 + 7 * (j : Int) + s * (j : Int)) % 36)) = some (.str ⟨#[c]⟩) := fun j => by
    have h1 : 0 ≤ (s / 5 + 7 * (j : Int) + s * (j : Int)) % 36 := Int.emod_nonneg _ (by omega)
    have h2 : (s / 5 + 7 * (j : Int) + s * (j : Int)) % 36 < 36 := Int.emod_lt_of_pos _ (by omega)
    have hlt : ((s / 5 + 7 * (j : Int) + s * (j : Int)) % 36).toNat < Cl.length := by rw [Cl_len]; omega
    exact ⟨Cl[((s / 5 + 7 * (j : Int) + s * (j : Int)) % 36).toNat], fun _ => ⟨List.getElem_mem hlt, ix_str (l := Cl) rfl (by rw [Cl_len]; omega) (by omega) (List.getElem?_eq_getElem hlt)⟩⟩
  obtain ⟨ch, hch⟩ := Classical.axiomOfChoice hc
  have hrg : rgD 0 (m : Int) = (List.range m).map fun j : Nat => D.int (j : Int) := by
    unfold rgD
    have : ((m : Int) - 0).toNat = m := by omega
    rw [this]
    apply List.map_congr_left
    intro a _
    rw [Int.zero_add]
  have key : ∀ kk : D, lcGo (gN 6) tYes' (e2 opIx (eN 2) (e2 opMod (eF fInt (aC (e2 opAdd (e2 opAdd (e2 opDiv (eN 3) (eC (.int 5))) (e2 opMul (eC (.int 7)) (eN 6))) (e2 opMul (eN 3) (eN 6))) aN)) (eC (.int 36))))
      [.val (dI l), .val kk, .val (.str "abcdefghijklmnopqrstuvwxyz0123456789"), .val (.int s), .un, .un, .un] (rgD 0 (m : Int)) = .ok (((List.range m).map fun j => mk [ch j]).map D.str) := fun kk => by
    rw [hrg, lcGo_map (δ := fun j : Nat => D.int (j : Int)) (fun j => .str (mk [ch j])) (List.range m) (fun j hj => ?_), List.map_map]
    · rfl
    · have hj4 : j ≤ 4 := by have := List.mem_range.mp hj; omega
      have h1 := (hch j hj4).2
      have d1 := opDiv_of s 5 (by omega) (by omega)
      have d2 := opMul_of 7 (j : Int) (by omega)
      have d3 := opMul_of s (j : Int) (by omega)
      have d4 := opMod_of (s / 5 + 7 * (j : Int) + s * (j : Int)) 36 (by omega)
      refine ⟨_, rfl, ?_⟩
      generalize dI l = LL
      generalize (Str.ofString "abcdefghijklmnopqrstuvwxyz0123456789") = CC at h1 ⊢
      simp -implicitDefEqProofs [d1, d2, d3, d4, h1, mk]
  have hjoin : eJoin (eC (.str "")) (eL (lLc (iR1 (aC (e2 opMod (eF fInt (aC (eN 3) aN)) (eC (.int 5))) aN)) (gN 6) [6] tYes' (e2 opIx (eN 2) (e2 opMod (eF fInt (aC (e2 opAdd (e2 opAdd (e2 opDiv (eN 3) (eC (.int 5))) (e2 opMul (eC (.int 7)) (eN 6))) (e2 opMul (eN 3) (eN 6))) aN)) (eC (.int 36)))))) = eJoin (eC (.str "")) (eL (lLc (iR1 (aC (e2 opMod (eF fInt (aC (eN 3) aN)) (eC (.int 5))) aN)) (gN 6) [6] tYes' (e2 opIx (eN 2) (e2 opMod (eF fInt (aC (e2 opAdd (e2 opAdd (e2 opDiv (eN 3) (eC (.int 5))) (e2 opMul (eC (.int 7)) (eN 6))) (e2 opMul (eN 3) (eN 6))) aN)) (eC (.int 36)))))) := rfl
  have hfj : fJoin (.str "") [.lst (((List.range m).map fun j => mk [ch j]).map D.str)] = some (.str (mk ((List.range m).map ch))) := by
    have h1 : Pu.strs? (((List.range m).map fun j => mk [ch j]).map D.str) = some ((List.range m).map fun j => mk [ch j]) := strs?_map _
    have h2 : (((List.range m).map fun j => mk [ch j]).map (·.length)).sum + ((List.range m).map fun j => mk [ch j]).length * (("" : Str)).length ≤ 16777216 := by
      have e0 : (("" : Str)).length = 0 := by decide +kernel
      rw [e0, Nat.mul_zero, Nat.add_zero, List.map_map]
      have : ((List.range m).map ((fun x : Str => x.length) ∘ fun j => mk [ch j])) = (List.range m).map fun _ => 1 := by
        apply List.map_congr_left
        intro a _
        show (mk [ch a]).length = 1
        rw [mk_len]; rfl
      rw [this]
      rw [sum_ones]; omega
    show ((Pu.strs? _).bind fun ys => if (ys.map (·.length)).sum + ys.length * (("" : Str)).length ≤ 16777216 then some (D.str (Txt.join "" ys)) else none) = _
    rw [h1]
    show (if _ ≤ _ then _ else _) = _
    rw [if_pos h2]
    have h3 := join_mk ((List.range m).map ch)
    rw [List.map_map] at h3
    exact congrArg (fun z => some (D.str z)) h3
  obtain ⟨wd, hwd⟩ : ∃ wd, wd = (List.range m).map ch := ⟨_, rfl⟩
  have hwl : wd.length = m := by rw [hwd, List.length_map, List.length_range]
  have hwc : ∀ c ∈ wd, c ∈ Cl := fun c hc => by
    rw [hwd] at hc
    obtain ⟨j, hj, rfl⟩ := List.mem_map.mp hc
    exact (hch j (by have := List.mem_range.mp hj; omega)).1
  obtain ⟨z, hz, hzl⟩ : ∃ z : Nat, u % ((m : Int) + 1) = z ∧ z ≤ m := by
    have h1 : 0 ≤ u % ((m : Int) + 1) := Int.emod_nonneg _ (by omega)
    have h2 : u % ((m : Int) + 1) < (m : Int) + 1 := Int.emod_lt_of_pos _ (by omega)
    exact ⟨(u % ((m : Int) + 1)).toNat, by omega, by omega⟩
  refine ⟨wd.take z, wd.drop z, by rw [List.length_take, List.length_drop]; omega, fun c hc => hwc c (List.mem_of_mem_take hc), fun c hc => hwc c (List.mem_of_mem_drop hc), fun k c hkc => ?_⟩
  have hk6 : k < 6 := by have := (List.getElem?_eq_some_iff.mp hkc).1; rw [kq_len] at this; exact this
  have i3 : opIx (.str "kq3zx9") (.int (k : Int)) = some (.str (mk [c])) := ix_str (l := kq) rfl (by rw [kq_len]; omega) rfl hkc
  rw [← hwd] at hfj
  have w1 : fLen [.str (mk wd)] = some (.int (m : Int)) := by
    show (if (mk wd).length ≤ sizeLine then some (D.int ((mk wd).length : Int)) else none) = _
    rw [mk_len, hwl, if_pos (Nat.le_of_lt (small1000 (by omega)))]
  have wz : (mk wd).length ≤ sizeLine := by rw [mk_len]; exact Nat.le_of_lt (small1000 (by omega))
  have c1 := cut_lo wd (z := z) (by omega)
  have c2 := cut_hi wd (z := z) (by omega)
  have a1 : opAdd (.str (mk (wd.take z))) (.str (mk [c])) = some (.str (mk (wd.take z ++ [c]))) := by
    show (if _ ≤ _ then _ else _) = _
    rw [if_pos (by rw [mk_len, mk_len, List.length_take]; exact Nat.le_of_lt (small1000 (by simp; omega))), mk_app]
  have a2 : opAdd (.str (mk (wd.take z ++ [c]))) (.str (mk (wd.drop z))) = some (.str (mk (wd.take z ++ c :: wd.drop z))) := by
    show (if _ ≤ _ then _ else _) = _
    rw [if_pos (by rw [mk_len, mk_len, List.length_append, List.length_take, List.length_drop]; exact Nat.le_of_lt (small1000 (by simp; omega))), mk_app, List.append_assoc]; rfl
  have hr := asR1_of (m : Int) (by omega) (by omega)
  have hzr : (rgD 0 (m : Int)).length ≤ sizeLine := by rw [rgD_length]; exact Nat.le_of_lt (small1000 (by omega))
  have key' := key (.int k)
  have sl : ∀ (a : Ev) (lo hi : Ov) (ρ : PEnv) (x : Str) (p q : Option Int), a ρ = .ok (.str x) → lo ρ = .ok p → hi ρ = .ok q → x.length ≤ sizeLine → eSlS a lo hi ρ = .ok (.str (L2.cutS x p q)) := fun a lo hi ρ x p q h1 h2 h3 h4 => by
    unfold eSlS
    rw [h1, h2, h3]
    show (if x.length ≤ sizeLine then _ else _) = _
    rw [if_pos h4]
  refine runFn_eq rfl ?_
  show (body_law_name [.val (dI l), .val (.int k), .un, .un, .un, .un, .un]).res = _
  have d5 := opMod_of s 5 (by omega)
  have dm := opMod_of u ((m : Int) + 1) (by omega)
  have s1 := sl (eN 4) oN (oS (eN 5)) [.val (dI l), .val (.int k), .val (.str "abcdefghijklmnopqrstuvwxyz0123456789"), .val (.int s), .val (.str (mk wd)), .val (.int z), .un] (mk wd) none (some (z : Int)) rfl rfl rfl wz
  have s2 := sl (eN 4) (oS (eN 5)) oN [.val (dI l), .val (.int k), .val (.str "abcdefghijklmnopqrstuvwxyz0123456789"), .val (.int s), .val (.str (mk wd)), .val (.int z), .un] (mk wd) (some (z : Int)) none rfl rfl rfl wz
  rw [c1] at s1
  rw [c2] at s2
  have ej : ∀ (b : Ev) (ρ : PEnv) (x : D), b ρ = .ok x → eJoin (eC (.str "")) b ρ = Res.of (fJoin (.str "") [x]) := fun b ρ x h => by
    unfold eJoin
    rw [eC_ap, h]; rfl
  have e3 := ej (eL (lLc (iR1 (aC (e2 opMod (eF fInt (aC (eN 3) aN)) (eC (.int 5))) aN)) (gN 6) [6] tYes' (e2 opIx (eN 2) (e2 opMod (eF fInt (aC (e2 opAdd (e2 opAdd (e2 opDiv (eN 3) (eC (.int 5))) (e2 opMul (eC (.int 7)) (eN 6))) (e2 opMul (eN 3) (eN 6))) aN)) (eC (.int 36))))))
    [.val (dI l), .val (.int k), .val (.str "abcdefghijklmnopqrstuvwxyz0123456789"), .val (.int s), .un, .un, .un] (.lst (((List.range m).map fun j => mk [ch j]).map D.str)) (by
      generalize ((List.range m).map fun j => mk [ch j]).map D.str = WW at *
      generalize (Str.ofString "abcdefghijklmnopqrstuvwxyz0123456789") = CC at *
      generalize dI l = LL at *
      generalize rgD 0 (m : Int) = RG at *
      simp -implicitDefEqProofs [d5, hm, hr, hzr, key'])
  rw [hfj] at e3
  clear key key' hch hc hjoin sl ej
  unfold body_law_name
  generalize mk (wd.take z ++ c :: wd.drop z) = R4 at *
  generalize mk (wd.take z ++ [c]) = R3 at *
  generalize mk (wd.take z) = R1 at *
  generalize mk (wd.drop z) = R2 at *
  generalize mk wd = R0 at *
  generalize mk [c] = R5 at *
  generalize (Str.ofString "abcdefghijklmnopqrstuvwxyz0123456789") = CC at *
  generalize (Str.ofString "kq3zx9") = KQ at *
  generalize dI l = LL at *
  simp -implicitDefEqProofs [hln, i1, i2, e3, w1, dm, hz, s1, s2, i3, a1, a2]
end G90

namespace G90
open PySem PySem.Spec PyProof.Rows L2 Pu
theorem p_ok {l : List Int} (hl : l.length = 73) {a : Int} {n : Int} (ha : 0 ≤ a ∧ a < 73) (hn : 0 < n) : ∃ v : Int, Fn_law_pick [dI l, .int a, .int n] = .ok (.int v) ∧ 0 ≤ v ∧ v < n := by
  have hk : a.toNat < l.length := by omega
  exact ⟨_, f_pick (k := a.toNat) (by omega) (List.getElem?_eq_getElem hk) hn, Int.emod_nonneg _ (by omega), Int.emod_lt_of_pos _ hn⟩
theorem f_scale {l : List Int} (hl : l.length = 73) (hs : Small l) : ∃ s : Int, Fn_law_scale [dI l] = .ok (.int s) ∧ 1 ≤ s ∧ s ≤ 249 := by
  obtain ⟨u, eu⟩ : ∃ u, l[72]? = some u := ⟨_, List.getElem?_eq_getElem (by omega)⟩
  have hu0 := hs u (List.mem_of_getElem? eu)
  have i1 : opIx (dI l) (.int 72) = some (.int u) := ix_I (n := 72) rfl eu
  have hln : fLen [dI l] = some (.int 73) := by simp [hl]
  have d1 := opDiv_of u 3 (by omega) (by omega)
  have d2 := opMod_of (u / 3) 249 (by omega)
  have d3 := opMod_of u 3 (by omega)
  have main : ∃ s : Int, opIx (.lst [.int 1, .int 1, .int (1 + u / 3 % 249)]) (.int (u % 3)) = some (.int s) ∧ 1 ≤ s ∧ s ≤ 249 := by
    have h3 : u % 3 = 0 ∨ u % 3 = 1 ∨ u % 3 = 2 := by omega
    rcases h3 with h | h | h
    · exact ⟨1, ix_lst' (n := 0) (by omega) rfl, by omega, by omega⟩
    · exact ⟨1, ix_lst' (n := 1) (by omega) rfl, by omega, by omega⟩
    · exact ⟨1 + u / 3 % 249, ix_lst' (n := 2) (by omega) rfl, by omega, by omega⟩
  obtain ⟨s, e, h1, h2⟩ := main
  refine ⟨s, runFn_eq rfl ?_, h1, h2⟩
  generalize dI l = LL at *
  simp -implicitDefEqProofs [ini, body_law_scale, hln, i1, d1, d2, d3, e]
/-- a kind of the law's -/
structure KindOk (k : Str × Int × Int) : Prop where
  nm : ∃ L : List Nat, k.1 = mk L ∧ 1 ≤ L.length ∧ L.length ≤ 12 ∧ ∀ c ∈ L, c ∈ Cl
  c : 1 ≤ k.2.1 ∧ k.2.1 ≤ 996
  d : 1 ≤ k.2.2 ∧ k.2.2 ≤ 9
def nmk (A B : List Nat) (k : Nat) : Str := mk (A ++ (kq[k]?.getD 0) :: B)
theorem nmk_inj {A B : List Nat} {i j : Nat} (hi : i < 6) (hj : j < 6) (h : nmk A B i = nmk A B j) : i = j := by
  have e : A ++ (kq[i]?.getD 0) :: B = A ++ (kq[j]?.getD 0) :: B := by
    have := congrArg (fun s : Str => s.cps.toList) h
    exact this
  have e2 := (List.cons.inj (List.append_cancel_left e)).1
  have hi' : i < kq.length := by rw [kq_len]; exact hi
  have hj' : j < kq.length := by rw [kq_len]; exact hj
  refine (List.getElem?_inj hi' kq_nd).mp ?_
  rw [List.getElem?_eq_getElem hi', List.getElem?_eq_getElem hj'] at e2 ⊢
  exact congrArg some e2
theorem f_lkinds {l : List Int} {A B : List Nat} (hl : l.length = 73) (hs : Small l) (hAB : A.length + B.length ≤ 4) (hA : ∀ c ∈ A, c ∈ Cl) (hB : ∀ c ∈ B, c ∈ Cl)
    (hnm : ∀ (k c : Nat), kq[k]? = some c → Fn_law_name [dI l, .int k] = .ok (.str (mk (A ++ c :: B)))) {a : Int} (ha : 0 ≤ a ∧ a ≤ 60) :
    ∃ ks : List (Str × Int × Int), Fn_law_kinds [dI l, .int a, .int 3] = .ok (.lst (ks.map dK)) ∧ 1 ≤ ks.length ∧ ks.length ≤ 3 ∧ (ks.map (·.1)).Nodup ∧ ∀ k ∈ ks, KindOk k := by
  obtain ⟨m, e0, m0, m3⟩ := p_ok hl (a := a) (n := 3) (by omega) (by omega)
  obtain ⟨sc, es, s1, s2⟩ := f_scale hl hs
  obtain ⟨ρ', e, ks, x, y, rfl, hkl, hk⟩ := forS_thru (g := gN 4) (body := sSeq (sSet 5 (e2 opMul (eCall Fn_law_scale (aC (eN 0) aN)) (e2 opAdd (eC (.int 1)) (eCall Fn_law_pick (aC (eN 0) (aC (e2 opAdd (e2 opAdd (eN 1) (eC (.int 1))) (e2 opMul (eC (.int 2)) (eN 4))) (aC (eC (.int 4)) aN)))))))
    (sApp 3 (eT (aC (eCall Fn_law_name (aC (eN 0) (aC (eN 4) aN))) (aC (eN 5) (aC (e2 opAdd (eC (.int 1)) (eCall Fn_law_pick (aC (eN 0) (aC (e2 opAdd (e2 opAdd (eN 1) (eC (.int 2))) (e2 opMul (eC (.int 2)) (eN 4))) (aC (eC (.int 9)) aN))))) aN)))))) (rgD 0 (1 + m))
    (fun i ρ => ∃ (ks : List (Str × Int × Int)) (x y : Pu.Slot), ρ = [.val (dI l), .val (.int a), .val (.int 3), .own (ks.map dK), x, y] ∧ ks.length = i ∧ ∀ j k, ks[j]? = some k → k.1 = nmk A B j ∧ KindOk k)
    [.val (dI l), .val (.int a), .val (.int 3), .own [], .un, .un] ⟨[], _, _, rfl, rfl, fun j k h => by simp at h⟩ (fun i d ρ e hi => by
      obtain ⟨ks, x, y, rfl, hkl, hk⟩ := hi
      obtain ⟨rfl, hil⟩ := rg0_some e
      have hi6 : i < kq.length := by rw [kq_len]; omega
      obtain ⟨p, e1, p1, p2⟩ := p_ok hl (a := a + 1 + 2 * (i : Int)) (n := 4) (by omega) (by omega)
      obtain ⟨q, e2, q1, q2⟩ := p_ok hl (a := a + 2 + 2 * (i : Int)) (n := 9) (by omega) (by omega)
      have e3 := hnm i kq[i] (List.getElem?_eq_getElem hi6)
      have hen : nmk A B i = mk (A ++ kq[i] :: B) := by unfold nmk; rw [List.getElem?_eq_getElem hi6]; rfl
      have hsz : (ks.map dK).length < sizeLine := by rw [List.length_map]; exact small1000 (by omega)
      have d1 := opMul_of 2 (i : Int) (by omega)
      have d2 := opMul_of' sc (1 + p) (by omega)
      have b1 : sc * (1 + p) ≤ 249 * 4 := Int.mul_le_mul s2 (by omega) (by omega) (by omega)
      have b2 : 1 * 1 ≤ sc * (1 + p) := Int.mul_le_mul s1 (by omega) (by omega) (by omega)
      refine ⟨_, [.val (dI l), .val (.int a), .val (.int 3), .own ((ks ++ [(nmk A B i, sc * (1 + p), 1 + q)]).map dK), .val (.int i), .val (.int (sc * (1 + p)))], rfl, .inl ?_, _, _, _, rfl, by rw [List.length_append, hkl]; rfl, fun j k hj => ?_⟩
      · rw [List.map_append, hen]
        generalize ks.map dK = KS at *
        generalize mk (A ++ kq[i] :: B) = NM at *
        generalize dI l = LL at *
        simp -implicitDefEqProofs [es, e1, e2, e3, d1, d2, hsz, dK]
      · by_cases hjl : j < ks.length
        · rw [List.getElem?_append_left hjl] at hj
          exact hk j k hj
        · have : j = i := by
            have := (List.getElem?_eq_some_iff.mp hj).1
            rw [List.length_append, List.length_singleton] at this
            omega
          subst this
          rw [List.getElem?_append_right (by omega), hkl, Nat.sub_self] at hj
          cases hj
          refine ⟨rfl, ⟨_, hen, by simp; omega, by simp; omega, fun c hc => ?_⟩, ⟨by show 1 ≤ sc * (1 + p); omega, by show sc * (1 + p) ≤ 996; omega⟩, by show 1 ≤ 1 + q; omega, by show 1 + q ≤ 9; omega⟩
          rcases List.mem_append.mp hc with hc | hc
          · exact hA c hc
          · rcases List.mem_cons.mp hc with rfl | hc
            · exact kq_Cl _ (List.getElem_mem hi6)
            · exact hB c hc)
  rw [rgD_length] at hkl
  have hr := asR1_of (1 + m) (by omega) (by omega)
  refine ⟨ks, runFn_eq rfl ?_, by omega, by omega, ?_, fun k hk' => ?_⟩
  · generalize ks.map dK = KS at *
    generalize dI l = LL at *
    generalize rgD 0 (1 + m) = RG at *
    simp -implicitDefEqProofs [ini, body_law_kinds, e0, hr, e]
  · refine List.pairwise_iff_getElem.mpr fun i j hi hj hij heq => ?_
    rw [List.length_map] at hi hj
    rw [List.getElem_map, List.getElem_map] at heq
    have h1 := (hk i _ (List.getElem?_eq_getElem (by omega : i < ks.length))).1
    have h2 := (hk j _ (List.getElem?_eq_getElem hj)).1
    have h3 : (ks[i]).1 = (ks[j]).1 := heq
    rw [h1, h2] at h3
    have := nmk_inj (by omega) (by omega) h3
    omega
  · obtain ⟨j, hj⟩ := List.mem_iff_getElem?.mp hk'
    exact (hk j k hj).2
structure WayOk (ks : List (Str × Int × Int)) (w : Str × Str × Int) : Prop where
  s : w.1 ∈ ks.map (·.1)
  t : w.2.1 ∈ ks.map (·.1)
  d : 1 ≤ w.2.2 ∧ w.2.2 ≤ 6
theorem f_lways {l : List Int} {ks : List (Str × Int × Int)} (hl : l.length = 73) (h1 : 1 ≤ ks.length) (h3 : ks.length ≤ 3) {a : Int} (ha : 0 ≤ a ∧ a ≤ 50) :
    ∃ ws : List (Str × Str × Int), Fn_law_ways [dI l, .int a, .lst (ks.map dK), .int 4] = .ok (.lst (ws.map dW)) ∧ ws.length ≤ 4 ∧ ∀ w ∈ ws, WayOk ks w := by
  obtain ⟨m, e0, m0, m3⟩ := p_ok hl (a := a) (n := 5) (by omega) (by omega)
  have kat : ∀ z : Int, 0 ≤ z → z < (ks.length : Int) → ∃ k : Str × Int × Int, k.1 ∈ ks.map (·.1) ∧ opIx (.lst (ks.map dK)) (.int z) = some (.tup [.str k.1, .int k.2.1, .int k.2.2]) := fun z h1 h2 => by
    have hz : z.toNat < ks.length := by omega
    exact ⟨ks[z.toNat], List.mem_map_of_mem (List.getElem_mem hz), ix_lst' (n := z.toNat) (by omega) (by rw [List.getElem?_map, List.getElem?_eq_getElem hz]; rfl)⟩
  have hln : fLen [.lst (ks.map dK)] = some (.int (ks.length : Int)) := by simp
  obtain ⟨ρ', e, ws, x, y, z, rfl, hwl, hw⟩ := forS_thru (g := gN 5) (body := sSeq (sSet 6 (e2 opIx (e2 opIx (eN 2) (eCall Fn_law_pick (aC (eN 0) (aC (e2 opAdd (e2 opAdd (eN 1) (eC (.int 1))) (e2 opMul (eC (.int 3)) (eN 5))) (aC (eF fLen (aC (eN 2) aN)) aN))))) (eC (.int 0))))
    (sSeq (sSet 7 (e2 opIx (e2 opIx (eN 2) (eCall Fn_law_pick (aC (eN 0) (aC (e2 opAdd (e2 opAdd (eN 1) (eC (.int 2))) (e2 opMul (eC (.int 3)) (eN 5))) (aC (eF fLen (aC (eN 2) aN)) aN))))) (eC (.int 0))))
    (sApp 4 (eT (aC (eN 6) (aC (eN 7) (aC (e2 opAdd (eC (.int 1)) (eCall Fn_law_pick (aC (eN 0) (aC (e2 opAdd (e2 opAdd (eN 1) (eC (.int 3))) (e2 opMul (eC (.int 3)) (eN 5))) (aC (eC (.int 6)) aN))))) aN))))))) (rgD 0 m)
    (fun i ρ => ∃ (ws : List (Str × Str × Int)) (x y z : Pu.Slot), ρ = [.val (dI l), .val (.int a), .val (.lst (ks.map dK)), .val (.int 4), .own (ws.map dW), x, y, z] ∧ ws.length = i ∧ ∀ w ∈ ws, WayOk ks w)
    [.val (dI l), .val (.int a), .val (.lst (ks.map dK)), .val (.int 4), .own [], .un, .un, .un] ⟨[], _, _, _, rfl, rfl, fun w h => (by cases h)⟩ (fun i d ρ e hi => by
      obtain ⟨ws, x, y, z, rfl, hwl, hw⟩ := hi
      obtain ⟨rfl, hil⟩ := rg0_some e
      obtain ⟨p, e1, p1, p2⟩ := p_ok hl (a := a + 1 + 3 * (i : Int)) (n := (ks.length : Int)) (by omega) (by omega)
      obtain ⟨q, e2, q1, q2⟩ := p_ok hl (a := a + 2 + 3 * (i : Int)) (n := (ks.length : Int)) (by omega) (by omega)
      obtain ⟨r, e3, r1, r2⟩ := p_ok hl (a := a + 3 + 3 * (i : Int)) (n := 6) (by omega) (by omega)
      obtain ⟨k1, n1, i1⟩ := kat p p1 p2
      obtain ⟨k2, n2, i2⟩ := kat q q1 q2
      have hsz : (ws.map dW).length < sizeLine := by rw [List.length_map]; exact small1000 (by omega)
      have d1 := opMul_of 3 (i : Int) (by omega)
      refine ⟨_, [.val (dI l), .val (.int a), .val (.lst (ks.map dK)), .val (.int 4), .own ((ws ++ [(k1.1, k2.1, 1 + r)]).map dW), .val (.int i), .val (.str k1.1), .val (.str k2.1)], rfl, .inl ?_, _, _, _, _, rfl, by rw [List.length_append, hwl]; rfl, fun w hw' => ?_⟩
      · rw [List.map_append]
        generalize ws.map dW = WS at *
        generalize (ks.length : Int) = Z at *
        generalize ks.map dK = KS at *
        generalize dI l = LL at *
        simp -implicitDefEqProofs [hln, e1, e2, e3, i1, i2, d1, hsz, dW]
      · rcases List.mem_append.mp hw' with hw' | hw'
        · exact hw w hw'
        · rw [List.mem_singleton.mp hw']
          exact ⟨n1, n2, by show 1 ≤ 1 + r; omega, by show 1 + r ≤ 6; omega⟩)
  rw [rgD_length] at hwl
  have hr := asR1_of m (by omega) (by omega)
  refine ⟨ws, runFn_eq rfl ?_, by omega, hw⟩
  generalize ws.map dW = WS at *
  generalize ks.map dK = KS at *
  generalize dI l = LL at *
  generalize rgD 0 m = RG at *
  simp -implicitDefEqProofs [ini, body_law_ways, e0, hr, e]
end G90

namespace G90
open PySem PySem.Spec PyProof.Rows L2 Pu
def NameOk (s : Str) : Prop := 1 ≤ s.cps.toList.length ∧ s.cps.toList.length ≤ 12 ∧ ∀ c ∈ s.cps.toList, c ∈ Cl
structure Good (t : Tk) : Prop where
  ok : Ok t
  nm : ∀ k ∈ t.ks, NameOk k.1
abbrev dP (t : Tk) : D := .tup [.lst (t.ks.map dK), .lst (t.ws.map dW)]
theorem good_of {ks : List (Str × Int × Int)} {ws : List (Str × Str × Int)} (h1 : 1 ≤ ks.length) (h3 : ks.length ≤ 3) (nd : (ks.map (·.1)).Nodup) (hk : ∀ k ∈ ks, NameOk k.1 ∧ 1 ≤ k.2.1 ∧ k.2.1 ≤ 1000 ∧ 1 ≤ k.2.2 ∧ k.2.2 ≤ 1000) (hw4 : ws.length ≤ 4)
    (hw : ∀ w ∈ ws, w.1 ∈ ks.map (·.1) ∧ w.2.1 ∈ ks.map (·.1) ∧ 1 ≤ w.2.2 ∧ w.2.2 ≤ 1000) : Good ⟨ks, ws⟩ :=
  ⟨⟨h1, by show ks.length ≤ 4; omega, by show ws.length ≤ 8; omega, nd, fun k h => (hk k h).2, hw⟩, fun k h => (hk k h).1⟩
theorem f_two {l : List Int} (hl : l.length = 73) (hs : Small l) : ∃ t u : Tk, Fn_law_two_tasks [dI l] = .ok (.tup [dP t, dP u]) ∧ Good t ∧ Good u := by
  obtain ⟨A, B, hAB, hA, hB, hnm⟩ := f_lname hl hs
  obtain ⟨ks1, h_1, a1, a2, a3, a4⟩ := f_lkinds hl hs hAB hA hB hnm (a := 0) (by omega)
  obtain ⟨ks2, h_2, b1, b2, b3, b4⟩ := f_lkinds hl hs hAB hA hB hnm (a := 20) (by omega)
  obtain ⟨ws1, h_3, c1, c2⟩ := f_lways (ks := ks1) hl a1 a2 (a := 7) (by omega)
  obtain ⟨ws2, h_4, d1, d2⟩ := f_lways (ks := ks2) hl b1 b2 (a := 27) (by omega)
  obtain ⟨v, h_5, v0, v3⟩ := p_ok hl (a := 40) (n := 3) (by omega) (by omega)
  obtain ⟨p, h_6, p0, p2⟩ := p_ok hl (a := 41) (n := 2) (by omega) (by omega)
  obtain ⟨q, h_7, q0, q2⟩ := p_ok hl (a := 42) (n := 2) (by omega) (by omega)
  have kn : ∀ (ks : List (Str × Int × Int)), (∀ k ∈ ks, KindOk k) → ∀ k ∈ ks, NameOk k.1 ∧ 1 ≤ k.2.1 ∧ k.2.1 ≤ 996 ∧ 1 ≤ k.2.2 ∧ k.2.2 ≤ 9 := fun ks h k hk => by
    obtain ⟨⟨L, e, l1, l2, l3⟩, hc, hd⟩ := h k hk
    refine ⟨?_, hc.1, hc.2, hd.1, hd.2⟩
    unfold NameOk
    rw [e]
    exact ⟨l1, l2, l3⟩
  have g1 : Good ⟨ks1, ws1⟩ := good_of a1 a2 a3 (fun k h => by have := kn ks1 a4 k h; exact ⟨this.1, by omega, by omega, by omega, by omega⟩) c1 (fun w h => ⟨(c2 w h).s, (c2 w h).t, (c2 w h).d.1, by have := (c2 w h).d.2; omega⟩)
  have g2 : Good ⟨ks2, ws2⟩ := good_of b1 b2 b3 (fun k h => by have := kn ks2 b4 k h; exact ⟨this.1, by omega, by omega, by omega, by omega⟩) d1 (fun w h => ⟨(d2 w h).s, (d2 w h).t, (d2 w h).d.1, by have := (d2 w h).d.2; omega⟩)
  have hv : v = 0 ∨ v = 1 ∨ v = 2 := by omega
  rcases hv with rfl | rfl | rfl
  · refine ⟨_, _, runFn_eq rfl ?_, g1, g2⟩
    show _ = Res.ok (D.tup [D.tup [D.lst (ks1.map dK), .lst (ws1.map dW)], .tup [.lst (ks2.map dK), .lst (ws2.map dW)]])
    generalize ks1.map dK = K1 at *
    generalize ks2.map dK = K2 at *
    generalize ws1.map dW = W1 at *
    generalize ws2.map dW = W2 at *
    generalize dI l = LL at *
    simp -implicitDefEqProofs [ini, body_law_two_tasks, h_1, h_2, h_3, h_4, h_5]
  · have g3 : Good ⟨ks1.map fun k => (k.1, k.2.1 + p, k.2.2), ws1⟩ := by
      have hm : (ks1.map fun k : Str × Int × Int => (k.1, k.2.1 + p, k.2.2)).map (·.1) = ks1.map (·.1) := by rw [List.map_map]; rfl
      refine good_of (by rw [List.length_map]; exact a1) (by rw [List.length_map]; exact a2) (by rw [hm]; exact a3) (fun k h => ?_) c1 (fun w h => by rw [hm]; exact ⟨(c2 w h).s, (c2 w h).t, (c2 w h).d.1, by have := (c2 w h).d.2; omega⟩)
      obtain ⟨k', hk', rfl⟩ := List.mem_map.mp h
      have := kn ks1 a4 k' hk'
      exact ⟨this.1, by show 1 ≤ k'.2.1 + p; omega, by show k'.2.1 + p ≤ 1000; omega, this.2.2.2.1, by have := this.2.2.2.2; show k'.2.2 ≤ 1000; omega⟩
    refine ⟨_, _, runFn_eq rfl ?_, g1, g3⟩
    have key : ∀ x y z, lcGo (gN 6) tYes' (eT (aC (e2 opIx (eN 6) (eC (.int 0))) (aC (e2 opAdd (e2 opIx (eN 6) (eC (.int 1))) (eCall Fn_law_pick (aC (eN 0) (aC (eC (.int 41)) (aC (eC (.int 2)) aN))))) (aC (e2 opIx (eN 6) (eC (.int 2))) aN))))
        [.val (dI l), x, y, z, .un, .un, .un] (ks1.map dK) = .ok ((ks1.map fun k => (k.1, k.2.1 + p, k.2.2)).map dK) := fun x y z => by
      rw [lcGo_map (δ := dK) (fun k => dK (k.1, k.2.1 + p, k.2.2)) ks1 (fun k _ => ⟨_, rfl, by generalize dI l = LL at *; simp -implicitDefEqProofs [dK, h_6]⟩), List.map_map]; rfl
    have hz : (ks1.map dK).length ≤ sizeLine := by rw [List.length_map]; exact Nat.le_of_lt (small1000 (by omega))
    show _ = Res.ok (D.tup [D.tup [D.lst (ks1.map dK), .lst (ws1.map dW)], .tup [.lst ((ks1.map fun k => (k.1, k.2.1 + p, k.2.2)).map dK), .lst (ws1.map dW)]])
    generalize (ks1.map fun k : Str × Int × Int => (k.1, k.2.1 + p, k.2.2)).map dK = K3 at *
    generalize ks1.map dK = K1 at *
    generalize ks2.map dK = K2 at *
    generalize ws1.map dW = W1 at *
    generalize ws2.map dW = W2 at *
    generalize dI l = LL at *
    simp -implicitDefEqProofs [ini, body_law_two_tasks, h_1, h_2, h_3, h_4, h_5, key, hz]
  · have g3 : Good ⟨ks2, ws2.map fun w => (w.1, w.2.1, w.2.2 + q)⟩ := by
      refine good_of b1 b2 b3 (fun k h => by have := kn ks2 b4 k h; exact ⟨this.1, by omega, by omega, by omega, by omega⟩) (by rw [List.length_map]; exact d1) (fun w h => ?_)
      obtain ⟨w', hw', rfl⟩ := List.mem_map.mp h
      exact ⟨(d2 w' hw').s, (d2 w' hw').t, by have := (d2 w' hw').d.1; show 1 ≤ w'.2.2 + q; omega, by have := (d2 w' hw').d.2; show w'.2.2 + q ≤ 1000; omega⟩
    refine ⟨_, _, runFn_eq rfl ?_, g3, g2⟩
    have key : ∀ x y z x2, lcGo (gN 5) tYes' (eT (aC (e2 opIx (eN 5) (eC (.int 0))) (aC (e2 opIx (eN 5) (eC (.int 1))) (aC (e2 opAdd (e2 opIx (eN 5) (eC (.int 2))) (eCall Fn_law_pick (aC (eN 0) (aC (eC (.int 42)) (aC (eC (.int 2)) aN))))) aN))))
        [.val (dI l), x, y, z, x2, .un, .un] (ws2.map dW) = .ok ((ws2.map fun w => (w.1, w.2.1, w.2.2 + q)).map dW) := fun x y z x2 => by
      rw [lcGo_map (δ := dW) (fun w => dW (w.1, w.2.1, w.2.2 + q)) ws2 (fun k _ => ⟨_, rfl, by generalize dI l = LL at *; simp -implicitDefEqProofs [dW, h_7]⟩), List.map_map]; rfl
    have hz : (ws2.map dW).length ≤ sizeLine := by rw [List.length_map]; exact Nat.le_of_lt (small1000 (by omega))
    show _ = Res.ok (D.tup [D.tup [D.lst (ks2.map dK), .lst ((ws2.map fun w => (w.1, w.2.1, w.2.2 + q)).map dW)], .tup [.lst (ks2.map dK), .lst (ws2.map dW)]])
    generalize (ws2.map fun w : Str × Str × Int => (w.1, w.2.1, w.2.2 + q)).map dW = W3 at *
    generalize ks1.map dK = K1 at *
    generalize ks2.map dK = K2 at *
    generalize ws1.map dW = W1 at *
    generalize ws2.map dW = W2 at *
    generalize dI l = LL at *
    simp -implicitDefEqProofs [ini, body_law_two_tasks, h_1, h_2, h_3, h_4, h_5, key, hz]
/-! ### the checks -/
theorem f_isname {s : Str} (h : NameOk s) : Fn_is_name [.str s] = .ok (.bl true) := by
  obtain ⟨h1, h2, h3⟩ := h
  have hl : s.length = s.cps.toList.length := by simp [Str.length]
  have e1 : fLen [.str s] = some (.int (s.cps.toList.length : Int)) := by
    show (if s.length ≤ sizeLine then some (D.int (s.length : Int)) else none) = _
    rw [hl, if_pos (Nat.le_of_lt (small1000 (by omega)))]
  have key := lcGo_map (g := gN 1) (ev := e2 opIn (eN 1) (eC (.str "abcdefghijklmnopqrstuvwxyz0123456789"))) (ρ := [.val (.str s), .un]) (δ := fun c : Nat => D.str ⟨#[c]⟩) (fun _ => D.bl true) s.cps.toList (fun c hc => ⟨_, rfl, by
    have e : opIn (.str ⟨#[c]⟩) (.str "abcdefghijklmnopqrstuvwxyz0123456789") = some (.bl true) := by
      show (some (decide (c ∈ Cl))).map D.bl = _
      rw [decide_eq_true (h3 c hc)]; rfl
    generalize (Str.ofString "abcdefghijklmnopqrstuvwxyz0123456789") = CC at *
    simp -implicitDefEqProofs [e]⟩)
  have hb : (s.cps.toList.map fun _ => D.bl true) = (s.cps.toList.map fun _ => true).map D.bl := by rw [List.map_map]; rfl
  rw [hb] at key
  have e2 : fAll [.lst ((s.cps.toList.map fun _ => true).map D.bl)] = some (.bl true) := by
    show (bls? _).map _ = _
    rw [bls?_map]
    show some (D.bl ((s.cps.toList.map fun _ => true).all id)) = _
    rw [List.all_map]
    congr 2
    rw [List.all_eq_true]
    intro x _; rfl
  have hz : (s.cps.toList.map fun c : Nat => D.str ⟨#[c]⟩).length ≤ sizeLine := by rw [List.length_map]; exact Nat.le_of_lt (small1000 (by omega))
  have hcc : asSeq (.str s) = .ok (s.cps.toList.map fun c : Nat => D.str ⟨#[c]⟩) := rfl
  refine runFn_eq rfl ?_
  have q1 : (1 : Int) ≤ s.cps.toList.length := by omega
  have q2 : (s.cps.toList.length : Int) ≤ 12 := by omega
  unfold body_is_name
  generalize (s.cps.toList.map fun _ => true).map D.bl = BB at *
  generalize (s.cps.toList.map fun c : Nat => D.str ⟨#[c]⟩) = DD at *
  generalize (s.cps.toList.length : Int) = Z at *
  generalize (Str.ofString "abcdefghijklmnopqrstuvwxyz0123456789") = CC at *
  generalize D.str s = SS at *
  simp -implicitDefEqProofs [-asSeq_str, ini, e1, q1, q2, hcc, hz, key, e2]
theorem in_strs (s : Str) (l : List Str) : opIn (.str s) (.lst (l.map D.str)) = some (.bl (decide (s ∈ l))) := by
  have h1 : (l.map D.str).all flat = true := by
    rw [List.all_map, List.all_eq_true]; intro x _; rfl
  have h2 : ((l.map D.str).any fun y => eqF y (.str s)) = decide (s ∈ l) := by
    rw [List.any_map]
    clear h1
    induction l with
    | nil => rfl
    | cons x l ih =>
      rw [List.any_cons, ih]
      show (x == s || decide (s ∈ l)) = _
      by_cases hx : x = s
      · subst hx; simp
      · have h3 : (x == s) = false := by simpa using hx
        rw [h3]; simp [Ne.symm hx]
  show (inF (.str s) (l.map D.str)).map D.bl = _
  unfold inF
  rw [h1, h2]
  rfl
theorem f_arek {t : Tk} (g : Good t) : Fn_are_kinds [.lst (t.ks.map dK)] = .ok (.bl true) := by
  have k1 := g.ok.k1
  have k8 := g.ok.k8
  obtain ⟨ρ', e, x, y, z, rfl⟩ := forS_thru (g := gT [2, 3, 4]) (body := sSeq (sIf (tOr' (tNot' (tV (eCall Fn_is_name (aC (eN 2) aN)))) (tV (e2 opIn (eN 2) (eB 1)))) (sRet (eC (.bl false))) sNil)
    (sSeq (sIf (tOr' (tNot' (tV (eCh opLe opLe (eC (.int 1)) (eN 3) (eC (.int 1000))))) (tNot' (tV (eCh opLe opLe (eC (.int 1)) (eN 4) (eC (.int 1000)))))) (sRet (eC (.bl false))) sNil)
    (sApp 1 (eN 2)))) (t.ks.map dK) (fun i ρ => ∃ x y z, ρ = [.val (.lst (t.ks.map dK)), .own (((t.ks.take i).map (·.1)).map D.str), x, y, z])
    [.val (.lst (t.ks.map dK)), .own [], .un, .un, .un] ⟨_, _, _, rfl⟩ (fun i d ρ e hi => by
      obtain ⟨x, y, z, rfl⟩ := hi
      rw [List.getElem?_map] at e
      obtain ⟨k, ek, rfl⟩ := Option.map_eq_some_iff.mp e
      have hkm := List.mem_of_getElem? ek
      have hk := g.ok.kk k hkm
      have e1 := f_isname (g.nm k hkm)
      have hil := (List.getElem?_eq_some_iff.mp ek).1
      have hni : ¬ k.1 ∈ (t.ks.take i).map (·.1) := fun h => by
        obtain ⟨k', hk', he⟩ := List.mem_map.mp h
        obtain ⟨j, hj⟩ := List.mem_iff_getElem?.mp hk'
        have hjl := (List.getElem?_eq_some_iff.mp hj).1
        rw [List.length_take] at hjl
        rw [List.getElem?_take_of_lt (by omega)] at hj
        have h1 := num_of g.ok.nd ek
        have h2 := num_of g.ok.nd hj
        rw [he] at h2
        omega
      have e2 := in_strs k.1 ((t.ks.take i).map (·.1))
      rw [decide_eq_false hni] at e2
      have hsz : (((t.ks.take i).map (·.1)).map D.str).length < sizeLine := by
        rw [List.length_map, List.length_map, List.length_take]; exact small1000 (by omega)
      rw [take_snoc ek, List.map_append, List.map_append]
      refine ⟨_, [.val (.lst (t.ks.map dK)), .own (((t.ks.take i).map (·.1)).map D.str ++ [.str k.1]), .val (.str k.1), .val (.int k.2.1), .val (.int k.2.2)], rfl, .inl ?_, _, _, _, rfl⟩
      generalize ((t.ks.take i).map (·.1)).map D.str = SN at *
      generalize t.ks.map dK = KS
      simp -implicitDefEqProofs [e1, e2, hk.1, hk.2.1, hk.2.2.1, hk.2.2.2, hsz])
  refine runFn_eq rfl ?_
  have q1 : (1 : Int) ≤ t.ks.length := by omega
  have q2 : (t.ks.length : Int) ≤ 8 := by omega
  have hln : fLen [.lst (t.ks.map dK)] = some (.int (t.ks.length : Int)) := by simp
  rw [List.length_map] at e
  generalize ((t.ks.take t.ks.length).map (·.1)).map D.str = SN at *
  generalize (t.ks.length : Int) = Z at *
  generalize t.ks.map dK = KS at *
  simp -implicitDefEqProofs [ini, body_are_kinds, hln, q1, q2, e]
end G90

namespace G90
open PySem PySem.Spec PyProof.Rows L2 Pu
theorem notin_strs (s : Str) (l : List Str) : opNotIn (.str s) (.lst (l.map D.str)) = some (.bl (!decide (s ∈ l))) := by
  have h := in_strs s l
  unfold opIn at h
  unfold opNotIn
  obtain ⟨b, e1, e2⟩ := Option.map_eq_some_iff.mp h
  cases e2
  rw [e1]; rfl
theorem f_arew {t : Tk} (g : Good t) : Fn_are_ways [.lst (t.ws.map dW), .lst ((t.ks.map (·.1)).map D.str)] = .ok (.bl true) := by
  have w16 := g.ok.w16
  obtain ⟨ρ', e, x, y, z, rfl⟩ := forS_thru (g := gT [2, 3, 4]) (body := sSeq (sIf (tOr' (tV (e2 opNotIn (eN 2) (eN 1))) (tV (e2 opNotIn (eN 3) (eN 1)))) (sRet (eC (.bl false))) sNil)
    (sIf (tNot' (tV (eCh opLe opLe (eC (.int 1)) (eN 4) (eC (.int 1000))))) (sRet (eC (.bl false))) sNil)) (t.ws.map dW) (fun i ρ => ∃ x y z, ρ = [.val (.lst (t.ws.map dW)), .val (.lst ((t.ks.map (·.1)).map D.str)), x, y, z])
    [.val (.lst (t.ws.map dW)), .val (.lst ((t.ks.map (·.1)).map D.str)), .un, .un, .un] ⟨_, _, _, rfl⟩ (fun i d ρ e hi => by
      obtain ⟨x, y, z, rfl⟩ := hi
      rw [List.getElem?_map] at e
      obtain ⟨w, ew, rfl⟩ := Option.map_eq_some_iff.mp e
      have hw := g.ok.ww w (List.mem_of_getElem? ew)
      have n1 := notin_strs w.1 (t.ks.map (·.1))
      have n2 := notin_strs w.2.1 (t.ks.map (·.1))
      rw [decide_eq_true hw.1] at n1
      rw [decide_eq_true hw.2.1] at n2
      refine ⟨_, [.val (.lst (t.ws.map dW)), .val (.lst ((t.ks.map (·.1)).map D.str)), .val (.str w.1), .val (.str w.2.1), .val (.int w.2.2)], rfl, .inl ?_, _, _, _, rfl⟩
      generalize D.lst ((t.ks.map (·.1)).map D.str) = SN at *
      generalize t.ws.map dW = WS
      simp -implicitDefEqProofs [n1, n2, hw.2.2.1, hw.2.2.2])
  refine runFn_eq rfl ?_
  have hln : fLen [.lst (t.ws.map dW)] = some (.int (t.ws.length : Int)) := by simp
  have hq : ¬ (16 : Int) < t.ws.length := by omega
  generalize D.lst ((t.ks.map (·.1)).map D.str) = SN at *
  generalize (t.ws.length : Int) = Z at *
  generalize t.ws.map dW = WS at *
  simp -implicitDefEqProofs [ini, body_are_ways, hln, hq, e]
theorem putD_ne {f g : Str} {d x : D} {r : List (Str × D)} (h : ¬ g = f) : putD f d ((g, x) :: r) = (g, x) :: putD f d r := by
  show (if g = f then (g, d) :: r else (g, x) :: putD f d r) = _
  rw [if_neg h]
theorem putD_flds (a b c : D) : putD ("ways" : Str) c (putD ("kinds" : Str) b (putD ("name" : Str) a [])) = [(("name" : Str), a), (("kinds" : Str), b), (("ways" : Str), c)] := by
  have h1 : ¬ (("name" : Str) = ("kinds" : Str)) := by decide +kernel
  have h2 : ¬ (("name" : Str) = ("ways" : Str)) := by decide +kernel
  have h3 : ¬ (("kinds" : Str) = ("ways" : Str)) := by decide +kernel
  show putD ("ways" : Str) c (putD ("kinds" : Str) b [(("name" : Str), a)]) = _
  rw [putD_ne h1]
  show putD ("ways" : Str) c [(("name" : Str), a), (("kinds" : Str), b)] = _
  rw [putD_ne h2, putD_ne h3]
  rfl
theorem f_init {nm : Str} {t : Tk} (hn : NameOk nm) (g : Good t) : Fn_Task_init [.str nm, .lst (t.ks.map dK), .lst (t.ws.map dW)] = .ok [("name", .str nm), ("kinds", .tup (t.ks.map dK)), ("ways", .tup (t.ws.map dW))] := by
  have k8 := g.ok.k8
  have w16 := g.ok.w16
  have c1 := f_isname hn
  have c2 := f_arek g
  have c3 := f_arew g
  have hz1 : (t.ks.map dK).length ≤ sizeLine := by rw [List.length_map]; exact Nat.le_of_lt (small1000 (by omega))
  have hz2 : (t.ws.map dW).length ≤ sizeLine := by rw [List.length_map]; exact Nat.le_of_lt (small1000 (by omega))
  have l1 : ∀ a b c d e, lcGo (gN 4) tYes' (e2 opIx (eN 4) (eC (.int 0))) [a, b, c, d, .un, e] (t.ks.map dK) = .ok ((t.ks.map (·.1)).map D.str) := fun a b c d e => by
    rw [lcGo_map (δ := dK) (fun k => D.str k.1) t.ks (fun k _ => ⟨_, rfl, by simp -implicitDefEqProofs [dK]⟩), List.map_map]; rfl
  have l2 : ∀ a b c d e, lcGo (gN 4) tYes' (eT (aC (e2 opIx (eN 4) (eC (.int 0))) (aC (e2 opIx (eN 4) (eC (.int 1))) (aC (e2 opIx (eN 4) (eC (.int 2))) aN)))) [a, b, c, d, .un, e] (t.ks.map dK) = .ok (t.ks.map dK) := fun a b c d e =>
    lcGo_map (δ := dK) dK t.ks (fun k _ => ⟨_, rfl, by simp -implicitDefEqProofs [dK]⟩)
  have l3 : ∀ a b c d e, lcGo (gN 5) tYes' (eT (aC (e2 opIx (eN 5) (eC (.int 0))) (aC (e2 opIx (eN 5) (eC (.int 1))) (aC (e2 opIx (eN 5) (eC (.int 2))) aN)))) [a, b, c, d, e, .un] (t.ws.map dW) = .ok (t.ws.map dW) := fun a b c d e =>
    lcGo_map (δ := dW) dW t.ws (fun k _ => ⟨_, rfl, by simp -implicitDefEqProofs [dW]⟩)
  rw [← putD_flds]
  have p1 : (putD "name" (D.str nm) []).length < 1000 := by have h := putD_len "name" (D.str nm) []; have e : ([] : List (Str × D)).length = 0 := rfl; omega
  have p2 : (putD "kinds" (.tup (t.ks.map dK)) (putD "name" (D.str nm) [])).length < 1000 := by
    have h := putD_len "name" (D.str nm) []
    have h2 := putD_len "kinds" (.tup (t.ks.map dK)) (putD "name" (D.str nm) [])
    have e : ([] : List (Str × D)).length = 0 := rfl
    omega
  show runIn 0 4 6 body_Task_init _ = _
  unfold runIn
  rw [if_pos (show ([D.str nm, .lst (t.ks.map dK), .lst (t.ws.map dW)] : List D).length + 1 = 4 from rfl)]
  show (body_Task_init [.ob 0 [], .val (.str nm), .val (.lst (t.ks.map dK)), .val (.lst (t.ws.map dW)), .un, .un]).init 0 = _
  have tf : ∀ (as : Av) (ρ : PEnv) (ds : List D), as ρ = .ok [.lst ds] → eTupF as ρ = .ok (.tup ds) := fun as ρ ds h => eTupF_lst ρ as ds h
  generalize hg1 : putD "name" (D.str nm) [] = g1 at *
  generalize hg2 : putD "kinds" (.tup (t.ks.map dK)) g1 = g2 at *
  generalize hg3 : putD "ways" (.tup (t.ws.map dW)) g2 = g3 at *
  have t1 : ∀ a b c d e, eTupF (aC (eL (lLc (iS (eN 2)) (gN 4) [4] tYes' (eT (aC (e2 opIx (eN 4) (eC (.int 0))) (aC (e2 opIx (eN 4) (eC (.int 1))) (aC (e2 opIx (eN 4) (eC (.int 2))) aN)))))) aN) [a, b, .val (.lst (t.ks.map dK)), c, d, e] = .ok (.tup (t.ks.map dK)) := fun a b c d e => by
    refine tf _ _ _ ?_
    generalize t.ks.map dK = KS at *
    simp -implicitDefEqProofs [l2, hz1]
  have t2 : ∀ a b c d e, eTupF (aC (eL (lLc (iS (eN 3)) (gN 5) [5] tYes' (eT (aC (e2 opIx (eN 5) (eC (.int 0))) (aC (e2 opIx (eN 5) (eC (.int 1))) (aC (e2 opIx (eN 5) (eC (.int 2))) aN)))))) aN) [a, b, c, .val (.lst (t.ws.map dW)), d, e] = .ok (.tup (t.ws.map dW)) := fun a b c d e => by
    refine tf _ _ _ ?_
    generalize t.ws.map dW = KS at *
    simp -implicitDefEqProofs [l3, hz2]
  generalize ((t.ks.map (·.1)).map D.str) = SN at *
  generalize t.ks.map dK = KS at *
  generalize t.ws.map dW = WS at *
  generalize D.str nm = NM at *
  simp -implicitDefEqProofs [body_Task_init, c1, c2, l1, hz1, c3, t1, t2, hg1, p1, hg2, p2, hg3, Out.init, Slot.fsOf]
theorem f_ltask {nm : Str} {t : Tk} (hn : NameOk nm) (g : Good t) : Fn_law_task [.str nm, dP t] = .ok (dT nm t) := by
  have c1 := f_init hn g
  have k8 := g.ok.k8
  have w16 := g.ok.w16
  have hz1 : (t.ks.map dK).length ≤ sizeLine := by rw [List.length_map]; exact Nat.le_of_lt (small1000 (by omega))
  have hz2 : (t.ws.map dW).length ≤ sizeLine := by rw [List.length_map]; exact Nat.le_of_lt (small1000 (by omega))
  refine runFn_eq rfl ?_
  show _ = Res.ok (D.obj 0 [("name", .str nm), ("kinds", .tup (t.ks.map dK)), ("ways", .tup (t.ws.map dW))])
  generalize ([(("name" : Str), D.str nm), ("kinds", .tup (t.ks.map dK)), ("ways", .tup (t.ws.map dW))] : List (Str × D)) = FS at *
  show (body_law_task [.val (.str nm), .val (.tup [.lst (t.ks.map dK), .lst (t.ws.map dW)])]).res = _
  generalize t.ks.map dK = KS at *
  generalize t.ws.map dW = WS at *
  generalize D.str nm = NM at *
  simp -implicitDefEqProofs [body_law_task, hz1, hz2, c1]
end G90

-- out of M20
namespace Dem
variable {S : Sys}
theorem chain_snoc {a b : Nat × Nat} (h : ∃ w ∈ S.W, w.1 = a.2 ∧ w.2.1 = b.2 ∧ a.1 + w.2.2 ≤ b.1) : ∀ (l : List (Nat × Nat)), Chain S (l ++ [a]) → Chain S (l ++ [a] ++ [b])
  | [], _ => ⟨h, trivial⟩
  | [c], hc => ⟨hc.1, h, trivial⟩
  | c :: d :: l, hc => ⟨hc.1, chain_snoc h (d :: l) hc.2⟩
end Dem
namespace G90
open PySem PySem.Spec PyProof.Rows L2 Pu
def dRel (r : Int × Str) : D := .tup [.int r.1, .str r.2]
def toR (t : Tk) (r : Int × Str) : Nat × Nat := (r.1.toNat, num t.ks r.2)
/-- a course of the law's -/
structure Course (t : Tk) (rs : List (Int × Str)) : Prop where
  ch : Dem.Chain (sys t) (rs.map (toR t))
  ok : ∀ r ∈ rs, 0 ≤ r.1 ∧ r.2 ∈ t.ks.map (·.1) ∧ r.1 ≤ 1010 * (rs.length : Int)
  len : rs.length ≤ 9
theorem f_course {l : List Int} {t : Tk} (hl : l.length = 73) (g : Good t) {v : Int} (hv : 0 ≤ v ∧ v < 9) : ∃ rs : List (Int × Str), Fn_law_course [dI l, .int 44, .lst (t.ks.map dK), .lst (t.ws.map dW), .int (1 + v)] = .ok (.lst (rs.map dRel)) ∧ Course t rs := by
  have k1 := g.ok.k1
  have k8 := g.ok.k8
  have w16 := g.ok.w16
  obtain ⟨p, E1, p1, p2⟩ := p_ok hl (a := 44) (n := (t.ks.length : Int)) (by omega) (by omega)
  obtain ⟨q, E2, q1, q2⟩ := p_ok hl (a := 45) (n := 4) (by omega) (by omega)
  obtain ⟨k, hk, I1⟩ : ∃ k : Str × Int × Int, k.1 ∈ t.ks.map (·.1) ∧ opIx (.lst (t.ks.map dK)) (.int p) = some (.tup [.str k.1, .int k.2.1, .int k.2.2]) := by
    have hz : p.toNat < t.ks.length := by omega
    exact ⟨t.ks[p.toNat], List.mem_map_of_mem (List.getElem_mem hz), ix_lst' (n := p.toNat) (by omega) (by rw [List.getElem?_map, List.getElem?_eq_getElem hz]; rfl)⟩
  have hlk : fLen [.lst (t.ks.map dK)] = some (.int (t.ks.length : Int)) := by simp
  have hz : (t.ws.map dW).length ≤ sizeLine := by rw [List.length_map]; exact Nat.le_of_lt (small1000 (by omega))
  have key := forS_ind (g := gN 8) (body := sSeq (sSet 9 (eL (lLc (iS (eN 3)) (gN 10) [10] (tV (e2 opEq (e2 opIx (eN 10) (eC (.int 0))) (eN 5))) (eN 10))))
    (sSeq (sIf (tV (e2 opEq (eF fLen (aC (eN 9) aN)) (eC (.int 0)))) (sFrz 7 (sRet (eN 7))) sNil)
    (sSeq (sSet 10 (e2 opIx (eN 9) (eCall Fn_law_pick (aC (eN 0) (aC (e2 opAdd (e2 opAdd (eN 1) (eC (.int 2))) (e2 opMul (eC (.int 2)) (eN 8))) (aC (eF fLen (aC (eN 9) aN)) aN))))))
    (sSeq (sSet 6 (e2 opAdd (e2 opAdd (eN 6) (e2 opIx (eN 10) (eC (.int 2)))) (eF fMax2 (aC (eC (.int 0)) (aC (e2 opSub (eCall Fn_law_pick (aC (eN 0) (aC (e2 opAdd (e2 opAdd (eN 1) (eC (.int 3))) (e2 opMul (eC (.int 2)) (eN 8))) (aC (eC (.int 6)) aN)))) (eC (.int 3))) aN)))))
    (sSeq (sSet 5 (e2 opIx (eN 10) (eC (.int 1))))
    (sApp 7 (eT (aC (eN 6) (aC (eN 5) aN)))))))))
    (fun o => ∃ rs : List (Int × Str), o = .rt (.lst (rs.map dRel)) ∧ Course t rs) (rgD 0 (1 + v - 1))
    (fun i ρ => ∃ (pre : List (Int × Str)) (tm : Int) (kd : Str) (a b c : Pu.Slot), ρ = [.val (dI l), .val (.int 44), .val (.lst (t.ks.map dK)), .val (.lst (t.ws.map dW)), .val (.int (1 + v)), .val (.str kd), .val (.int tm), .own ((pre ++ [(tm, kd)]).map dRel), a, b, c] ∧ pre.length ≤ i ∧ Course t (pre ++ [(tm, kd)]))
    [.val (dI l), .val (.int 44), .val (.lst (t.ks.map dK)), .val (.lst (t.ws.map dW)), .val (.int (1 + v)), .val (.str k.1), .val (.int q), .own [dRel (q, k.1)], .un, .un, .un] ⟨[], q, k.1, _, _, _, rfl, Nat.le_refl _, trivial, fun r hr => by rw [List.mem_singleton.mp hr]; exact ⟨q1, hk, by show q ≤ 1010 * ((1 : Nat) : Int); omega⟩, by simp⟩ (fun i d ρ e hi => by
      obtain ⟨pre, tm, kd, a, b, c, rfl, hpl, hC⟩ := hi
      obtain ⟨rfl, hil⟩ := rg0_some e
      have hlast := hC.ok (tm, kd) (List.mem_append_right _ List.mem_cons_self)
      have hpl8 : i < 8 := by omega
      obtain ⟨chs, hchs⟩ : ∃ chs, chs = t.ws.filter fun w => decide (w.1 = kd) := ⟨_, rfl⟩
      have key := lcGo_filter (g := gN 10) (tt := tV (e2 opEq (e2 opIx (eN 10) (eC (.int 0))) (eN 5))) (ev := eN 10) (ρ := [.val (dI l), .val (.int 44), .val (.lst (t.ks.map dK)), .val (.lst (t.ws.map dW)), .val (.int (1 + v)), .val (.str kd), .val (.int tm), .own ((pre ++ [(tm, kd)]).map dRel), .val (.int i), b, .un]) (δ := dW) (fun w => decide (w.1 = kd)) dW t.ws (fun w _ => ⟨_, rfl, by simp [dW], rfl⟩)
      rw [← hchs] at key
      refine ⟨[.val (dI l), .val (.int 44), .val (.lst (t.ks.map dK)), .val (.lst (t.ws.map dW)), .val (.int (1 + v)), .val (.str kd), .val (.int tm), .own ((pre ++ [(tm, kd)]).map dRel), .val (.int i), b, c], rfl, ?_⟩
      have hlc : fLen [.lst (chs.map dW)] = some (.int (chs.length : Int)) := by simp
      by_cases hne : chs = []
      · right
        refine ⟨.rt (.lst ((pre ++ [(tm, kd)]).map dRel)), ?_, trivial, _, rfl, hC⟩
        have h0 : (chs.length : Int) = 0 := by rw [hne]; rfl
        generalize (pre ++ [(tm, kd)]).map dRel = RS at *
        generalize chs.map dW = CS at *
        generalize (chs.length : Int) = Z at *
        generalize t.ws.map dW = WS at *
        generalize t.ks.map dK = KS at *
        generalize dI l = LL at *
        simp -implicitDefEqProofs [hz, key, hlc, h0]
      · left
        have hcl : 1 ≤ chs.length := by cases chs with | nil => exact absurd rfl hne | cons _ _ => simp
        obtain ⟨x, F1, x1, x2⟩ := p_ok hl (a := 46 + 2 * (i : Int)) (n := (chs.length : Int)) (by omega) (by omega)
        obtain ⟨y, F2, y1, y2⟩ := p_ok hl (a := 47 + 2 * (i : Int)) (n := 6) (by omega) (by omega)
        have hxl : x.toNat < chs.length := by omega
        obtain ⟨w, hw⟩ : ∃ w, chs[x.toNat]? = some w := ⟨_, List.getElem?_eq_getElem hxl⟩
        have hwm : w ∈ t.ws ∧ w.1 = kd := by
          have := List.mem_of_getElem? hw
          rw [hchs] at this
          have := List.mem_filter.mp this
          exact ⟨this.1, by simpa using this.2⟩
        have hwo := g.ok.ww w hwm.1
        have I2 : opIx (.lst (chs.map dW)) (.int x) = some (.tup [.str w.1, .str w.2.1, .int w.2.2]) := ix_lst' (n := x.toNat) (by omega) (by rw [List.getElem?_map, hw]; rfl)
        have d1 := opMul_of 2 (i : Int) (by omega)
        have h0 : ¬ (chs.length : Int) = 0 := by omega
        have hsz : ((pre ++ [(tm, kd)]).map dRel).length < sizeLine := by rw [List.length_map, List.length_append]; exact small1000 (by simp; omega)
        have hsn : (((pre ++ [(tm, kd)]) ++ [(tm + w.2.2 + max 0 (y - 3), w.2.1)]).map dRel) = (pre ++ [(tm, kd)]).map dRel ++ [.tup [.int (tm + w.2.2 + max 0 (y - 3)), .str w.2.1]] := by rw [List.map_append]; rfl
        refine ⟨[.val (dI l), .val (.int 44), .val (.lst (t.ks.map dK)), .val (.lst (t.ws.map dW)), .val (.int (1 + v)), .val (.str w.2.1), .val (.int (tm + w.2.2 + max 0 (y - 3))), .own (((pre ++ [(tm, kd)]) ++ [(tm + w.2.2 + max 0 (y - 3), w.2.1)]).map dRel), .val (.int i), .val (.lst (chs.map dW)), .val (.tup [.str w.1, .str w.2.1, .int w.2.2])], .inl ?_, pre ++ [(tm, kd)], _, _, _, _, _, rfl, by rw [List.length_append]; simp; omega, ?_, fun r hr => ?_, ?_⟩
        · rw [hsn]
          generalize (pre ++ [(tm, kd)]).map dRel = RS at *
          generalize chs.map dW = CS at *
          generalize (chs.length : Int) = Z at *
          generalize t.ws.map dW = WS at *
          generalize t.ks.map dK = KS at *
          generalize dI l = LL at *
          simp -implicitDefEqProofs [hz, key, hlc, h0, F1, F2, I2, d1, hsz]
        · rw [List.map_append, List.map_append]
          have hch := hC.ch
          rw [List.map_append] at hch
          refine Dem.chain_snoc ⟨toW t w, List.mem_map_of_mem hwm.1, ?_, rfl, ?_⟩ _ hch
          · show num t.ks w.1 = num t.ks kd
            rw [hwm.2]
          · show tm.toNat + w.2.2.toNat ≤ (tm + w.2.2 + max 0 (y - 3)).toNat
            have := hlast.1
            have h3 : (0 : Int) ≤ tm := hlast.1
            have h4 : 0 ≤ max 0 (y - 3) := Int.le_max_left _ _
            omega
        · have hlen : ((pre ++ [(tm, kd)] ++ [(tm + w.2.2 + max 0 (y - 3), w.2.1)]).length : Int) = ((pre ++ [(tm, kd)]).length : Int) + 1 := by rw [List.length_append]; simp
          rw [hlen]
          rcases List.mem_append.mp hr with hr | hr
          · have := hC.ok r hr
            exact ⟨this.1, this.2.1, by omega⟩
          · rw [List.mem_singleton.mp hr]
            have h3 : (0 : Int) ≤ tm := hlast.1
            have h4 : 0 ≤ max 0 (y - 3) := Int.le_max_left _ _
            have h5 : max 0 (y - 3) ≤ 5 := by omega
            have h6 : tm ≤ 1010 * ((pre ++ [(tm, kd)]).length : Int) := hlast.2.2
            exact ⟨by show 0 ≤ tm + w.2.2 + max 0 (y - 3); omega, hwo.2.1, by show tm + w.2.2 + max 0 (y - 3) ≤ _; omega⟩
        · simp; omega)
  have hr := asR1_of (1 + v - 1) (by omega) (by omega)
  generalize rgD 0 (1 + v - 1) = RG at *
  rcases key with ⟨ρ', e, pre, tm, kd, a, b, c, rfl, _, hC⟩ | ⟨rs, e, hC⟩
  · refine ⟨pre ++ [(tm, kd)], runFn_eq rfl ?_, hC⟩
    have e' : forS _ _ RG [.val (dI l), .val (.int 44), .val (.lst (t.ks.map dK)), .val (.lst (t.ws.map dW)), .val (.int (1 + v)), .val (.str k.1), .val (.int q), .own [.tup [.int q, .str k.1]], .un, .un, .un] = _ := e
    show (body_law_course [.val (dI l), .val (.int 44), .val (.lst (t.ks.map dK)), .val (.lst (t.ws.map dW)), .val (.int (1 + v)), .un, .un, .un, .un, .un, .un]).res = _
    generalize (pre ++ [(tm, kd)]).map dRel = RS at *
    generalize (t.ks.length : Int) = Z at *
    generalize t.ws.map dW = WS at *
    generalize t.ks.map dK = KS at *
    generalize dI l = LL at *
    generalize hVV : (1 : Int) + v = VV at *
    simp -implicitDefEqProofs [body_law_course, hlk, E1, I1, E2, hr, e']
  · refine ⟨rs, runFn_eq rfl ?_, hC⟩
    have e' : forS _ _ RG [.val (dI l), .val (.int 44), .val (.lst (t.ks.map dK)), .val (.lst (t.ws.map dW)), .val (.int (1 + v)), .val (.str k.1), .val (.int q), .own [.tup [.int q, .str k.1]], .un, .un, .un] = _ := e
    show (body_law_course [.val (dI l), .val (.int 44), .val (.lst (t.ks.map dK)), .val (.lst (t.ws.map dW)), .val (.int (1 + v)), .un, .un, .un, .un, .un, .un]).res = _
    generalize rs.map dRel = RS at *
    generalize (t.ks.length : Int) = Z at *
    generalize t.ws.map dW = WS at *
    generalize t.ks.map dK = KS at *
    generalize dI l = LL at *
    generalize hVV : (1 : Int) + v = VV at *
    simp -implicitDefEqProofs [body_law_course, hlk, E1, I1, E2, hr, e']
end G90

namespace G90
open PySem PySem.Spec PyProof.Rows L2 Pu
/-- a loop's outcome, by what holds between its turns -/
theorem forS_spec {g : Gv} {body : Sv} {ds : List D} {ρ : PEnv} {o : Out} (e : forS g body ds ρ = o) (I : Nat → PEnv → Prop) (R : Out → Prop) (h0 : I 0 ρ)
    (hs : ∀ i d ρ, ds[i]? = some d → I i ρ → ∃ ρ1, g d ρ = some ρ1 ∧ ((∃ ρ2, (body ρ1 = .nx ρ2 ∨ body ρ1 = .ct ρ2) ∧ I (i + 1) ρ2) ∨ (∃ o, body ρ1 = o ∧ (match o with | .rt _ => True | .exc _ _ => True | _ => False) ∧ R o))) :
    (∃ ρ', o = .nx ρ' ∧ I ds.length ρ') ∨ R o := by
  subst e
  exact forS_ind R ds I ρ h0 hs
theorem forS_all {g : Gv} {body : Sv} {ds : List D} {ρ : PEnv} {o : Out} (e : forS g body ds ρ = o) (I : Nat → PEnv → Prop) (h0 : I 0 ρ)
    (hs : ∀ i d ρ, ds[i]? = some d → I i ρ → ∃ ρ1 ρ2, g d ρ = some ρ1 ∧ (body ρ1 = .nx ρ2 ∨ body ρ1 = .ct ρ2) ∧ I (i + 1) ρ2) : ∃ ρ', o = .nx ρ' ∧ I ds.length ρ' := by
  subst e
  exact forS_thru ds I ρ h0 hs
theorem runFn_ex {n m : Nat} {s : Sv} {ds : List D} {P : D → Prop} (hl : ds.length = n) (h : ∃ d, (s (ini m ds)).res = .ok d ∧ P d) : ∃ d, runFn n m s ds = .ok d ∧ P d := by
  obtain ⟨d, e, p⟩ := h
  exact ⟨d, runFn_eq hl e, p⟩
/-! ### best_step, heaviest -/
/-- what best_step answers -/
def BStep (t : Tk) (x : Str) (r : Nat) (b : Int) (d : D) : Prop := (b = 0 ∧ d = .non) ∨ ∃ w ∈ t.ws, w.1 = x ∧ w.2.2 ≤ (r : Int) ∧ d = .tup [.int (num t.ks w.2.1), .int w.2.2] ∧ b = val t (r - w.2.2.toNat) (num t.ks w.2.1) ∧ 0 < b
theorem f_bstep {nm x : Str} {t : Tk} {r m : Nat} (o : Ok t) (h : x ∈ t.ks.map (·.1)) (hn : r ≤ m) : ∃ d, Fn_best_step [dT nm t, .str x, .int r, .lst ((rowsN t m).map dI)] = .ok d ∧ BStep t x r (bestC t (rowsN t r) x r) d := by
  refine runFn_ex rfl ?_
  rw [← bestC_stable o x hn]
  have hz := o.w16
  simp -implicitDefEqProofs [ini, body_best_step, f_wf (nm := nm) (by omega : t.ws.length ≤ 1000) h]
  generalize e : forS _ _ _ _ = out
  obtain ⟨ρ', rfl, b, d, y1, y2, y3, y4, rfl, hb, hd⟩ := forS_all e (fun i ρ => ∃ b d y1 y2 y3 y4, ρ = [.val (dT nm t), .val (.str x), .val (.int r), .val (.lst ((rowsN t m).map dI)), .val (.int b), .val d, y1, y2, y3, y4] ∧
    b = ((t.ws.filter fun w => decide (w.1 = x)).take i).foldl (bstep t (rowsN t m) r) 0 ∧ BStep t x r b d) ⟨_, _, _, _, _, _, rfl, rfl, .inl ⟨rfl, rfl⟩⟩ (fun i d ρ e hi => by
      obtain ⟨b, d0, y1, y2, y3, y4, rfl, hb, hd⟩ := hi
      rw [List.getElem?_map] at e
      obtain ⟨w, ew, rfl⟩ := Option.map_eq_some_iff.mp e
      have hwm := List.mem_filter.mp (List.mem_of_getElem? ew)
      have hw := o.ww w hwm.1
      have hwx : w.1 = x := by simpa using hwm.2
      rw [take_snoc ew, List.foldl_append]
      by_cases hdl : w.2.2 ≤ (r : Int)
      · have hval := at2_rows (t := t) (L := r - w.2.2.toNat) (n := m) (i := num t.ks w.2.1) (by omega)
        obtain ⟨rr, e1, e2⟩ := ix2 (f := rowsN t m) (a := (r : Int) - w.2.2) (b := (num t.ks w.2.1 : Int)) (L := r - w.2.2.toNat) (i := num t.ks w.2.1) (rowsN_row t m) (by omega) rfl (by rw [rowsN_len]; omega) (num_lt hw.2.1)
        have hst : ([w].foldl (bstep t (rowsN t m) r) b) = max b (val t (r - w.2.2.toNat) (num t.ks w.2.1)) := by
          show bstep t (rowsN t m) r b w = _
          unfold bstep
          rw [if_pos hdl, hval]
        rw [hval] at e2
        rw [← hb, hst]
        generalize hvv : val t (r - w.2.2.toNat) (num t.ks w.2.1) = v at *
        generalize hnn : num t.ks w.2.1 = nn at *
        have hkn := f_kn (nm := nm) hw.2.1
        rw [hnn] at hkn
        by_cases hgt : b < v
        · refine ⟨_, [.val (dT nm t), .val (.str x), .val (.int r), .val (.lst ((rowsN t m).map dI)), .val (.int v), .val (.tup [.int nn, .int w.2.2]), .val (.str w.2.1), .val (.int w.2.2), .val (.int nn), .val (.int v)], rfl, .inl ?_, _, _, _, _, _, _, rfl, by omega, .inr ⟨w, hwm.1, hwx, hdl, by rw [hnn], by rw [hnn]; exact hvv.symm, ?_⟩⟩
          · generalize D.lst ((rowsN t m).map dI) = FF at *
            generalize dI rr = RR at *
            simp -implicitDefEqProofs [hdl, hkn, e1, e2, hgt]
          · rcases hd with ⟨h0, _⟩ | ⟨_, _, _, _, _, _, h0⟩ <;> omega
        · refine ⟨_, [.val (dT nm t), .val (.str x), .val (.int r), .val (.lst ((rowsN t m).map dI)), .val (.int b), .val d0, .val (.str w.2.1), .val (.int w.2.2), .val (.int nn), .val (.int v)], rfl, .inl ?_, _, _, _, _, _, _, rfl, by omega, hd⟩
          generalize D.lst ((rowsN t m).map dI) = FF at *
          generalize dI rr = RR at *
          simp -implicitDefEqProofs [hdl, hkn, e1, e2, hgt]
      · have hst : ([w].foldl (bstep t (rowsN t m) r) b) = b := by
          show bstep t (rowsN t m) r b w = _
          unfold bstep
          rw [if_neg hdl]
        rw [← hb, hst]
        refine ⟨_, [.val (dT nm t), .val (.str x), .val (.int r), .val (.lst ((rowsN t m).map dI)), .val (.int b), .val d0, .val (.str w.2.1), .val (.int w.2.2), y3, y4], rfl, .inl ?_, _, _, _, _, _, _, rfl, rfl, hd⟩
        generalize D.lst ((rowsN t m).map dI) = FF at *
        simp -implicitDefEqProofs [hdl])
  rw [List.length_map, List.take_length] at hb
  refine ⟨d, rfl, ?_⟩
  unfold bestC
  rw [← hb]
  exact hd
end G90

namespace Dem
theorem work_app (S : Sys) (s e : Nat) (r : Nat × Nat) : ∀ l : List (Nat × Nat), work S s e (l ++ [r]) = work S s e l + (if s ≤ r.1 ∧ r.1 + S.dl r.2 ≤ e then S.c r.2 else 0)
  | [] => by show _ + 0 = 0 + _; rw [Int.add_zero, Int.zero_add]
  | x :: l => by
    show _ + work S s e (l ++ [r]) = _ + work S s e l + _
    rw [work_app S s e r l, Int.add_assoc]
end Dem
namespace G90
open PySem PySem.Spec PyProof.Rows L2 Pu
@[simp] theorem eIdx_ap (a b : Ev) (ρ : PEnv) : eIdx a b ρ = (a ρ).bind fun x => match x with | .lst ds => (b ρ).bind fun y => Res.of (opIndex ds y) | _ => .stuck := rfl
@[simp] theorem opIsN_tup (ds : List D) : opIsN (.tup ds) .non = some (.bl false) := rfl
theorem index_of {ns : List Int} {v : Int} (h : v ∈ ns) : ∃ j : Nat, opIndex (ns.map D.int) (.int v) = some (.int j) ∧ ns[j]? = some v := by
  show ∃ j : Nat, (match ints? (ns.map D.int) with | some ns => (ns.findIdx? (· == v)).map fun j => D.int (j : Nat) | none => none) = _ ∧ _
  rw [ints?_map]
  cases z : ns.findIdx? (· == v) with
  | none =>
    have := List.findIdx?_eq_none_iff.mp z v h
    simp at this
  | some j =>
    obtain ⟨hj, hp, _⟩ := List.findIdx?_eq_some_iff_getElem.mp z
    exact ⟨j, by show Option.map _ (List.findIdx? _ ns) = _; rw [z]; rfl, by rw [List.getElem?_eq_getElem hj]; exact congrArg some (by simpa using hp)⟩
/-- what heaviest answers -/
structure Heavy (t : Tk) (h : Nat) (rs : List (Int × Str)) : Prop where
  wk : Dem.work (sys t) 0 h (rs.map (toR t)) = maxL (row t h)
  ok : ∀ r ∈ rs, 0 ≤ r.1 ∧ r.2 ∈ t.ks.map (·.1) ∧ r.1 ≤ (h : Int)
  len : rs.length ≤ h + 1
theorem ix_kinds {t : Tk} {i : Nat} {k : Str × Int × Int} (e : t.ks[i]? = some k) : opIx (.tup (t.ks.map dK)) (.int (i : Int)) = some (.tup [.str k.1, .int k.2.1, .int k.2.2]) := ix_tup' rfl (by rw [List.getElem?_map, e]; rfl)
theorem own_sys {t : Tk} (o : Ok t) {i L tm : Nat} {k : Str × Int × Int} (e : t.ks[i]? = some k) (htm : tm ≤ L) : own k (L - tm) = if 0 ≤ tm ∧ tm + (sys t).dl i ≤ L then (sys t).c i else 0 := by
  have h3 : (sys t).c i = k.2.1 := by show (t.ks[i]?.map (fun k : Str × Int × Int => k.2.1)).getD 0 = _; rw [e]; rfl
  have h4 : (sys t).dl i = k.2.2.toNat := by show ((t.ks[i]?.map (fun k : Str × Int × Int => k.2.2)).getD 0).toNat = _; rw [e]; rfl
  have := (o.kk k (List.mem_of_getElem? e)).2.2.1
  rw [h3, h4]
  unfold own
  by_cases h : k.2.2 ≤ ((L - tm : Nat) : Int)
  · rw [if_pos h, if_pos ⟨Nat.zero_le _, by omega⟩]
  · rw [if_neg h, if_neg (fun z => h (by omega))]
theorem f_heaviest {nm : Str} {t : Tk} {h : Nat} (o : Ok t) (hn : h ≤ 400) (hpos : 0 < maxL (row t h)) : ∃ rs : List (Int × Str), Fn_heaviest [dT nm t, .int h] = .ok (.lst (rs.map dRel)) ∧ Heavy t h rs := by
  have F1 := f_rows (nm := nm) o (show h ≤ 500 by omega)
  have i1 := ix_row (t := t) (h := h) (L := h) (a := h) (Nat.le_refl _) rfl
  have hmx : fMaxL [dI (row t h)] = some (.int (maxL (row t h))) := fMaxL_map (ne_of_len (row_len t h) o.k1)
  obtain ⟨j, ex1, ej⟩ := index_of (maxL_mem (ne_of_len (row_len t h) o.k1))
  have hj : j < t.ks.length := by have := (List.getElem?_eq_some_iff.mp ej).1; rw [row_len] at this; exact this
  obtain ⟨k, ek⟩ : ∃ k, t.ks[j]? = some k := ⟨_, List.getElem?_eq_getElem hj⟩
  have ejv : val t h j = maxL (row t h) := by rw [row_get hj] at ej; exact Option.some.inj ej
  have k1 := ix_kinds ek
  have bstk : ∀ {L i : Nat} {k : Str × Int × Int}, t.ks[i]? = some k → bst t L i = bestC t (rowsN t L) k.1 L := fun {L i k} e => by unfold bst; rw [e]; rfl
  have wh : ∀ (n : Nat) (rs : List (Int × Str)) (tm i : Nat) (k : Str × Int × Int) (s1 s2 : Pu.Slot), h - tm ≤ n → tm ≤ h → t.ks[i]? = some k → (∀ r ∈ rs, 0 ≤ r.1 ∧ r.2 ∈ t.ks.map (·.1) ∧ r.1 ≤ (tm : Int)) → rs.length ≤ tm + 1 →
      Dem.work (sys t) 0 h (rs.map (toR t)) + bst t (h - tm) i = maxL (row t h) →
      ∃ rs', whileS (tV (eC (.bl true))) (sSeq (sSet 7 (eCall Fn_best_step (aC (eN 0) (aC (e2 opIx (e2 opIx (e1 (fld 0 "kinds") (eN 0)) (eN 4)) (eC (.int 0))) (aC (e2 opSub (eN 1) (eN 5)) (aC (eN 2) aN))))))
    (sSeq (sIf (tV (e2 opIsN (eN 7) (eC .non))) (sFrz 6 (sRet (eN 6))) sNil)
    (sSeq (sTo (gT [4, 8]) (eN 7))
    (sSeq (sAug 5 opAddI (eN 8))
    (sApp 6 (eT (aC (eN 5) (aC (e2 opIx (e2 opIx (e1 (fld 0 "kinds") (eN 0)) (eN 4)) (eC (.int 0))) aN)))))))) (n + 1)
      [.val (dT nm t), .val (.int h), .val (.lst ((rowsN t (h + 1)).map dI)), .val (.int (maxL (row t h))), .val (.int i), .val (.int tm), .own (rs.map dRel), s1, s2] = .rt (.lst (rs'.map dRel)) ∧ Heavy t h rs' := by
    intro n
    induction n with
    | zero =>
      intro rs tm i k s1 s2 h1 h2 e hr hl hw
      have : h - tm = 0 := by omega
      obtain ⟨d, E, hd⟩ := f_bstep (nm := nm) (m := h + 1) o (List.mem_map_of_mem (f := fun x : Str × Int × Int => x.1) (List.mem_of_getElem? e)) (show h - tm ≤ h + 1 by omega)
      have q1 := ix_kinds e
      have hc : ((h - tm : Nat) : Int) = (h : Int) - tm := by omega
      rw [hc] at E
      rw [bstk e] at hw
      rcases hd with ⟨h0, rfl⟩ | ⟨w, hw1, _, hw2, _⟩
      · refine ⟨rs, ?_, by omega, fun r q => ?_, by omega⟩
        · have fk := fld_kinds nm t
          generalize dT nm t = T at *
          generalize rs.map dRel = RS at *
          generalize D.lst ((rowsN t (h + 1)).map dI) = FF at *
          generalize t.ks.map dK = KD at *
          rw [whileS]
          simp -implicitDefEqProofs [fk, q1, E]
        · have := hr r q; exact ⟨this.1, this.2.1, by omega⟩
      · have := (o.ww w hw1).2.2.1; omega
    | succ n ih =>
      intro rs tm i k s1 s2 h1 h2 e hr hl hw
      obtain ⟨d, E, hd⟩ := f_bstep (nm := nm) (m := h + 1) o (List.mem_map_of_mem (f := fun x : Str × Int × Int => x.1) (List.mem_of_getElem? e)) (show h - tm ≤ h + 1 by omega)
      have q1 := ix_kinds e
      have hc : ((h - tm : Nat) : Int) = (h : Int) - tm := by omega
      rw [hc] at E
      rw [bstk e] at hw
      rcases hd with ⟨h0, rfl⟩ | ⟨w, hw1, hwx, hw2, rfl, hb, hbp⟩
      · refine ⟨rs, ?_, by omega, fun r q => ?_, by omega⟩
        · have fk := fld_kinds nm t
          generalize dT nm t = T at *
          generalize rs.map dRel = RS at *
          generalize D.lst ((rowsN t (h + 1)).map dI) = FF at *
          generalize t.ks.map dK = KD at *
          rw [whileS]
          simp -implicitDefEqProofs [fk, q1, E]
        · have := hr r q; exact ⟨this.1, this.2.1, by omega⟩
      · have hwo := o.ww w hw1
        obtain ⟨k', ek', hk'⟩ := num_get hwo.2.1
        have htm : h - tm - w.2.2.toNat = h - (tm + w.2.2.toNat) := by omega
        have v1 := val_at (L := h - (tm + w.2.2.toNat)) ek'
        rw [own_sys o ek' (show tm + w.2.2.toNat ≤ h by omega)] at v1
        obtain ⟨rs', g1, g2⟩ := ih (rs ++ [((tm : Int) + w.2.2, w.2.1)]) (tm + w.2.2.toNat) (num t.ks w.2.1) k' (.val (.tup [.int (num t.ks w.2.1), .int w.2.2])) (.val (.int w.2.2)) (by omega) (by omega) ek'
          (fun r q => by
            rcases List.mem_append.mp q with q | q
            · have := hr r q; exact ⟨this.1, this.2.1, by omega⟩
            · rw [List.mem_singleton.mp q]; exact ⟨by show 0 ≤ (tm : Int) + w.2.2; omega, hwo.2.1, by show (tm : Int) + w.2.2 ≤ _; omega⟩)
          (by rw [List.length_append]; simp; omega)
          (by
            rw [List.map_append]
            show Dem.work (sys t) 0 h (rs.map (toR t) ++ [toR t ((tm : Int) + w.2.2, w.2.1)]) + _ = _
            rw [Dem.work_app]
            show _ + (if 0 ≤ ((tm : Int) + w.2.2).toNat ∧ ((tm : Int) + w.2.2).toNat + (sys t).dl (num t.ks w.2.1) ≤ h then (sys t).c (num t.ks w.2.1) else 0) + _ = _
            rw [show ((tm : Int) + w.2.2).toNat = tm + w.2.2.toNat by omega]
            rw [htm] at hb
            omega)
        refine ⟨rs', ?_, g2⟩
        have q2 := ix_kinds ek'
        rw [hk'] at q2
        have hsz : (rs.map dRel).length < sizeLine := by rw [List.length_map]; exact small1000 (by omega)
        have hcc : (((tm + w.2.2.toNat : Nat)) : Int) = (tm : Int) + w.2.2 := by omega
        rw [List.map_append, hcc] at g1
        have g1' : whileS _ _ (n + 1) [.val (dT nm t), .val (.int h), .val (.lst ((rowsN t (h + 1)).map dI)), .val (.int (maxL (row t h))), .val (.int (num t.ks w.2.1)), .val (.int ((tm : Int) + w.2.2)), .own (rs.map dRel ++ [.tup [.int ((tm : Int) + w.2.2), .str w.2.1]]), .val (.tup [.int (num t.ks w.2.1), .int w.2.2]), .val (.int w.2.2)] = _ := g1
        clear g1 ih
        have fk := fld_kinds nm t
        generalize dT nm t = T at *
        generalize rs.map dRel = RS at *
        generalize rs'.map dRel = RS' at *
        generalize D.lst ((rowsN t (h + 1)).map dI) = FF at *
        generalize t.ks.map dK = KD at *
        generalize num t.ks w.2.1 = nn at *
        rw [whileS]
        simp -implicitDefEqProofs [fk, q1, q2, E, hsz, g1']
  have v0 := val_at (L := h) ek
  rw [← Nat.sub_zero h, own_sys o ek (Nat.zero_le h), Nat.sub_zero] at v0
  obtain ⟨rs, g1, g2⟩ := wh 999 [(0, k.1)] 0 j k .un .un (by omega) (by omega) ek (fun r q => by rw [List.mem_singleton.mp q]; exact ⟨Int.le_refl _, List.mem_map_of_mem (f := fun x : Str × Int × Int => x.1) (List.mem_of_getElem? ek), Int.le_refl _⟩) (by simp) (by
    show Dem.work (sys t) 0 h ([] ++ [toR t (0, k.1)]) + _ = _
    rw [Dem.work_app]
    show 0 + (if 0 ≤ (0 : Int).toNat ∧ (0 : Int).toNat + (sys t).dl (num t.ks k.1) ≤ h then (sys t).c (num t.ks k.1) else 0) + bst t h j = _
    rw [num_of o.nd ek]
    show 0 + (if 0 ≤ 0 ∧ 0 + (sys t).dl j ≤ h then (sys t).c j else 0) + bst t h j = _
    omega)
  refine ⟨rs, runFn_eq rfl ?_, g2⟩
  have g1' : whileS _ _ 1000 [.val (dT nm t), .val (.int h), .val (.lst ((rowsN t (h + 1)).map dI)), .val (.int (maxL (row t h))), .val (.int j), .val (.int 0), .own [.tup [.int 0, .str k.1]], .un, .un] = _ := g1
  clear g1 wh
  have fk := fld_kinds nm t
  have hne : ¬ maxL (row t h) = 0 := by omega
  have i1' : opIx (.lst ((rowsN t (h + 1)).map dI)) (.int (h : Int)) = some (.lst ((row t h).map D.int)) := i1
  have hmx' : fMaxL [.lst ((row t h).map D.int)] = some (.int (maxL (row t h))) := hmx
  clear i1 hmx
  generalize maxL (row t h) = mr at *
  generalize dT nm t = T at *
  generalize (row t h).map D.int = RR at *
  generalize rs.map dRel = RS at *
  generalize D.lst ((rowsN t (h + 1)).map dI) = FF at *
  generalize t.ks.map dK = KD at *
  simp -implicitDefEqProofs [ini, body_heaviest, F1, i1', hmx', hne, ex1, fk, k1, g1']
end G90

/-! earliest deadline first, slot by slot -/
namespace Edf
/-- a job: its due, its release, two numbers, what it still needs -/
structure Jb where
  d : Int
  r : Int
  a : Int
  b : Int
  c : Int
/-- one job in one slot, with u units left -/
def sv1 (n u : Int) (j : Jb) : Jb × Int := if j.r ≤ n ∧ 0 < j.c then ({ j with c := j.c - min u j.c }, u - min u j.c) else (j, u)
def svJ (n : Int) : Int → List Jb → List Jb
  | _, [] => []
  | u, j :: l => (sv1 n u j).1 :: svJ n (sv1 n u j).2 l
def svU (n : Int) : Int → List Jb → Int
  | u, [] => u
  | u, j :: l => svU n (sv1 n u j).2 l
theorem svJ_len (n : Int) : ∀ (u : Int) (l : List Jb), (svJ n u l).length = l.length
  | _, [] => rfl
  | u, j :: l => congrArg Nat.succ (svJ_len n _ l)
theorem svJ_app (n : Int) : ∀ (u : Int) (l m : List Jb), svJ n u (l ++ m) = svJ n u l ++ svJ n (svU n u l) m
  | _, [], _ => rfl
  | u, j :: l, m => congrArg ((sv1 n u j).1 :: ·) (svJ_app n _ l m)
theorem svU_app (n : Int) : ∀ (u : Int) (l m : List Jb), svU n u (l ++ m) = svU n (svU n u l) m
  | _, [], _ => rfl
  | u, j :: l, m => svU_app n _ l m
/-- from slot to slot -/
def st (cap : Nat → Int) (S : List Jb) : Nat → List Jb
  | 0 => S
  | n + 1 => svJ n (cap n) (st cap S n)
def late (n : Int) (S : List Jb) : Prop := ∃ j ∈ S, j.d ≤ n ∧ 0 < j.c
/-- what is left of the jobs that p tells -/
def left (p : Jb → Bool) : List Jb → Int
  | [] => 0
  | j :: l => (if p j = true then j.c else 0) + left p l
theorem left_nn {p : Jb → Bool} : ∀ {l : List Jb}, (∀ j ∈ l, 0 ≤ j.c) → 0 ≤ left p l
  | [], _ => Int.le_refl _
  | j :: l, h => by
    have h1 := h j List.mem_cons_self
    have h2 := left_nn (p := p) (l := l) fun x hx => h x (List.mem_cons_of_mem _ hx)
    show 0 ≤ (if p j = true then j.c else 0) + left p l
    split <;> omega
theorem left_ge {p : Jb → Bool} : ∀ {l : List Jb} {j : Jb}, (∀ j ∈ l, 0 ≤ j.c) → j ∈ l → p j = true → j.c ≤ left p l
  | x :: l, j, h, hj, hp => by
    have hr : ∀ j ∈ l, 0 ≤ j.c := fun x hx => h x (List.mem_cons_of_mem _ hx)
    show j.c ≤ (if p x = true then x.c else 0) + left p l
    rcases List.mem_cons.mp hj with rfl | hj
    · have := left_nn (p := p) hr
      rw [if_pos hp]; omega
    · have := left_ge hr hj hp
      have := h x List.mem_cons_self
      split <;> omega
theorem left_congr {p q : Jb → Bool} : ∀ {l : List Jb}, (∀ j ∈ l, p j = q j) → left p l = left q l
  | [], _ => rfl
  | j :: l, h => by
    show (if p j = true then j.c else 0) + left p l = (if q j = true then j.c else 0) + left q l
    rw [h j List.mem_cons_self, left_congr fun x hx => h x (List.mem_cons_of_mem _ hx)]
theorem left_none {p : Jb → Bool} : ∀ {l : List Jb}, (∀ j ∈ l, p j = false) → left p l = 0
  | [], _ => rfl
  | j :: l, h => by
    show (if p j = true then j.c else 0) + left p l = 0
    rw [h j List.mem_cons_self, left_none fun x hx => h x (List.mem_cons_of_mem _ hx)]; rfl
theorem left_app {p : Jb → Bool} : ∀ (l m : List Jb), left p (l ++ m) = left p l + left p m
  | [], m => by show left p m = 0 + _; omega
  | j :: l, m => by
    show (if p j = true then j.c else 0) + left p (l ++ m) = (if p j = true then j.c else 0) + left p l + left p m
    rw [left_app l m]; omega
theorem left_perm {p : Jb → Bool} {l m : List Jb} (h : l.Perm m) : left p l = left p m := by
  induction h with
  | nil => rfl
  | cons x _ ih => exact congrArg ((if p x = true then x.c else 0) + ·) ih
  | swap x y l => show (if p y = true then y.c else 0) + ((if p x = true then x.c else 0) + left p l) = (if p x = true then x.c else 0) + ((if p y = true then y.c else 0) + left p l); omega
  | trans _ _ h1 h2 => rw [h1, h2]
/-- the frame of a job: all but what it needs -/
def fr (j : Jb) : Int × Int × Int × Int := (j.d, j.r, j.a, j.b)
theorem sv1_fr (n u : Int) (j : Jb) : fr (sv1 n u j).1 = fr j := by unfold sv1; split <;> rfl
theorem svJ_fr (n : Int) : ∀ (u : Int) (l : List Jb), (svJ n u l).map fr = l.map fr
  | _, [] => rfl
  | u, j :: l => by
    show fr _ :: (svJ n _ l).map fr = fr j :: l.map fr
    rw [sv1_fr, svJ_fr n _ l]
theorem st_fr (cap : Nat → Int) (S : List Jb) : ∀ n, (st cap S n).map fr = S.map fr
  | 0 => rfl
  | n + 1 => by show (svJ n (cap n) (st cap S n)).map fr = _; rw [svJ_fr, st_fr cap S n]
theorem sv1_nn {n u : Int} {j : Jb} (hu : 0 ≤ u) (hc : 0 ≤ j.c) : 0 ≤ (sv1 n u j).1.c ∧ 0 ≤ (sv1 n u j).2 := by
  unfold sv1
  split
  · exact ⟨by show 0 ≤ j.c - min u j.c; omega, by show 0 ≤ u - min u j.c; omega⟩
  · exact ⟨hc, hu⟩
theorem svJ_nn {n : Int} : ∀ {u : Int} {l : List Jb}, 0 ≤ u → (∀ j ∈ l, 0 ≤ j.c) → ∀ j ∈ svJ n u l, 0 ≤ j.c
  | _, [], _, _ => fun j h => by cases h
  | u, x :: l, hu, h => fun j hj => by
    have h1 := sv1_nn (n := n) hu (h x List.mem_cons_self)
    rcases List.mem_cons.mp hj with rfl | hj
    · exact h1.1
    · exact svJ_nn h1.2 (fun y hy => h y (List.mem_cons_of_mem _ hy)) j hj
theorem st_nn {cap : Nat → Int} {S : List Jb} (hc : ∀ n, 0 ≤ cap n) (h : ∀ j ∈ S, 0 ≤ j.c) : ∀ n, ∀ j ∈ st cap S n, 0 ≤ j.c
  | 0 => h
  | n + 1 => svJ_nn (hc n) (st_nn hc h n)
/-- sorted by the dues -/
def ByDue (S : List Jb) : Prop := S.Pairwise fun x y => x.d ≤ y.d
theorem byDue_fr {S : List Jb} : ByDue S ↔ (S.map fr).Pairwise fun x y => x.1 ≤ y.1 := by
  unfold ByDue
  rw [List.pairwise_map]; rfl
theorem st_byDue {cap : Nat → Int} {S : List Jb} (h : ByDue S) (n : Nat) : ByDue (st cap S n) := by
  rw [byDue_fr, st_fr, ← byDue_fr]; exact h
/-- one slot: of the jobs due by e and released by n the units take what they can -/
theorem serve (n e : Int) : ∀ (u : Int) (l : List Jb), 0 ≤ u → (∀ j ∈ l, 0 ≤ j.c) → ByDue l →
    left (fun j => decide (j.d ≤ e) && decide (j.r ≤ n)) (svJ n u l) = max 0 (left (fun j => decide (j.d ≤ e) && decide (j.r ≤ n)) l - u)
  | u, [], hu, _, _ => by show (0 : Int) = max 0 (0 - u); omega
  | u, j :: l, hu, hc, hs => by
    have hc' : ∀ j ∈ l, 0 ≤ j.c := fun x hx => hc x (List.mem_cons_of_mem _ hx)
    have hj := hc j List.mem_cons_self
    obtain ⟨hs1, hs2⟩ := List.pairwise_cons.mp hs
    have h1 := sv1_nn (n := n) hu hj
    have ih := serve n e (sv1 n u j).2 l h1.2 hc' hs2
    have nn := left_nn (p := fun j => decide (j.d ≤ e) && decide (j.r ≤ n)) hc'
    show (if (decide ((sv1 n u j).1.d ≤ e) && decide ((sv1 n u j).1.r ≤ n)) = true then (sv1 n u j).1.c else 0) + left _ (svJ n (sv1 n u j).2 l) = max 0 ((if (decide (j.d ≤ e) && decide (j.r ≤ n)) = true then j.c else 0) + left _ l - u)
    have hf := sv1_fr n u j
    have hd : (sv1 n u j).1.d = j.d := congrArg (·.1) hf
    have hr : (sv1 n u j).1.r = j.r := congrArg (·.2.1) hf
    rw [hd, hr, ih]
    by_cases hde : j.d ≤ e
    · by_cases hrn : j.r ≤ n
      · have : (decide (j.d ≤ e) && decide (j.r ≤ n)) = true := by simp [hde, hrn]
        rw [if_pos this, if_pos this]
        by_cases hp : 0 < j.c
        · have e1 : sv1 n u j = ({ j with c := j.c - min u j.c }, u - min u j.c) := by unfold sv1; rw [if_pos ⟨hrn, hp⟩]
          rw [e1]
          show j.c - min u j.c + max 0 (left _ l - (u - min u j.c)) = _
          omega
        · have e1 : sv1 n u j = (j, u) := by unfold sv1; rw [if_neg (fun z => hp z.2)]
          rw [e1]
          show j.c + max 0 (left _ l - u) = _
          omega
      · have : ¬ (decide (j.d ≤ e) && decide (j.r ≤ n)) = true := by simp [hrn]
        rw [if_neg this, if_neg this]
        have e1 : sv1 n u j = (j, u) := by unfold sv1; rw [if_neg (fun z => hrn z.1)]
        rw [e1]
        show 0 + max 0 (left _ l - u) = _
        omega
    · have : ¬ (decide (j.d ≤ e) && decide (j.r ≤ n)) = true := by simp [hde]
      rw [if_neg this, if_neg this]
      have h0 : left (fun j => decide (j.d ≤ e) && decide (j.r ≤ n)) l = 0 := left_none fun x hx => by
        have := hs1 x hx
        simp; omega
      rw [h0]
      omega
theorem serve_ge (n : Int) (p : Jb → Bool) (hp : ∀ x y : Jb, fr x = fr y → p x = p y) : ∀ (u : Int) (l : List Jb), 0 ≤ u → (∀ j ∈ l, 0 ≤ j.c) → left p l - u ≤ left p (svJ n u l)
  | u, [], hu, _ => by show 0 - u ≤ 0; omega
  | u, j :: l, hu, hc => by
    have hj := hc j List.mem_cons_self
    have h1 := sv1_nn (n := n) hu hj
    have ih := serve_ge n p hp (sv1 n u j).2 l h1.2 fun x hx => hc x (List.mem_cons_of_mem _ hx)
    show (if p j = true then j.c else 0) + left p l - u ≤ (if p (sv1 n u j).1 = true then (sv1 n u j).1.c else 0) + left p (svJ n (sv1 n u j).2 l)
    rw [hp _ j (sv1_fr n u j)]
    have e1 : j.c - (sv1 n u j).1.c = u - (sv1 n u j).2 ∧ (sv1 n u j).1.c ≤ j.c := by
      unfold sv1
      split
      · exact ⟨by show j.c - (j.c - min u j.c) = u - (u - min u j.c); omega, by show j.c - min u j.c ≤ j.c; omega⟩
      · exact ⟨by show j.c - j.c = u - u; omega, Int.le_refl _⟩
    split <;> omega
/-- jobs that are not yet released keep what they need -/
theorem svJ_keep {n e : Int} (f : Jb → Bool) (hf : ∀ x y : Jb, fr x = fr y → f x = f y) (hn : ∀ j, f j = true → ¬ j.r ≤ n) : ∀ (u : Int) (l : List Jb), left f (svJ n u l) = left f l
  | _, [] => rfl
  | u, j :: l => by
    show (if f (sv1 n u j).1 = true then (sv1 n u j).1.c else 0) + left f (svJ n (sv1 n u j).2 l) = (if f j = true then j.c else 0) + left f l
    rw [svJ_keep (e := e) f hf hn _ l, hf _ j (sv1_fr n u j)]
    by_cases h : f j = true
    · have := hn j h
      have e1 : sv1 n u j = (j, u) := by unfold sv1; rw [if_neg (fun z => this z.1)]
      rw [e1]
    · rw [if_neg h, if_neg h]
/-- the capacity of the slots from s on -/
def sup (cap : Nat → Int) (s : Nat) : Nat → Int
  | 0 => 0
  | n + 1 => sup cap s n + cap (s + n)
/-- the work within a window -/
def wrk (S : List Jb) (s e : Int) : Int := left (fun j => decide (s ≤ j.r) && decide (j.d ≤ e)) S
theorem left_split {p q r : Jb → Bool} : ∀ {l : List Jb}, (∀ j ∈ l, (p j = true ∧ q j = true ∧ r j = false) ∨ (p j = true ∧ q j = false ∧ r j = true) ∨ (p j = false ∧ q j = false ∧ r j = false)) → left p l = left q l + left r l
  | [], _ => rfl
  | j :: l, h => by
    have ih := left_split (l := l) fun x hx => h x (List.mem_cons_of_mem _ hx)
    show (if p j = true then j.c else 0) + left p l = (if q j = true then j.c else 0) + left q l + ((if r j = true then j.c else 0) + left r l)
    rcases h j List.mem_cons_self with ⟨a, b, c⟩ | ⟨a, b, c⟩ | ⟨a, b, c⟩ <;> simp only [a, b, c, if_true, Bool.false_eq_true, if_false] <;> omega
/-- jobs released at s or later, before n, due by e -/
def win (s n e : Int) (j : Jb) : Bool := decide (s ≤ j.r) && decide (j.r < n) && decide (j.d ≤ e)
theorem win_fr (s n e : Int) (x y : Jb) (h : fr x = fr y) : win s n e x = win s n e y := by
  have h1 : x.d = y.d := congrArg (·.1) h
  have h2 : x.r = y.r := congrArg (·.2.1) h
  unfold win; rw [h1, h2]
variable {cap : Nat → Int} {S : List Jb}
/-- at slot n, of the jobs released before and due by e, no more is left than a window's work less its capacity -/
theorem lindley (hcap : ∀ n, 0 ≤ cap n) (hc : ∀ j ∈ S, 0 ≤ j.c) (hr : ∀ j ∈ S, 0 ≤ j.r) (hs : ByDue S) (e : Int) : ∀ n : Nat, ∃ s : Nat, s ≤ n ∧ left (win 0 n e) (st cap S n) ≤ left (win s n e) S - sup cap s (n - s)
  | 0 => by
    refine ⟨0, Nat.le_refl _, ?_⟩
    show left _ S ≤ left _ S - 0
    rw [Int.sub_zero]; exact Int.le_refl _
  | n + 1 => by
    obtain ⟨s, hsn, ih⟩ := lindley hcap hc hr hs e n
    have sv := serve (n : Int) e (cap n) (st cap S n) (hcap n) (st_nn hcap hc n) (st_byDue hs n)
    have rn : ∀ j ∈ st cap S n, 0 ≤ j.r := fun j hj => by
      have : fr j ∈ (st cap S n).map fr := List.mem_map_of_mem hj
      rw [st_fr] at this
      obtain ⟨x, hx, e⟩ := List.mem_map.mp this
      have e2 : x.r = j.r := congrArg (·.2.1) e
      rw [← e2]; exact hr x hx
    have rn1 : ∀ j ∈ svJ (n : Int) (cap n) (st cap S n), 0 ≤ j.r := fun j hj => by
      have : fr j ∈ (svJ (n : Int) (cap n) (st cap S n)).map fr := List.mem_map_of_mem hj
      rw [svJ_fr] at this
      obtain ⟨x, hx, e⟩ := List.mem_map.mp this
      have e2 : x.r = j.r := congrArg (·.2.1) e
      rw [← e2]; exact rn x hx
    have l1 : left (win 0 (n + 1 : Nat) e) (st cap S (n + 1)) = max 0 (left (fun j => decide (j.d ≤ e) && decide (j.r ≤ n)) (st cap S n) - cap n) := by
      rw [← sv]
      refine left_congr fun j hj => ?_
      have := rn1 j hj
      unfold win
      rw [Bool.eq_iff_iff]
      simp only [Bool.and_eq_true, decide_eq_true_eq]
      omega
    -- what is released at n is whole
    have keep : ∀ m : Nat, m ≤ n → left (win n (n + 1 : Nat) e) (st cap S m) = left (win n (n + 1 : Nat) e) S := by
      intro m
      induction m with
      | zero => intro _; rfl
      | succ m ihm =>
        intro hm
        rw [← ihm (by omega)]
        refine svJ_keep (e := e) _ (win_fr _ _ _) (fun j hj => ?_) _ _
        unfold win at hj
        simp only [Bool.and_eq_true, decide_eq_true_eq] at hj
        omega
    have l2 : left (fun j => decide (j.d ≤ e) && decide (j.r ≤ n)) (st cap S n) = left (win 0 n e) (st cap S n) + left (win n (n + 1 : Nat) e) S := by
      rw [← keep n (Nat.le_refl _)]
      refine left_split fun j hj => ?_
      have := rn j hj
      unfold win
      by_cases h1 : j.d ≤ e
      · by_cases h2 : j.r < n
        · left; simp; omega
        · by_cases h3 : j.r ≤ n
          · right; left; simp; omega
          · right; right; simp; omega
      · right; right; simp [h1]
    rw [l1, l2]
    by_cases hz : left (win 0 n e) (st cap S n) + left (win n (n + 1 : Nat) e) S - cap n ≤ 0
    · refine ⟨n + 1, Nat.le_refl _, ?_⟩
      rw [Nat.sub_self]
      have : left (win (n + 1 : Nat) (n + 1 : Nat) e) S = 0 := left_none fun j hj => by
        unfold win
        simp; omega
      rw [this]
      show _ ≤ (0 : Int) - 0
      omega
    · refine ⟨s, by omega, ?_⟩
      have e1 : n + 1 - s = (n - s) + 1 := by omega
      have e2 : sup cap s (n + 1 - s) = sup cap s (n - s) + cap n := by
        rw [e1]
        show sup cap s (n - s) + cap (s + (n - s)) = _
        rw [show s + (n - s) = n by omega]
      have l3 : left (win s (n + 1 : Nat) e) S = left (win s n e) S + left (win n (n + 1 : Nat) e) S := by
        refine left_split fun j hj => ?_
        unfold win
        by_cases h1 : j.d ≤ e
        · by_cases h0 : (s : Int) ≤ j.r
          · by_cases h2 : j.r < n
            · left; simp; omega
            · by_cases h3 : j.r < (n : Int) + 1
              · right; left; simp; omega
              · right; right; simp; omega
          · right; right; simp; omega
        · right; right; simp [h1]
      rw [e2, l3]
      omega
/-- if each window has enough capacity, no job is late -/
theorem never (hcap : ∀ n, 0 ≤ cap n) (hc : ∀ j ∈ S, 0 ≤ j.c) (hr : ∀ j ∈ S, 0 ≤ j.r ∧ j.r < j.d) (hs : ByDue S) (hw : ∀ s n : Nat, wrk S s (s + n : Nat) ≤ sup cap s n) (n : Nat) : ¬ late n (st cap S n) := by
  rintro ⟨j, hj, hd, hp⟩
  obtain ⟨s, hsn, h⟩ := lindley hcap hc (fun j hj => (hr j hj).1) hs n n
  have hfr : fr j ∈ S.map fr := by rw [← st_fr cap S n]; exact List.mem_map_of_mem hj
  obtain ⟨x, hx, e⟩ := List.mem_map.mp hfr
  have e1 : x.d = j.d := congrArg (·.1) e
  have e2 : x.r = j.r := congrArg (·.2.1) e
  have hx' := hr x hx
  have h1 : j.c ≤ left (win 0 n n) (st cap S n) := left_ge (st_nn hcap hc n) hj (by unfold win; simp; omega)
  have h2 : left (win s n n) S = wrk S s n := left_congr fun y hy => by
    have := hr y hy
    unfold win
    rw [Bool.eq_iff_iff]
    simp only [Bool.and_eq_true, decide_eq_true_eq]
    omega
  have h3 := hw s (n - s)
  rw [show s + (n - s) = n by omega] at h3
  rw [h2] at h
  omega
/-- too much work by L: some job is late at L -/
theorem over (hcap : ∀ n, 0 ≤ cap n) (hc : ∀ j ∈ S, 0 ≤ j.c) (L : Nat) (hw : sup cap 0 L < left (fun j => decide (j.d ≤ L)) S) : late L (st cap S L) := by
  have hp : ∀ x y : Jb, fr x = fr y → decide (x.d ≤ (L : Int)) = decide (y.d ≤ (L : Int)) := fun x y h => by rw [show x.d = y.d from congrArg (·.1) h]
  have key : ∀ n : Nat, left (fun j => decide (j.d ≤ L)) S - sup cap 0 n ≤ left (fun j => decide (j.d ≤ L)) (st cap S n) := by
    intro n
    induction n with
    | zero => show _ - 0 ≤ left _ S; omega
    | succ n ih =>
      have := serve_ge (n : Int) (fun j => decide (j.d ≤ (L : Int))) hp (cap n) (st cap S n) (hcap n) (st_nn hcap hc n)
      show _ - (sup cap 0 n + cap (0 + n)) ≤ left _ (svJ n (cap n) (st cap S n))
      rw [Nat.zero_add]
      omega
  have h := key L
  have pos : 0 < left (fun j => decide (j.d ≤ L)) (st cap S L) := by omega
  have ex : ∀ l : List Jb, 0 < left (fun j => decide (j.d ≤ (L : Int))) l → ∃ j ∈ l, j.d ≤ L ∧ 0 < j.c := by
    intro l
    induction l with
    | nil => intro h; exact absurd h (by show ¬ (0 : Int) < 0; omega)
    | cons x l ih =>
      intro h
      have h' : 0 < (if decide (x.d ≤ (L : Int)) = true then x.c else 0) + left (fun j => decide (j.d ≤ (L : Int))) l := h
      by_cases hx : x.d ≤ (L : Int)
      · by_cases hc : 0 < x.c
        · exact ⟨x, List.mem_cons_self, hx, hc⟩
        · rw [if_pos (by simpa using hx)] at h'
          obtain ⟨j, hj, q⟩ := ih (by omega)
          exact ⟨j, List.mem_cons_of_mem _ hj, q⟩
      · rw [if_neg (by simpa using hx)] at h'
        obtain ⟨j, hj, q⟩ := ih (by omega)
        exact ⟨j, List.mem_cons_of_mem _ hj, q⟩
  exact ex _ pos
end Edf

/-! the table that a task fills: each window has enough -/
namespace Edf
structure Fill (U B pt : Nat → Int) (L : Nat) (mc cost : Int) : Prop where
  l1 : 1 ≤ L
  b0 : B 0 = 0
  le : ∀ n p, 1 ≤ p → p ≤ n → n ≤ L → B (n - p) + U p ≤ B n
  ex : ∀ n, 1 ≤ n → n ≤ L → ∃ p, 1 ≤ p ∧ p ≤ n ∧ B n = B (n - p) + U p
  u0 : U 0 = 0
  un : ∀ n, 0 ≤ U n
  um : ∀ n : Nat, U n ≤ mc * n
  mn : 0 ≤ mc
  c0 : 0 ≤ cost
  cb : B L ≤ cost
  p1 : ∀ j, j + 1 < L → pt j = B (j + 1) - B j
  p2 : pt (L - 1) = U L + cost - B (L - 1)
  p3 : pt L = 2 * mc * ((L : Int) + 1) + cost
variable {U B pt : Nat → Int} {L : Nat} {mc cost : Int}
namespace Fill
theorem sup_add (f : Fill U B pt L mc cost) : ∀ b a, a + b ≤ L → B a + B b ≤ B (a + b) := by
  intro b
  induction b using Nat.strongRecOn with
  | _ b ih =>
    intro a h
    by_cases h0 : b = 0
    · subst h0; rw [f.b0, Nat.add_zero]; omega
    · obtain ⟨p, p1, p2, e⟩ := f.ex b (by omega) (by omega)
      have i1 := ih (b - p) (by omega) a (by omega)
      have i2 := f.le (a + b) p p1 (by omega) h
      rw [show a + b - p = a + (b - p) by omega] at i2
      omega
theorem bU (f : Fill U B pt L mc cost) {n : Nat} (h : n ≤ L) : U n ≤ B n := by
  by_cases h0 : n = 0
  · subst h0; rw [f.b0, f.u0]; omega
  · have := f.le n n (by omega) (Nat.le_refl _) h
    rw [Nat.sub_self, f.b0] at this
    omega
theorem bn (f : Fill U B pt L mc cost) {n : Nat} (h : n ≤ L) : 0 ≤ B n := by have := f.bU h; have := f.un n; omega
theorem bmono (f : Fill U B pt L mc cost) {a b : Nat} (h : a ≤ b) (hb : b ≤ L) : B a ≤ B b := by
  have := f.sup_add (b - a) a (by omega)
  rw [show a + (b - a) = b by omega] at this
  have := f.bn (n := b - a) (by omega)
  omega
theorem pn (f : Fill U B pt L mc cost) {j : Nat} (h : j ≤ L) : 0 ≤ pt j := by
  have l1 := f.l1
  by_cases h1 : j + 1 < L
  · rw [f.p1 j h1]
    have := f.bmono (show j ≤ j + 1 by omega) (by omega)
    omega
  · by_cases h2 : j = L
    · subst h2
      rw [f.p3]
      have := f.c0
      have := Int.mul_nonneg (Int.mul_nonneg (show (0 : Int) ≤ 2 by omega) f.mn) (show (0 : Int) ≤ (j : Int) + 1 by omega)
      omega
    · have : j = L - 1 := by omega
      subst this
      rw [f.p2]
      have h3 := f.bmono (show L - 1 ≤ L by omega) (Nat.le_refl _)
      have := f.cb
      have := f.un L
      omega
/-- the capacity of the slots -/
def cap (pt : Nat → Int) (L : Nat) (n : Nat) : Int := pt (n % (L + 1))
theorem capn (f : Fill U B pt L mc cost) (n : Nat) : 0 ≤ cap pt L n := f.pn (Nat.le_of_lt_succ (Nat.mod_lt _ (Nat.succ_pos _)))
/-- within one turn of the table -/
theorem inner (f : Fill U B pt L mc cost) {s : Nat} : ∀ n, s % (L + 1) + n ≤ L → sup (cap pt L) s n = (if s % (L + 1) + n = L ∧ 1 ≤ n then U L + cost else B (s % (L + 1) + n)) - B (s % (L + 1))
  | 0, h => by
    have : ¬ (s % (L + 1) + 0 = L ∧ 1 ≤ 0) := fun z => by omega
    rw [if_neg this]
    show (0 : Int) = _
    rw [Nat.add_zero]; omega
  | n + 1, h => by
    have ih := inner f (s := s) n (by omega)
    have l1 := f.l1
    show sup (cap pt L) s n + cap pt L (s + n) = _
    have hm : (s + n) % (L + 1) = s % (L + 1) + n := by
      rw [Nat.add_mod, Nat.mod_eq_of_lt (show n < L + 1 by omega), Nat.mod_eq_of_lt (by omega)]
    have hc : cap pt L (s + n) = pt (s % (L + 1) + n) := by unfold cap; rw [hm]
    rw [hc, ih, if_neg (show ¬ (s % (L + 1) + n = L ∧ 1 ≤ n) by omega)]
    generalize s % (L + 1) = a at *
    by_cases hl : a + (n + 1) = L
    · rw [if_pos ⟨hl, by omega⟩]
      have : a + n = L - 1 := by omega
      rw [this, f.p2]
      omega
    · rw [if_neg (fun z => hl z.1), f.p1 (a + n) (by omega)]
      rw [show a + (n + 1) = a + n + 1 by omega]
      omega
/-- each turn of the table brings its last slot -/
theorem turns (f : Fill U B pt L mc cost) {s : Nat} : ∀ n, (((s % (L + 1) + n) / (L + 1) : Nat) : Int) * (2 * mc * ((L : Int) + 1) + cost) ≤ sup (cap pt L) s n
  | 0 => by
    rw [Nat.add_zero, Nat.div_eq_of_lt (Nat.mod_lt _ (Nat.succ_pos _))]
    show ((0 : Nat) : Int) * _ ≤ 0
    rw [Int.natCast_zero, Int.zero_mul]; exact Int.le_refl _
  | n + 1 => by
    have ih := turns f (s := s) n
    have hn := f.capn (s + n)
    show _ ≤ sup (cap pt L) s n + cap pt L (s + n)
    have hm : (s + n) % (L + 1) = (s % (L + 1) + n) % (L + 1) := (Nat.mod_add_mod s (L + 1) n).symm
    rw [show s % (L + 1) + (n + 1) = s % (L + 1) + n + 1 by omega]
    by_cases hl : (s + n) % (L + 1) = L
    · have hc : cap pt L (s + n) = 2 * mc * ((L : Int) + 1) + cost := by unfold cap; rw [hl, f.p3]
      have hq : (s % (L + 1) + n + 1) / (L + 1) = (s % (L + 1) + n) / (L + 1) + 1 := by
        rw [Nat.succ_div, if_pos]
        rw [hm] at hl
        rw [Nat.dvd_iff_mod_eq_zero, Nat.add_mod, hl]
        by_cases h0 : L = 0
        · have := f.l1; omega
        · rw [Nat.mod_eq_of_lt (show 1 < L + 1 by have := f.l1; omega), Nat.mod_self]
      rw [hq, hc, Int.natCast_add, Int.add_mul]
      show _ + ((1 : Nat) : Int) * _ ≤ _
      rw [show ((1 : Nat) : Int) = 1 from rfl, Int.one_mul]
      omega
    · have hq : (s % (L + 1) + n + 1) / (L + 1) = (s % (L + 1) + n) / (L + 1) := by
        rw [Nat.succ_div, if_neg, Nat.add_zero]
        intro hd
        apply hl
        rw [hm]
        have h1 := Nat.mod_lt (s % (L + 1) + n) (Nat.succ_pos L)
        have h2 := Nat.mod_eq_zero_of_dvd hd
        rw [Nat.add_mod] at h2
        have h3 : 1 % (L + 1) = 1 := Nat.mod_eq_of_lt (by have := f.l1; omega)
        rw [h3] at h2
        by_cases h4 : (s % (L + 1) + n) % (L + 1) + 1 < L + 1
        · rw [Nat.mod_eq_of_lt h4] at h2; omega
        · have : (s % (L + 1) + n) % (L + 1) < L + 1 := h1
          omega
      rw [hq]
      omega
/-- each window has enough for the task and, if it is long enough, for the job -/
theorem enough (f : Fill U B pt L mc cost) (s n : Nat) : U n + (if L ≤ n then cost else 0) ≤ sup (cap pt L) s n := by
  have l1 := f.l1
  by_cases h : s % (L + 1) + n ≤ L
  · rw [f.inner n h]
    generalize s % (L + 1) = a at *
    by_cases hl : a + n = L ∧ 1 ≤ n
    · rw [if_pos hl]
      have c1 := f.cb
      by_cases ha : a = 0
      · subst ha
        have : n = L := by omega
        subst this
        rw [if_pos (Nat.le_refl _), f.b0]; omega
      · rw [if_neg (show ¬ L ≤ n by omega)]
        have h1 := f.sup_add n a (by omega)
        rw [hl.1] at h1
        have h2 := f.bU (n := n) (by omega)
        have := f.un L
        omega
    · rw [if_neg hl]
      by_cases hn : n = 0
      · subst hn
        rw [if_neg (show ¬ L ≤ 0 by omega), f.u0, Nat.add_zero]; omega
      · rw [if_neg (show ¬ L ≤ n by omega)]
        have h1 := f.sup_add n a h
        have h2 := f.bU (n := n) (by omega)
        omega
  · have ht := f.turns (s := s) n
    have hu := f.um n
    have ha := Nat.mod_lt s (Nat.succ_pos L)
    have hk := Nat.div_add_mod (s % (L + 1) + n) (L + 1)
    have hkl := Nat.mod_lt (s % (L + 1) + n) (Nat.succ_pos L)
    have hk1 : 1 ≤ (s % (L + 1) + n) / (L + 1) := (Nat.one_le_div_iff (Nat.succ_pos L)).mpr (by show L + 1 ≤ _; omega)
    generalize s % (L + 1) = a at *
    generalize (a + n) / (L + 1) = k at *
    generalize (a + n) % (L + 1) = m at *
    -- n ≤ 2 k (L + 1)
    have hn : n ≤ 2 * (k * (L + 1)) := by
      have e : (L + 1) * k = k * (L + 1) := Nat.mul_comm _ _
      have : L + 1 ≤ k * (L + 1) := Nat.le_mul_of_pos_left _ hk1
      have hs : m < L.succ := hkl
      omega
    have hn' : (n : Int) ≤ 2 * ((k : Int) * ((L : Int) + 1)) := by
      have : ((n : Nat) : Int) ≤ ((2 * (k * (L + 1)) : Nat) : Int) := Int.ofNat_le.mpr hn
      simpa using this
    have h1 : mc * (n : Int) ≤ mc * (2 * ((k : Int) * ((L : Int) + 1))) := Int.mul_le_mul_of_nonneg_left hn' f.mn
    have h2 : cost ≤ (k : Int) * cost := by
      have := Int.mul_le_mul_of_nonneg_right (show (1 : Int) ≤ (k : Int) by omega) f.c0
      rw [Int.one_mul] at this
      exact this
    have h3 : (k : Int) * (2 * mc * ((L : Int) + 1) + cost) = mc * (2 * ((k : Int) * ((L : Int) + 1))) + (k : Int) * cost := by
      rw [Int.mul_add]
      congr 1
      rw [Int.mul_comm 2 mc, Int.mul_assoc mc 2, Int.mul_left_comm (k : Int) mc, Int.mul_left_comm (k : Int) 2]
    have c0 := f.c0
    split <;> omega
theorem whole (f : Fill U B pt L mc cost) : sup (cap pt L) 0 L = U L + cost := by
  have h := f.inner (s := 0) L (by rw [Nat.zero_mod]; omega)
  rw [Nat.zero_mod, if_pos ⟨by omega, f.l1⟩, f.b0] at h
  omega
end Fill
end Edf

namespace Pu
open PySem PySem.Spec PyProof.Rows L2
/-- a loop over a list of lists that runs through -/
theorem for2S_thru {i t : Nat} {js : List Nat} {s : Sv} (I : Nat → PEnv → Prop) (hs : ∀ k ρ, k ≤ js.length → I k ρ → ρ[i]? = some (.own2 js) ∧ ∀ h : k < js.length, ∃ ρ2, (s (ρ.set t (.al js[k])) = .nx ρ2 ∨ s (ρ.set t (.al js[k])) = .ct ρ2) ∧ I (k + 1) ρ2) :
    ∀ (n k : Nat) (ρ : PEnv), js.length - k = n → k ≤ js.length → I k ρ → ∃ ρ', for2S i t js s (js.drop k) ρ = .nx ρ' ∧ I js.length ρ' := by
  intro n
  induction n with
  | zero =>
    intro k ρ hn hk h
    have : k = js.length := by omega
    subst this
    refine ⟨ρ, ?_, h⟩
    rw [List.drop_length]
    unfold for2S
    rw [(hs _ ρ hk h).1]
    simp
  | succ n ih =>
    intro k ρ hn hk h
    have hlt : k < js.length := by omega
    obtain ⟨e1, h2⟩ := hs k ρ hk h
    obtain ⟨ρ2, e2, h3⟩ := h2 hlt
    obtain ⟨ρ', e3, h4⟩ := ih (k + 1) ρ2 (by omega) hlt h3
    refine ⟨ρ', ?_, h4⟩
    rw [List.drop_eq_getElem_cons hlt]
    unfold for2S
    rw [e1]
    simp only [if_pos]
    rcases e2 with e2 | e2 <;> rw [e2] <;> exact e3
theorem sFor2_all {i t : Nat} {js : List Nat} {s : Sv} {ρ : PEnv} {o : Out} (e : sFor2 i t s ρ = o) (h : ρ[i]? = some (.own2 js)) (I : Nat → PEnv → Prop) (h0 : I 0 ρ) (hs : ∀ k ρ, k ≤ js.length → I k ρ → ρ[i]? = some (.own2 js) ∧ ∀ h : k < js.length, ∃ ρ2, (s (ρ.set t (.al js[k])) = .nx ρ2 ∨ s (ρ.set t (.al js[k])) = .ct ρ2) ∧ I (k + 1) ρ2) :
    ∃ ρ', o = .nx ρ' ∧ I js.length ρ' := by
  subst e
  unfold sFor2
  rw [h]
  exact for2S_thru I hs _ 0 ρ rfl (Nat.zero_le _) h0
@[simp] theorem sOwn2_ap (i : Nat) (lv : Av) (ρ : PEnv) : sOwn2 i lv ρ = match lv ρ with | .ok [] => .nx (ρ.set i (.own2 [])) | .exc C fs => .exc C fs | _ => .stuck := rfl
@[simp] theorem sApp2_ap (i : Nat) (lv : Av) (ρ : PEnv) : sApp2 i lv ρ = match ρ[i]? with | some (.own2 js) => (match lv ρ with | .ok ds => if js.length < sizeLine then .nx ((ρ ++ [Slot.own ds]).set i (.own2 (js ++ [ρ.length]))) else .stuck | .exc C fs => .exc C fs | .stuck => .stuck) | _ => .stuck := rfl
@[simp] theorem eAl_ap (i : Nat) (ρ : PEnv) : eAl i ρ = match ρ[i]? with | some (.al j) => (match ρ[j]? with | some (.own ds) => .ok (.lst ds) | _ => .stuck) | _ => .stuck := rfl
@[simp] theorem itO2_ap (i : Nat) (ρ : PEnv) : itO2 i ρ = match ρ[i]? with | some (.own2 js) => .ok (js.map fun j => .int (j : Nat)) | _ => .stuck := rfl
@[simp] theorem gAl_ap (t j : Nat) (ρ : PEnv) : gAl t (.int (j : Nat)) ρ = some (ρ.set t (.al j)) := rfl
@[simp] theorem eAnd_ap (a b : Ev) (ρ : PEnv) : eAnd a b ρ = (a ρ).bind fun x => match x with | .bl true => b ρ | .bl false => .ok (.bl false) | _ => .stuck := rfl
@[simp] theorem eOr_ap (a b : Ev) (ρ : PEnv) : eOr a b ρ = (a ρ).bind fun x => match x with | .bl true => .ok (.bl true) | .bl false => b ρ | _ => .stuck := rfl
@[simp] theorem sPutAl_ap (i : Nat) (ej ea : Ev) (ρ : PEnv) : sPutAl i ej ea ρ = match ρ[i]? with | some (.al m) => (match ρ[m]? with | some (.own ds) => Out.of (ea ρ) fun d => Out.of (ej ρ) fun k => putAt m ρ ds d k | _ => .stuck) | _ => .stuck := rfl
@[simp] theorem ix_l0 (a : D) (r : List D) : opIx (.lst (a :: r)) (.int 0) = some a := ix_lst' (n := 0) rfl rfl
@[simp] theorem ix_l1 (a b : D) (r : List D) : opIx (.lst (a :: b :: r)) (.int 1) = some b := ix_lst' (n := 1) rfl rfl
@[simp] theorem ix_l2 (a b c : D) (r : List D) : opIx (.lst (a :: b :: c :: r)) (.int 2) = some c := ix_lst' (n := 2) rfl rfl
@[simp] theorem ix_l3 (a b c d : D) (r : List D) : opIx (.lst (a :: b :: c :: d :: r)) (.int 3) = some d := ix_lst' (n := 3) rfl rfl
@[simp] theorem ix_l4 (a b c d e : D) (r : List D) : opIx (.lst (a :: b :: c :: d :: e :: r)) (.int 4) = some e := ix_lst' (n := 4) rfl rfl
end Pu

namespace G90
open PySem PySem.Spec PyProof.Rows L2 Pu Edf
/-! ### the jobs of a run -/
def jb (u : Tk) (t k : Int) (r : Int × Str) : Jb := ⟨r.1 + ((u.ks[num u.ks r.2]?).getD ("", 0, 0)).2.2, r.1, t, k, ((u.ks[num u.ks r.2]?).getD ("", 0, 0)).2.1⟩
def jobK (u : Tk) (t : Nat) : Nat → List (Int × Str) → List Jb
  | _, [] => []
  | k, r :: l => jb u t k r :: jobK u t (k + 1) l
def jobT : Nat → List (Tk × List (Int × Str)) → List Jb
  | _, [] => []
  | t, p :: l => jobK p.1 t 0 p.2 ++ jobT (t + 1) l
theorem jobK_snoc (u : Tk) (t : Nat) (r : Int × Str) : ∀ (k : Nat) (l : List (Int × Str)), jobK u t k (l ++ [r]) = jobK u t k l ++ [jb u t (k + l.length : Nat) r]
  | k, [] => rfl
  | k, x :: l => by
    show jb u t k x :: jobK u t (k + 1) (l ++ [r]) = jb u t k x :: jobK u t (k + 1) l ++ [jb u t (k + (l.length + 1) : Nat) r]
    rw [jobK_snoc u t r (k + 1) l, show k + 1 + l.length = k + (l.length + 1) by omega]; rfl
theorem jobT_snoc (p : Tk × List (Int × Str)) : ∀ (t : Nat) (l : List (Tk × List (Int × Str))), jobT t (l ++ [p]) = jobT t l ++ jobK p.1 (t + l.length) 0 p.2
  | t, [] => by show jobK p.1 t 0 p.2 ++ [] = [] ++ _; rw [List.append_nil, List.nil_append]; rfl
  | t, q :: l => by
    show jobK q.1 t 0 q.2 ++ jobT (t + 1) (l ++ [p]) = jobK q.1 t 0 q.2 ++ jobT (t + 1) l ++ jobK p.1 (t + (l.length + 1)) 0 p.2
    rw [jobT_snoc p (t + 1) l, List.append_assoc, show t + 1 + l.length = t + (l.length + 1) by omega]
theorem jobK_len (u : Tk) (t : Nat) : ∀ (k : Nat) (l : List (Int × Str)), (jobK u t k l).length = l.length
  | _, [] => rfl
  | k, x :: l => congrArg Nat.succ (jobK_len u t (k + 1) l)
def jL (b : Jb) : List Int := [b.d, b.r, b.a, b.b, b.c]
def jO (b : Jb) : Pu.Slot := .own ((jL b).map D.int)
def idx (m : Nat) : List Nat := (List.range m).map (· + 11)
theorem idx_succ (m : Nat) : idx (m + 1) = idx m ++ [m + 11] := by
  unfold idx
  rw [List.range_succ, List.map_append]; rfl
theorem idx_len (m : Nat) : (idx m).length = m := by unfold idx; rw [List.length_map, List.length_range]
/-- the names' slots ahead of the lists -/
abbrev stt (TS CS TB : D) (js : List Nat) (x4 x5 x6 x7 x8 x9 x10 : Pu.Slot) (P : List Pu.Slot) : PEnv := .val TS :: .val CS :: .val TB :: .own2 js :: x4 :: x5 :: x6 :: x7 :: x8 :: x9 :: x10 :: P
/-- one run's task and its releases -/
structure RunOk (p : Tk × List (Int × Str)) : Prop where
  kl : p.1.ks.length ≤ 1000
  rl : p.2.length ≤ 450
  rn : ∀ r ∈ p.2, r.2 ∈ p.1.ks.map (·.1)
theorem job_in {u : Tk} {c : List (Int × Str)} {TS CS TB : D} {t m0 : Nat} {P0 : List Pu.Slot} {x5 x6 x7 x8 x9 x10 : Pu.Slot} (hm : P0.length = m0) (hm1 : m0 + c.length ≤ 990) (o : RunOk (u, c)) (i1 : opIx TS (.int t) = some (dP u)) (i2 : opIx CS (.int t) = some (.lst (c.map dRel))) :
    ∃ y5 y6, forS (gN 5) (sSeq (sSet 6 (e2 opIx (e2 opIx (e2 opIx (eN 0) (eN 4)) (eC (.int 0))) (eCall Fn_law_number (aC (e2 opIx (e2 opIx (eN 0) (eN 4)) (eC (.int 0))) (aC (e2 opIx (e2 opIx (e2 opIx (eN 1) (eN 4)) (eN 5)) (eC (.int 1))) aN)))))
    (sApp2 3 (aC (e2 opAdd (e2 opIx (e2 opIx (e2 opIx (eN 1) (eN 4)) (eN 5)) (eC (.int 0))) (e2 opIx (eN 6) (eC (.int 2)))) (aC (e2 opIx (e2 opIx (e2 opIx (eN 1) (eN 4)) (eN 5)) (eC (.int 0))) (aC (eN 4) (aC (eN 5) (aC (e2 opIx (eN 6) (eC (.int 1))) aN))))))) (rgD 0 (c.length : Int))
      (stt TS CS TB (idx m0) (.val (.int t)) x5 x6 x7 x8 x9 x10 P0) = .nx (stt TS CS TB (idx (m0 + c.length)) (.val (.int t)) y5 y6 x7 x8 x9 x10 (P0 ++ (jobK u t 0 c).map jO)) := by
  obtain ⟨ρ', e, y5, y6, rfl⟩ := forS_thru (g := gN 5) (body := sSeq (sSet 6 (e2 opIx (e2 opIx (e2 opIx (eN 0) (eN 4)) (eC (.int 0))) (eCall Fn_law_number (aC (e2 opIx (e2 opIx (eN 0) (eN 4)) (eC (.int 0))) (aC (e2 opIx (e2 opIx (e2 opIx (eN 1) (eN 4)) (eN 5)) (eC (.int 1))) aN)))))
    (sApp2 3 (aC (e2 opAdd (e2 opIx (e2 opIx (e2 opIx (eN 1) (eN 4)) (eN 5)) (eC (.int 0))) (e2 opIx (eN 6) (eC (.int 2)))) (aC (e2 opIx (e2 opIx (e2 opIx (eN 1) (eN 4)) (eN 5)) (eC (.int 0))) (aC (eN 4) (aC (eN 5) (aC (e2 opIx (eN 6) (eC (.int 1))) aN))))))) (rgD 0 (c.length : Int))
    (fun k ρ => ∃ y5 y6, ρ = stt TS CS TB (idx (m0 + k)) (.val (.int t)) y5 y6 x7 x8 x9 x10 (P0 ++ (jobK u t 0 (c.take k)).map jO)) (stt TS CS TB (idx m0) (.val (.int t)) x5 x6 x7 x8 x9 x10 P0) ⟨x5, x6, by simp [jobK]⟩ (fun k d ρ e hi => by
      obtain ⟨y5, y6, rfl⟩ := hi
      obtain ⟨rfl, hl⟩ := rg0_some e
      have hk : k < c.length := by omega
      obtain ⟨r, er⟩ : ∃ r, c[k]? = some r := ⟨_, List.getElem?_eq_getElem hk⟩
      have hrn := o.rn r (List.mem_of_getElem? er)
      have i3 : opIx (.lst (c.map dRel)) (.int (k : Int)) = some (.tup [.int r.1, .str r.2]) := ix_lst' rfl (by rw [List.getElem?_map, er]; rfl)
      have n1 := f_lnum (ks := u.ks) o.kl hrn
      obtain ⟨kd, ek, hkd⟩ := num_get hrn
      have i4 : opIx (.lst (u.ks.map dK)) (.int (num u.ks r.2 : Int)) = some (.tup [.str kd.1, .int kd.2.1, .int kd.2.2]) := ix_lst' rfl (by rw [List.getElem?_map, ek]; rfl)
      have hj : jb u t (0 + (c.take k).length : Nat) r = ⟨r.1 + kd.2.2, r.1, t, k, kd.2.1⟩ := by
        unfold jb
        rw [ek, List.length_take, Nat.zero_add, Nat.min_eq_left (by omega)]; rfl
      have hz : (idx (m0 + k)).length < sizeLine := by rw [idx_len]; exact small1000 (by omega)
      have hpl : (P0 ++ (jobK u t 0 (c.take k)).map jO).length = m0 + k := by
        rw [List.length_append, List.length_map, jobK_len, List.length_take, Nat.min_eq_left (by omega), hm]
      rw [take_snoc er, jobK_snoc, hj, List.map_append, ← List.append_assoc, ← Nat.add_assoc, idx_succ]
      generalize P0 ++ (jobK u t 0 (c.take k)).map jO = P at *
      generalize idx (m0 + k) = js at *
      refine ⟨_, stt TS CS TB (js ++ [m0 + k + 11]) (.val (.int t)) (.val (.int k)) (.val (.tup [.str kd.1, .int kd.2.1, .int kd.2.2])) x7 x8 x9 x10 (P ++ [jO ⟨r.1 + kd.2.2, r.1, t, k, kd.2.1⟩]), rfl, .inl ?_, _, _, rfl⟩
      unfold dP at i1
      generalize u.ks.map dK = KS at *
      generalize u.ws.map dW = WS at *
      generalize c.map dRel = CC at *
      simp -implicitDefEqProofs [i1, i2, i3, n1, i4, hz, hpl, jO, jL])
  refine ⟨y5, y6, ?_⟩
  rw [e, rgD_length, show ((c.length : Int) - 0).toNat = c.length by omega, List.take_length]
/-- all jobs of a run -/
theorem job_all {ps : List (Tk × List (Int × Str))} {TB : D} {x7 x8 x9 x10 : Pu.Slot} (hp : ps.length ≤ 10) (hm1 : (jobT 0 ps).length ≤ 900) (o : ∀ p ∈ ps, RunOk p) :
    ∃ y4 y5 y6, forS (gN 4) (sFor (iR1 (aC (eF fLen (aC (e2 opIx (eN 1) (eN 4)) aN)) aN)) (gN 5) (sSeq (sSet 6 (e2 opIx (e2 opIx (e2 opIx (eN 0) (eN 4)) (eC (.int 0))) (eCall Fn_law_number (aC (e2 opIx (e2 opIx (eN 0) (eN 4)) (eC (.int 0))) (aC (e2 opIx (e2 opIx (e2 opIx (eN 1) (eN 4)) (eN 5)) (eC (.int 1))) aN)))))
    (sApp2 3 (aC (e2 opAdd (e2 opIx (e2 opIx (e2 opIx (eN 1) (eN 4)) (eN 5)) (eC (.int 0))) (e2 opIx (eN 6) (eC (.int 2)))) (aC (e2 opIx (e2 opIx (e2 opIx (eN 1) (eN 4)) (eN 5)) (eC (.int 0))) (aC (eN 4) (aC (eN 5) (aC (e2 opIx (eN 6) (eC (.int 1))) aN)))))))) (rgD 0 (ps.length : Int))
      (stt (.lst (ps.map fun p => dP p.1)) (.lst (ps.map fun p => .lst (p.2.map dRel))) TB [] .un .un .un x7 x8 x9 x10 []) =
      .nx (stt (.lst (ps.map fun p => dP p.1)) (.lst (ps.map fun p => .lst (p.2.map dRel))) TB (idx (jobT 0 ps).length) y4 y5 y6 x7 x8 x9 x10 ((jobT 0 ps).map jO)) := by
  obtain ⟨ρ', e, y4, y5, y6, rfl⟩ := forS_thru (g := gN 4) (body := sFor (iR1 (aC (eF fLen (aC (e2 opIx (eN 1) (eN 4)) aN)) aN)) (gN 5) (sSeq (sSet 6 (e2 opIx (e2 opIx (e2 opIx (eN 0) (eN 4)) (eC (.int 0))) (eCall Fn_law_number (aC (e2 opIx (e2 opIx (eN 0) (eN 4)) (eC (.int 0))) (aC (e2 opIx (e2 opIx (e2 opIx (eN 1) (eN 4)) (eN 5)) (eC (.int 1))) aN)))))
    (sApp2 3 (aC (e2 opAdd (e2 opIx (e2 opIx (e2 opIx (eN 1) (eN 4)) (eN 5)) (eC (.int 0))) (e2 opIx (eN 6) (eC (.int 2)))) (aC (e2 opIx (e2 opIx (e2 opIx (eN 1) (eN 4)) (eN 5)) (eC (.int 0))) (aC (eN 4) (aC (eN 5) (aC (e2 opIx (eN 6) (eC (.int 1))) aN)))))))) (rgD 0 (ps.length : Int))
    (fun t ρ => ∃ y4 y5 y6, ρ = stt (.lst (ps.map fun p => dP p.1)) (.lst (ps.map fun p => .lst (p.2.map dRel))) TB (idx (jobT 0 (ps.take t)).length) y4 y5 y6 x7 x8 x9 x10 ((jobT 0 (ps.take t)).map jO))
    (stt (.lst (ps.map fun p => dP p.1)) (.lst (ps.map fun p => .lst (p.2.map dRel))) TB [] .un .un .un x7 x8 x9 x10 []) ⟨.un, .un, .un, rfl⟩ (fun t d ρ e hi => by
      obtain ⟨y4, y5, y6, rfl⟩ := hi
      obtain ⟨rfl, hl⟩ := rg0_some e
      have hk : t < ps.length := by omega
      obtain ⟨p, ep⟩ : ∃ p, ps[t]? = some p := ⟨_, List.getElem?_eq_getElem hk⟩
      obtain ⟨u, c⟩ := p
      have op := o (u, c) (List.mem_of_getElem? ep)
      have i1 : opIx (.lst (ps.map fun p => dP p.1)) (.int (t : Int)) = some (dP u) := ix_lst' rfl (by rw [List.getElem?_map, ep]; rfl)
      have i2 : opIx (.lst (ps.map fun p => D.lst (p.2.map dRel))) (.int (t : Int)) = some (.lst (c.map dRel)) := ix_lst' rfl (by rw [List.getElem?_map, ep]; rfl)
      have hle : (jobT 0 (ps.take t)).length + c.length ≤ (jobT 0 ps).length := by
        have h1 : ps = ps.take t ++ (u, c) :: ps.drop (t + 1) := by
          have := List.take_append_drop t ps
          rw [List.drop_eq_getElem_cons hk] at this
          rw [List.getElem?_eq_getElem hk] at ep
          rw [Option.some.inj ep] at this
          exact this.symm
        have h2 : ∀ (l m : List (Tk × List (Int × Str))) (t : Nat), (jobT t l).length ≤ (jobT t (l ++ m)).length := by
          intro l
          induction l with
          | nil => intro m t; exact Nat.zero_le _
          | cons x l ih =>
            intro m t
            show (jobK x.1 t 0 x.2 ++ jobT (t + 1) l).length ≤ (jobK x.1 t 0 x.2 ++ jobT (t + 1) (l ++ m)).length
            rw [List.length_append, List.length_append]
            have := ih m (t + 1)
            omega
        have h3 := h2 (ps.take t ++ [(u, c)]) (ps.drop (t + 1)) 0
        rw [List.append_assoc, List.singleton_append, ← h1, jobT_snoc, List.length_append, jobK_len] at h3
        exact h3
      rw [take_snoc ep, jobT_snoc, List.length_append, jobK_len, List.map_append, List.length_take, Nat.zero_add, Nat.min_eq_left (by omega)]
      obtain ⟨z5, z6, J⟩ := job_in (t := t) (TB := TB) (m0 := (jobT 0 (ps.take t)).length) (P0 := (jobT 0 (ps.take t)).map jO) (x5 := y5) (x6 := y6) (x7 := x7) (x8 := x8) (x9 := x9) (x10 := x10) (List.length_map _) (show (jobT 0 (ps.take t)).length + c.length ≤ 990 by omega) op i1 i2
      have hr := asR1_of (c.length : Int) (by omega) (by have := op.rl; show (c.length : Int) ≤ 1000000; have h : c.length ≤ 450 := op.rl; omega)
      refine ⟨_, _, rfl, .inl ?_, .val (.int t), z5, z6, rfl⟩
      have hlc : fLen [.lst (c.map dRel)] = some (.int (c.length : Int)) := by simp
      generalize (jobT 0 (ps.take t)).map jO ++ (jobK u t 0 c).map jO = P' at *
      generalize (jobT 0 (ps.take t)).map jO = P at *
      generalize idx ((jobT 0 (ps.take t)).length + c.length) = js' at *
      generalize idx (jobT 0 (ps.take t)).length = js at *
      generalize (ps.map fun p => dP p.1) = TS at *
      generalize (ps.map fun p => D.lst (p.2.map dRel)) = CS at *
      generalize c.map dRel = CC at *
      generalize rgD 0 (c.length : Int) = RG at *
      generalize (c.length : Int) = cl at *
      simp -implicitDefEqProofs [i2, hlc, hr, J])
  refine ⟨y4, y5, y6, ?_⟩
  rw [e, rgD_length, show ((ps.length : Int) - 0).toNat = ps.length by omega, List.take_length]
end G90

namespace G90
open PySem PySem.Spec PyProof.Rows L2 Pu Edf
/-- the lists at the places qs hold the jobs S -/
structure Rp (P : List Pu.Slot) (qs : List Nat) (S : List Jb) : Prop where
  nd : qs.Nodup
  len : qs.length = S.length
  get : ∀ (i q : Nat) (b : Jb), qs[i]? = some q → S[i]? = some b → P[q]? = some (jO b)
theorem Rp.upd {P : List Pu.Slot} {qs : List Nat} {A C : List Jb} {b b' : Jb} {q : Nat} (r : Rp P qs (A ++ b :: C)) (hq : qs[A.length]? = some q) : Rp (P.set q (jO b')) qs (A ++ b' :: C) := by
  have hl : q < P.length := by
    have := r.get A.length q b hq (by rw [List.getElem?_append_right (Nat.le_refl _), Nat.sub_self]; rfl)
    exact (List.getElem?_eq_some_iff.mp this).1
  refine ⟨r.nd, by rw [r.len, List.length_append, List.length_append]; rfl, fun i p x e1 e2 => ?_⟩
  by_cases h : i = A.length
  · subst h
    rw [hq] at e1; cases e1
    rw [List.getElem?_append_right (Nat.le_refl _), Nat.sub_self] at e2
    cases e2
    rw [List.getElem?_set_self hl]
  · have hne : q ≠ p := fun z => by
      subst z
      obtain ⟨h1, g1⟩ := List.getElem?_eq_some_iff.mp e1
      obtain ⟨h2, g2⟩ := List.getElem?_eq_some_iff.mp hq
      have := (List.getElem_inj r.nd).mp (show qs[i] = qs[A.length] by rw [g1, g2])
      exact h this
    rw [List.getElem?_set_ne hne]
    refine r.get i p x e1 ?_
    by_cases hi : i < A.length
    · rw [List.getElem?_append_left hi] at e2 ⊢; exact e2
    · have : i - A.length = (i - A.length - 1) + 1 := by omega
      rw [List.getElem?_append_right (by omega)] at e2 ⊢
      rw [this] at e2 ⊢
      simpa using e2
theorem srt_all {J : List Jb} {TS CS TB : D} {x4 x5 x6 x7 x8 x9 x10 : Pu.Slot} : (idx J.length).all (fun j => (intsOf (stt TS CS TB (idx J.length) x4 x5 x6 x7 x8 x9 x10 (J.map jO)) j).isSome) = true ∧
    ∃ (qs : List Nat) (S : List Jb), srtJ (stt TS CS TB (idx J.length) x4 x5 x6 x7 x8 x9 x10 (J.map jO)) (idx J.length) = qs.map (· + 11) ∧ Rp (J.map jO) qs S ∧ S.Perm J ∧ ByDue S := by
  have hints : ∀ q b, J[q]? = some b → intsOf (stt TS CS TB (idx J.length) x4 x5 x6 x7 x8 x9 x10 (J.map jO)) (q + 11) = some (jL b) := fun q b e => by
    unfold intsOf
    have : (stt TS CS TB (idx J.length) x4 x5 x6 x7 x8 x9 x10 (J.map jO))[q + 11]? = some (jO b) := by
      show (J.map jO)[q]? = _
      rw [List.getElem?_map, e]; rfl
    rw [this]
    exact ints?_map _
  refine ⟨List.all_eq_true.mpr fun j hj => ?_, ?_⟩
  · obtain ⟨q, hq, rfl⟩ := List.mem_map.mp hj
    rw [hints q _ (List.getElem?_eq_getElem (List.mem_range.mp hq))]; rfl
  · let g : Nat → Jb := fun q => (J[q]?).getD ⟨0, 0, 0, 0, 0⟩
    have hg : ∀ q, q < J.length → J[q]? = some (g q) := fun q hq => by
      show _ = some ((J[q]?).getD _)
      rw [List.getElem?_eq_getElem hq]; rfl
    let s : Nat → Nat → Bool := fun a b => decide (jL (g a) ≤ jL (g b))
    refine ⟨(List.range J.length).mergeSort s, ((List.range J.length).mergeSort s).map g, ?_, ⟨?_, by rw [List.length_map], fun i q b e1 e2 => ?_⟩, ?_, ?_⟩
    · unfold srtJ
      refine (List.map_mergeSort (f := (· + 11)) fun a ha b hb => ?_).symm
      show decide (jL (g a) ≤ jL (g b)) = decide (keyOf _ (a + 11) ≤ keyOf _ (b + 11))
      unfold keyOf
      rw [hints a _ (hg a (List.mem_range.mp ha)), hints b _ (hg b (List.mem_range.mp hb))]; rfl
    · exact (List.mergeSort_perm _ _).nodup_iff.mpr List.nodup_range
    · rw [List.getElem?_map, e1] at e2
      cases e2
      have hq : q < J.length := List.mem_range.mp ((List.mergeSort_perm _ _).mem_iff.mp (List.mem_of_getElem? e1))
      rw [List.getElem?_map, hg q hq]; rfl
    · have h1 : (((List.range J.length).mergeSort s).map g).Perm ((List.range J.length).map g) := (List.mergeSort_perm _ _).map g
      have h2 : (List.range J.length).map g = J := by
        apply List.ext_getElem?
        intro i
        by_cases h : i < J.length
        · rw [List.getElem?_map, List.getElem?_range h, hg i h]; rfl
        · rw [List.getElem?_eq_none (by rw [List.length_map, List.length_range]; omega), List.getElem?_eq_none (by omega)]
      rw [h2] at h1
      exact h1
    · unfold ByDue
      rw [List.pairwise_map]
      refine List.Pairwise.imp ?_ (List.pairwise_mergeSort (le := s) (fun a b c h1 h2 => ?_) (fun a b => ?_) (List.range J.length))
      · intro a b h
        have h' : jL (g a) ≤ jL (g b) := of_decide_eq_true h
        by_cases q : (g a).d ≤ (g b).d
        · exact q
        · exact absurd (List.cons_lt_cons_iff.mpr (.inl (by omega))) h'
      · exact decide_eq_true (List.le_trans (of_decide_eq_true h1) (of_decide_eq_true h2))
      · rcases List.le_total (jL (g a)) (jL (g b)) with h | h
        · rw [Bool.or_eq_true]; exact .inl (decide_eq_true h)
        · rw [Bool.or_eq_true]; exact .inr (decide_eq_true h)
/-- one slot's service -/
theorem serve_run {TS CS TB : D} {qs : List Nat} {S : List Jb} {x4 x5 x6 x9 x10 : Pu.Slot} {n u : Int} {P : List Pu.Slot} (r : Rp P qs S) :
    ∃ y9 y10 P', sFor2 3 9 (sIf (tAnd' (tV (e2 opLe (e2 opIx (eAl 9) (eC (.int 1))) (eN 7))) (tV (e2 opGt (e2 opIx (eAl 9) (eC (.int 4))) (eC (.int 0))))) (sSeq (sSet 10 (eF fMin2 (aC (eN 8) (aC (e2 opIx (eAl 9) (eC (.int 4))) aN))))
    (sSeq (sPutAl 9 (eC (.int 4)) (e2 opSub (e2 opIx (eAl 9) (eC (.int 4))) (eN 10)))
    (sSet 8 (e2 opSub (eN 8) (eN 10))))) sNil) (stt TS CS TB (qs.map (· + 11)) x4 x5 x6 (.val (.int n)) (.val (.int u)) x9 x10 P) =
      .nx (stt TS CS TB (qs.map (· + 11)) x4 x5 x6 (.val (.int n)) (.val (.int (svU n u S))) y9 y10 P') ∧ Rp P' qs (svJ n u S) := by
  generalize e : sFor2 _ _ _ _ = o
  have hjl : (qs.map (· + 11)).length = S.length := by rw [List.length_map, r.len]
  obtain ⟨ρ', rfl, y9, y10, P', rfl, h⟩ := sFor2_all e rfl (fun k ρ => ∃ y9 y10 P', ρ = stt TS CS TB (qs.map (· + 11)) x4 x5 x6 (.val (.int n)) (.val (.int (svU n u (S.take k)))) y9 y10 P' ∧ Rp P' qs (svJ n u (S.take k) ++ S.drop k))
    ⟨x9, x10, P, rfl, r⟩ (fun k ρ hk hi => by
      obtain ⟨y9, y10, P', rfl, hR⟩ := hi
      refine ⟨rfl, fun hk => ?_⟩
      rw [hjl] at hk
      obtain ⟨b, eb⟩ : ∃ b, S[k]? = some b := ⟨_, List.getElem?_eq_getElem hk⟩
      obtain ⟨q, eq⟩ : ∃ q, qs[k]? = some q := ⟨_, List.getElem?_eq_getElem (by rw [r.len]; exact hk)⟩
      have ej : (qs.map (· + 11))[k] = q + 11 := by
        have h1 : (qs.map (· + 11))[k]? = some (q + 11) := by rw [List.getElem?_map, eq]; rfl
        rw [List.getElem?_eq_getElem (by rw [hjl]; exact hk)] at h1
        exact Option.some.inj h1
      have hlA : (svJ n u (S.take k)).length = k := by rw [svJ_len, List.length_take, Nat.min_eq_left (by omega)]
      have hd : S.drop k = b :: S.drop (k + 1) := by
        rw [List.drop_eq_getElem_cons hk]
        rw [List.getElem?_eq_getElem hk] at eb
        rw [Option.some.inj eb]
      rw [hd] at hR
      have hP : P'[q]? = some (jO b) := hR.get k q b eq (by rw [List.getElem?_append_right (by omega), hlA, Nat.sub_self]; rfl)
      rw [take_snoc eb, svJ_app, svU_app, List.append_assoc]
      show ∃ ρ2, _ ∧ ∃ y9 y10 P', ρ2 = stt TS CS TB (qs.map (· + 11)) x4 x5 x6 (.val (.int n)) (.val (.int (sv1 n (svU n u (S.take k)) b).2)) y9 y10 P' ∧ Rp P' qs (svJ n u (S.take k) ++ (sv1 n (svU n u (S.take k)) b).1 :: S.drop (k + 1))
      rw [ej]
      have hup := fun b' => Rp.upd (b' := b') hR (by rw [hlA]; exact eq)
      generalize svU n u (S.take k) = v at *
      generalize svJ n u (S.take k) = A at *
      generalize S.drop (k + 1) = C at *
      generalize qs.map (· + 11) = js at *
      by_cases h1 : b.r ≤ n
      · by_cases h2 : 0 < b.c
        · have e1 : sv1 n v b = ({ b with c := b.c - min v b.c }, v - min v b.c) := by unfold sv1; rw [if_pos ⟨h1, h2⟩]
          rw [e1]
          refine ⟨stt TS CS TB js x4 x5 x6 (.val (.int n)) (.val (.int (v - min v b.c))) (.al (q + 11)) (.val (.int (min v b.c))) (P'.set q (jO { b with c := b.c - min v b.c })), .inl ?_, _, _, _, rfl, hup _⟩
          have hz : ∀ ρ : PEnv, putAt (q + 11) ρ [D.int b.d, .int b.r, .int b.a, .int b.b, .int b.c] (.int (b.c - min v b.c)) (.int 4) = .nx (ρ.set (q + 11) (.own [D.int b.d, .int b.r, .int b.a, .int b.b, .int (b.c - min v b.c)])) := fun ρ => putAt_of (n := 4) rfl (by simp)
          unfold jO jL at hP ⊢
          simp -implicitDefEqProofs [hP, h1, h2, hz]
        · have e1 : sv1 n v b = (b, v) := by unfold sv1; rw [if_neg (fun z => h2 z.2)]
          rw [e1]
          refine ⟨stt TS CS TB js x4 x5 x6 (.val (.int n)) (.val (.int v)) (.al (q + 11)) y10 P', .inl ?_, _, _, _, rfl, hR⟩
          unfold jO jL at hP
          simp -implicitDefEqProofs [hP, h1, h2]
      · have e1 : sv1 n v b = (b, v) := by unfold sv1; rw [if_neg (fun z => h1 z.1)]
        rw [e1]
        refine ⟨stt TS CS TB js x4 x5 x6 (.val (.int n)) (.val (.int v)) (.al (q + 11)) y10 P', .inl ?_, _, _, _, rfl, hR⟩
        unfold jO jL at hP
        simp -implicitDefEqProofs [hP, h1])
  rw [hjl, List.take_length, List.drop_length, List.append_nil] at h
  refine ⟨y9, y10, P', ?_, h⟩
  rw [hjl, List.take_length]
end G90

namespace G90
open PySem PySem.Spec PyProof.Rows L2 Pu Edf
theorem fAny_map (bs : List Bool) : fAny [.lst (bs.map D.bl)] = some (.bl (bs.any id)) := by
  show (bls? (bs.map D.bl)).map _ = _
  rw [bls?_map]; rfl
theorem map_bls {α : Type} (f : α → Bool) (l : List α) : (l.map fun x => D.bl (f x)) = (l.map f).map D.bl := by rw [List.map_map]; rfl
def lateB (n : Int) (b : Jb) : Bool := decide (b.d ≤ n) && decide (0 < b.c)
theorem late_any {n : Int} {S : List Jb} : (S.map (lateB n)).any id = true ↔ late n S := by
  rw [List.any_map, List.any_eq_true]
  unfold late lateB
  constructor
  · rintro ⟨b, hb, h⟩
    simp at h
    exact ⟨b, hb, h⟩
  · rintro ⟨b, hb, h1, h2⟩
    exact ⟨b, hb, by simp [h1, h2]⟩
theorem lc_jobs {ev : Ev} {ρ : PEnv} {qs : List Nat} {S : List Jb} (hl : qs.length = S.length) (f : Jb → D) (h : ∀ (i q : Nat) (b : Jb), qs[i]? = some q → S[i]? = some b → ev (ρ.set 9 (.al (q + 11))) = .ok (f b)) :
    lcGo (gAl 9) tYes' ev ρ ((qs.map (· + 11)).map fun j => .int (j : Nat)) = .ok (S.map f) := by
  have key := lcGo_map (g := gAl 9) (ev := ev) (ρ := ρ) (δ := fun p : Nat × Jb => D.int (p.1 + 11 : Nat)) (fun p => f p.2) (qs.zip S) (fun p hp => by
    obtain ⟨i, hi⟩ := List.mem_iff_getElem?.mp hp
    obtain ⟨h1, h2⟩ := List.getElem?_zip_eq_some.mp hi
    exact ⟨ρ.set 9 (.al (p.1 + 11)), rfl, h i p.1 p.2 h1 h2⟩)
  have e1 : (qs.zip S).map (fun p : Nat × Jb => D.int (p.1 + 11 : Nat)) = (qs.map (· + 11)).map fun j => D.int (j : Nat) := by
    have : ((qs.zip S).map Prod.fst) = qs := List.map_fst_zip (by omega)
    rw [List.map_map]
    conv => rhs; rw [← this]
    rw [List.map_map]; rfl
  have e2 : (qs.zip S).map (fun p => f p.2) = S.map f := by
    have : ((qs.zip S).map Prod.snd) = S := List.map_snd_zip (by omega)
    conv => rhs; rw [← this]
    rw [List.map_map]; rfl
  rw [e1, e2] at key
  exact key
theorem lc_late {TS CS TB : D} {js : List Nat} {qs : List Nat} {S : List Jb} {x4 x5 x6 x8 x9 x10 : Pu.Slot} {n : Int} {P : List Pu.Slot} (r : Rp P qs S) :
    lcGo (gAl 9) tYes' (eAnd (e2 opLe (e2 opIx (eAl 9) (eC (.int 0))) (eN 7)) (e2 opGt (e2 opIx (eAl 9) (eC (.int 4))) (eC (.int 0)))) (stt TS CS TB js x4 x5 x6 (.val (.int n)) x8 x9 x10 P) ((qs.map (· + 11)).map fun j => .int (j : Nat)) = .ok ((S.map (lateB n)).map D.bl) := by
  rw [← map_bls]
  refine lc_jobs r.len _ fun i q b e1 e2 => ?_
  have hP := r.get i q b e1 e2
  unfold jO jL at hP
  unfold lateB
  by_cases h : b.d ≤ n
  · simp -implicitDefEqProofs [hP, h]
  · simp -implicitDefEqProofs [hP, h]
theorem lc_due {TS CS TB : D} {js : List Nat} {qs : List Nat} {S : List Jb} {x4 x5 x6 x7 x8 x9 x10 : Pu.Slot} {P : List Pu.Slot} (r : Rp P qs S) :
    lcGo (gAl 9) tYes' (e2 opIx (eAl 9) (eC (.int 0))) (stt TS CS TB js x4 x5 x6 x7 x8 x9 x10 P) ((qs.map (· + 11)).map fun j => .int (j : Nat)) = .ok ((S.map Jb.d).map D.int) := by
  rw [← map_ints]
  refine lc_jobs r.len _ fun i q b e1 e2 => ?_
  have hP := r.get i q b e1 e2
  unfold jO jL at hP
  simp -implicitDefEqProofs [hP]
def capT (T : List Int) (n : Nat) : Int := gI T (n % T.length)
/-- the walk of the law by earliest deadline first -/
theorem f_late {ps : List (Tk × List (Int × Str))} {T : List Int} (hp : ps.length ≤ 10) (hm1 : (jobT 0 ps).length ≤ 900) (o : ∀ p ∈ ps, RunOk p) (hT : 1 ≤ T.length) (hT2 : T.length ≤ 1000) (hd : ∀ b ∈ jobT 0 ps, 0 ≤ b.d ∧ b.d ≤ 900000) :
    ∃ S : List Jb, S.Perm (jobT 0 ps) ∧ ByDue S ∧
    ((∃ n : Nat, late n (st (capT T) S n) ∧ (∀ m : Nat, m < n → ¬ late m (st (capT T) S m)) ∧ Fn_law_late [.lst (ps.map fun p => dP p.1), .lst (ps.map fun p => .lst (p.2.map dRel)), dI T] = .ok (.int n)) ∨
     (Fn_law_late [.lst (ps.map fun p => dP p.1), .lst (ps.map fun p => .lst (p.2.map dRel)), dI T] = .ok .non ∧ ∀ n : Nat, (∃ b ∈ S, (n : Int) ≤ b.d) → ¬ late n (st (capT T) S n))) := by
  obtain ⟨y4, y5, y6, J1⟩ := job_all (TB := dI T) (x7 := .un) (x8 := .un) (x9 := .un) (x10 := .un) hp hm1 o
  obtain ⟨hall, qs, S, hsrt, hR, hperm, hby⟩ := srt_all (J := jobT 0 ps) (TS := .lst (ps.map fun p => dP p.1)) (CS := .lst (ps.map fun p => .lst (p.2.map dRel))) (TB := dI T) (x4 := y4) (x5 := y5) (x6 := y6) (x7 := .un) (x8 := .un) (x9 := .un) (x10 := .un)
  refine ⟨S, hperm, hby, ?_⟩
  have hlt : fLen [.lst (ps.map fun p => dP p.1)] = some (.int (ps.length : Int)) := by simp
  have hr0 := asR1_of (ps.length : Int) (by omega) (by omega)
  have hdue : ∀ x7 x8 x9 x10, lcGo (gAl 9) tYes' (e2 opIx (eAl 9) (eC (.int 0))) (stt (.lst (ps.map fun p => dP p.1)) (.lst (ps.map fun p => .lst (p.2.map dRel))) (dI T) (qs.map (· + 11)) y4 y5 y6 x7 x8 x9 x10 ((jobT 0 ps).map jO)) ((qs.map (· + 11)).map fun j => .int (j : Nat)) = .ok ((S.map Jb.d).map D.int) := fun x7 x8 x9 x10 => lc_due hR
  have hjl : (qs.map (· + 11)).length ≤ sizeLine := by
    rw [List.length_map, hR.len, hperm.length_eq]
    exact Nat.le_of_lt (small1000 (by omega))
  -- the last due
  obtain ⟨md, hmd, hmd0, hmd1, hmdle⟩ : ∃ md : Int, (if (S.map Jb.d).isEmpty = true then 0 else maxL (S.map Jb.d)) = md ∧ 0 ≤ md ∧ md ≤ 900000 ∧ ∀ b ∈ S, b.d ≤ md := by
    refine ⟨_, rfl, ?_⟩
    by_cases h : S.map Jb.d = []
    · rw [if_pos (by rw [h]; rfl)]
      refine ⟨Int.le_refl _, by omega, fun b hb => ?_⟩
      rw [List.map_eq_nil_iff] at h
      rw [h] at hb; cases hb
    · rw [if_neg (by simpa using h)]
      obtain ⟨b, hb, e⟩ := List.mem_map.mp (maxL_mem h)
      have := hd b (hperm.mem_iff.mp hb)
      exact ⟨by omega, by omega, fun b hb => maxL_ge (List.mem_map_of_mem hb)⟩
  have hr1 := asR1_of (md + 1) (by omega) (by omega)
  have hmod : ∀ n : Nat, opMod (.int (n : Int)) (.int (T.length : Int)) = some (.int ((n : Int) % (T.length : Int))) := fun n => opMod_of _ _ (by omega)
  have hix : ∀ n : Nat, opIx (dI T) (.int ((n : Int) % (T.length : Int))) = some (.int (capT T n)) := fun n => ix_gI (by rw [Int.natCast_emod]) (Nat.mod_lt _ (by omega))
  have hlen : fLen [dI T] = some (.int (T.length : Int)) := by simp
  generalize hTS : D.lst (ps.map fun p => dP p.1) = TS at *
  generalize hCS : D.lst (ps.map fun p => D.lst (p.2.map dRel)) = CS at *
  generalize hTB : dI T = TB at *
  generalize hJO : (jobT 0 ps).map jO = P0 at *
  have main : ∀ o x7 x8 x9 x10, forS (gN 7) (sSeq (sIf (tV (eF fAny (aC (eL (lLc (itO2 3) (gAl 9) [9] tYes' (eAnd (e2 opLe (e2 opIx (eAl 9) (eC (.int 0))) (eN 7)) (e2 opGt (e2 opIx (eAl 9) (eC (.int 4))) (eC (.int 0)))))) aN))) (sRet (eN 7)) sNil)
    (sSeq (sSet 8 (e2 opIx (eN 2) (e2 opMod (eF fInt (aC (eN 7) aN)) (eF fLen (aC (eN 2) aN)))))
    (sFor2 3 9 (sIf (tAnd' (tV (e2 opLe (e2 opIx (eAl 9) (eC (.int 1))) (eN 7))) (tV (e2 opGt (e2 opIx (eAl 9) (eC (.int 4))) (eC (.int 0))))) (sSeq (sSet 10 (eF fMin2 (aC (eN 8) (aC (e2 opIx (eAl 9) (eC (.int 4))) aN))))
    (sSeq (sPutAl 9 (eC (.int 4)) (e2 opSub (e2 opIx (eAl 9) (eC (.int 4))) (eN 10)))
    (sSet 8 (e2 opSub (eN 8) (eN 10))))) sNil)))) (rgD 0 (md + 1)) (stt TS CS TB (qs.map (· + 11)) y4 y5 y6 x7 x8 x9 x10 P0) = o →
      (∃ ρ', o = .nx ρ' ∧ ∀ m : Nat, (m : Int) < md + 1 → ¬ late m (st (capT T) S m)) ∨ (∃ n : Nat, o = .rt (.int n) ∧ late n (st (capT T) S n) ∧ ∀ m : Nat, m < n → ¬ late m (st (capT T) S m)) := by
    intro o x7 x8 x9 x10 e
    rcases forS_spec e (fun n ρ => (∃ x7 x8 x9 x10 P, ρ = stt TS CS TB (qs.map (· + 11)) y4 y5 y6 x7 x8 x9 x10 P ∧ Rp P qs (st (capT T) S n)) ∧ ∀ m : Nat, m < n → ¬ late m (st (capT T) S m))
      (fun o => ∃ n : Nat, o = .rt (.int n) ∧ late n (st (capT T) S n) ∧ ∀ m : Nat, m < n → ¬ late m (st (capT T) S m)) ⟨⟨_, _, _, _, _, rfl, hR⟩, fun m h => absurd h (Nat.not_lt_zero _)⟩ (fun n d ρ e hi => by
        obtain ⟨⟨x7, x8, x9, x10, P, rfl, hRn⟩, hno⟩ := hi
        obtain ⟨rfl, hl⟩ := rg0_some e
        refine ⟨stt TS CS TB (qs.map (· + 11)) y4 y5 y6 (.val (.int n)) x8 x9 x10 P, rfl, ?_⟩
        have L := lc_late (TS := TS) (CS := CS) (TB := TB) (js := qs.map (· + 11)) (x4 := y4) (x5 := y5) (x6 := y6) (x8 := x8) (x9 := .un) (x10 := x10) (n := (n : Int)) hRn
        have A := fAny_map ((st (capT T) S n).map (lateB n))
        have hm := hmod n
        have hx := hix n
        obtain ⟨y9, y10, P', E, hR'⟩ := serve_run (TS := TS) (CS := CS) (TB := TB) (x4 := y4) (x5 := y5) (x6 := y6) (x9 := x9) (x10 := x10) (n := (n : Int)) (u := capT T n) hRn
        clear hR hdue hsrt
        generalize qs.map (· + 11) = js at *
        by_cases hlate : late n (st (capT T) S n)
        · right
          refine ⟨.rt (.int n), ?_, trivial, n, rfl, hlate, hno⟩
          have ht := late_any.mpr hlate
          rw [ht] at A
          generalize ((st (capT T) S n).map (lateB n)).map D.bl = BB at *
          simp -implicitDefEqProofs [hjl, L, A]
        · left
          refine ⟨stt TS CS TB js y4 y5 y6 (.val (.int n)) (.val (.int (svU n (capT T n) (st (capT T) S n)))) y9 y10 P', .inl ?_, ⟨_, _, _, _, _, rfl, hR'⟩, fun m hm' => ?_⟩
          · have ht : ((st (capT T) S n).map (lateB n)).any id = false := by
              cases z : ((st (capT T) S n).map (lateB n)).any id with
              | false => rfl
              | true => exact absurd (late_any.mp z) hlate
            rw [ht] at A
            generalize ((st (capT T) S n).map (lateB n)).map D.bl = BB at *
            simp -implicitDefEqProofs [hjl, L, A, hm, hx, hlen, E]
          · by_cases q : m = n
            · subst q; exact hlate
            · exact hno m (by omega)) with ⟨ρ', h1, _, h3⟩ | h
    · left
      refine ⟨ρ', h1, fun m hm => h3 m ?_⟩
      rw [rgD_length]; omega
    · exact .inr h
  have hI : ints? ((S.map Jb.d).map D.int) = some (S.map Jb.d) := ints?_map _
  generalize hSD : (S.map Jb.d).map D.int = SD at *
  have hmx : ∀ (as : Av) (ρ : PEnv), as ρ = .ok [.lst SD] → eMaxD as (eC (.int 0)) ρ = .ok (.int md) := fun as ρ h => by
    unfold eMaxD
    rw [h]
    show (match ints? SD with | some ns => Res.ok (D.int (if ns.isEmpty = true then 0 else maxL ns)) | none => .stuck) = _
    rw [hI]
    show Res.ok (D.int (if (S.map Jb.d).isEmpty = true then 0 else maxL (S.map Jb.d))) = _
    rw [hmd]
  have pre : ∀ r, (match forS (gN 7) (sSeq (sIf (tV (eF fAny (aC (eL (lLc (itO2 3) (gAl 9) [9] tYes' (eAnd (e2 opLe (e2 opIx (eAl 9) (eC (.int 0))) (eN 7)) (e2 opGt (e2 opIx (eAl 9) (eC (.int 4))) (eC (.int 0)))))) aN))) (sRet (eN 7)) sNil)
    (sSeq (sSet 8 (e2 opIx (eN 2) (e2 opMod (eF fInt (aC (eN 7) aN)) (eF fLen (aC (eN 2) aN)))))
    (sFor2 3 9 (sIf (tAnd' (tV (e2 opLe (e2 opIx (eAl 9) (eC (.int 1))) (eN 7))) (tV (e2 opGt (e2 opIx (eAl 9) (eC (.int 4))) (eC (.int 0))))) (sSeq (sSet 10 (eF fMin2 (aC (eN 8) (aC (e2 opIx (eAl 9) (eC (.int 4))) aN))))
    (sSeq (sPutAl 9 (eC (.int 4)) (e2 opSub (e2 opIx (eAl 9) (eC (.int 4))) (eN 10)))
    (sSet 8 (e2 opSub (eN 8) (eN 10))))) sNil)))) (rgD 0 (md + 1)) (stt TS CS TB (qs.map (· + 11)) y4 y5 y6 .un .un .un .un P0) with | .nx ρ' => Out.rt .non | o => o).res = r → Fn_law_late [TS, CS, TB] = r := by
    intro r h
    refine runFn_eq rfl ?_
    rw [← h]
    have J1' : forS _ _ (rgD 0 (ps.length : Int)) [.val TS, .val CS, .val TB, .own2 [], .un, .un, .un, .un, .un, .un, .un] = _ := J1
    clear J1 main
    generalize hFF : forS _ _ (rgD 0 (md + 1)) _ = FF at *
    have hS2 : sSort2 3 3 (stt TS CS TB (idx (jobT 0 ps).length) y4 y5 y6 .un .un .un .un P0) = .nx (stt TS CS TB (qs.map (· + 11)) y4 y5 y6 .un .un .un .un P0) := by
      unfold sSort2
      show (if _ then _ else _) = _
      rw [if_pos hall, hsrt]; rfl
    clear hsrt hall
    generalize qs.map (· + 11) = js at *
    simp -implicitDefEqProofs [ini, body_law_late, hlt, hr0, J1', hS2, hjl, hdue, hmx, hr1, hFF]
    try (cases FF <;> rfl)
  generalize e : forS _ _ _ _ = o at pre
  rcases main o _ _ _ _ e with ⟨ρ', rfl, h⟩ | ⟨n, rfl, h1, h2⟩
  · right
    refine ⟨pre _ rfl, fun n hn => ?_⟩
    obtain ⟨b, hb, hle⟩ := hn
    have := hmdle b hb
    exact h n (by omega)
  · exact .inl ⟨n, h1, h2, pre _ rfl⟩
end G90

namespace Dem
variable {S : Sys} {T B : Nat → Nat → Int}
theorem Tab.lin (t : Tab S T B) {mc : Int} (hm : 0 ≤ mc) (h : ∀ i, S.c i ≤ mc) (hd : ∀ i, S.c i = 0 ∨ 1 ≤ S.dl i) : ∀ (L : Nat) i, T L i ≤ mc * L := by
  intro L
  induction L using Nat.strongRecOn with
  | _ L ih =>
    intro i
    have h1 := t.rec_ L i
    have h2 := h i
    have h0 : 0 ≤ mc * (L : Int) := Int.mul_nonneg hm (by omega)
    have step : ∀ d : Nat, 1 ≤ d → d ≤ L → mc + mc * ((L - d : Nat) : Int) ≤ mc * (L : Int) := fun d d1 d2 => by
      have e : ((L : Nat) : Int) = ((L - d : Nat) : Int) + (d : Int) := by omega
      rw [e, Int.mul_add]
      have := Int.mul_le_mul_of_nonneg_left (show (1 : Int) ≤ (d : Int) by omega) hm
      rw [Int.mul_one] at this
      omega
    rcases t.b2 L i with hb | ⟨w, hw, _, hwd, hb⟩
    · by_cases hdl : S.dl i ≤ L
      · rw [if_pos hdl] at h1
        rcases hd i with hz | hz
        · omega
        · have := step 1 (by omega) (by omega)
          have h3 : 0 ≤ mc * ((L - 1 : Nat) : Int) := Int.mul_nonneg hm (by omega)
          omega
      · rw [if_neg hdl] at h1; omega
    · have p := t.pos w hw
      have h3 := ih (L - w.2.2) (by omega) w.2.1
      have h4 := step w.2.2 p hwd
      split at h1 <;> omega
end Dem
namespace G90
open PySem PySem.Spec PyProof.Rows L2 Pu Edf
theorem mcost_nn {t : Tk} (o : Ok t) : 0 ≤ mcost t := by
  obtain ⟨k, hk, e⟩ := List.mem_map.mp (maxL_mem (ne_of_len (List.length_map (as := t.ks) (f := fun k : Str × Int × Int => k.2.1)) o.k1))
  have := o.kk k hk
  unfold mcost
  omega
theorem row_lin {t : Tk} (o : Ok t) (n : Nat) : maxL (row t n) ≤ mcost t * n := by
  obtain ⟨i, hi, e⟩ := row_max_at o n
  rw [e]
  refine (tab o).lin (mcost_nn o) (fun i => ?_) (fun i => ?_) n i
  · show (t.ks[i]?.map (fun k : Str × Int × Int => k.2.1)).getD 0 ≤ _
    cases e : t.ks[i]? with
    | none => exact mcost_nn o
    | some k => exact maxL_ge (List.mem_map_of_mem (f := fun k : Str × Int × Int => k.2.1) (List.mem_of_getElem? e))
  · show (t.ks[i]?.map (fun k : Str × Int × Int => k.2.1)).getD 0 = 0 ∨ 1 ≤ ((t.ks[i]?.map (fun k : Str × Int × Int => k.2.2)).getD 0).toNat
    cases e : t.ks[i]? with
    | none => exact .inl rfl
    | some k =>
      right
      have := (o.kk k (List.mem_of_getElem? e)).2.2.1
      show 1 ≤ k.2.2.toNat
      omega
theorem ptab_len (t : Tk) (B : List Int) {L : Nat} (h : 1 ≤ L) : (ptab t B L).length = L + 1 := by
  unfold ptab
  rw [List.length_append, List.length_append, List.length_map, List.length_range]
  show L - 1 + 1 + 1 = L + 1
  omega
/-- the table fills up -/
theorem fill {t : Tk} (o : Ok t) {B : List Int} {L : Nat} (h : 1 ≤ L) (s : Spl (fun n => maxL (row t n)) B L) : Fill (fun n => maxL (row t n)) (gI B) (gI (ptab t B L)) L (mcost t) (max 1 (gI B L)) where
  l1 := h
  b0 := s.z
  le := s.le
  ex := s.ex
  u0 := max0 o
  un := max_nn o
  um := row_lin o
  mn := mcost_nn o
  c0 := by omega
  cb := by omega
  p1 := fun j hj => by
    unfold ptab
    rw [gI_app (by rw [List.length_append, List.length_map, List.length_range]; show j < L - 1 + 1; omega), gI_app (by rw [List.length_map, List.length_range]; omega)]
    unfold gI
    rw [List.getElem?_map, List.getElem?_range (by omega)]
    show gI B (1 + j) - gI B j = gI B (j + 1) - gI B j
    rw [Nat.add_comm]
  p2 := by
    unfold ptab
    have hl : ((List.range (L - 1)).map fun j => gI B (1 + j) - gI B j).length = L - 1 := by rw [List.length_map, List.length_range]
    rw [gI_app (by rw [List.length_append, hl]; show L - 1 < L - 1 + 1; omega)]
    have := gI_snoc (l := (List.range (L - 1)).map fun j => gI B (1 + j) - gI B j) (x := maxL (row t L) + max 1 (gI B L) - gI B (L - 1))
    rw [hl] at this
    exact this
  p3 := by
    unfold ptab
    have hl : (((List.range (L - 1)).map fun j => gI B (1 + j) - gI B j) ++ [maxL (row t L) + max 1 (gI B L) - gI B (L - 1)]).length = L := by rw [List.length_append, List.length_map, List.length_range]; show L - 1 + 1 = L; omega
    have := gI_snoc (l := ((List.range (L - 1)).map fun j => gI B (1 + j) - gI B j) ++ [maxL (row t L) + max 1 (gI B L) - gI B (L - 1)]) (x := 2 * mcost t * ((L : Int) + 1) + max 1 (gI B L))
    rw [hl] at this
    exact this
theorem capT_eq (t : Tk) (B : List Int) {L : Nat} (h : 1 ≤ L) : capT (ptab t B L) = Fill.cap (gI (ptab t B L)) L := by
  funext n
  unfold capT Fill.cap
  rw [ptab_len t B h]
/-- the jobs of one task -/
theorem jb_facts {u : Tk} (o : Ok u) {r : Int × Str} (h : r.2 ∈ u.ks.map (·.1)) (t k : Int) : (jb u t k r).r = r.1 ∧ (jb u t k r).d = r.1 + ((sys u).dl (num u.ks r.2) : Nat) ∧ (jb u t k r).c = (sys u).c (num u.ks r.2) ∧ 1 ≤ (sys u).dl (num u.ks r.2) ∧ (sys u).dl (num u.ks r.2) ≤ 1000 := by
  obtain ⟨kd, e, _⟩ := num_get h
  have hk := o.kk kd (List.mem_of_getElem? e)
  have e1 : (sys u).dl (num u.ks r.2) = kd.2.2.toNat := by show ((u.ks[num u.ks r.2]?.map (fun k : Str × Int × Int => k.2.2)).getD 0).toNat = _; rw [e]; rfl
  have e2 : (sys u).c (num u.ks r.2) = kd.2.1 := by show (u.ks[num u.ks r.2]?.map (fun k : Str × Int × Int => k.2.1)).getD 0 = _; rw [e]; rfl
  rw [e1, e2]
  unfold jb
  rw [e]
  refine ⟨rfl, ?_, rfl, by omega, by omega⟩
  show r.1 + kd.2.2 = _
  omega
theorem left_jobK {u : Tk} (o : Ok u) (t : Nat) (s e : Nat) : ∀ (k : Nat) (rs : List (Int × Str)), (∀ r ∈ rs, 0 ≤ r.1 ∧ r.2 ∈ u.ks.map (·.1)) →
    left (fun j => decide ((s : Int) ≤ j.r) && decide (j.d ≤ (e : Int))) (jobK u t k rs) = Dem.work (sys u) s e (rs.map (toR u))
  | _, [], _ => rfl
  | k, r :: l, h => by
    have ih := left_jobK o t s e (k + 1) l fun x hx => h x (List.mem_cons_of_mem _ hx)
    have hr := h r List.mem_cons_self
    obtain ⟨f1, f2, f3, f4, f5⟩ := jb_facts o hr.2 t k
    show (if (decide ((s : Int) ≤ (jb u t k r).r) && decide ((jb u t k r).d ≤ (e : Int))) = true then (jb u t k r).c else 0) + left _ (jobK u t (k + 1) l) = (if s ≤ r.1.toNat ∧ r.1.toNat + (sys u).dl (num u.ks r.2) ≤ e then (sys u).c (num u.ks r.2) else 0) + Dem.work (sys u) s e (l.map (toR u))
    rw [ih, f1, f2, f3]
    congr 1
    by_cases h1 : s ≤ r.1.toNat ∧ r.1.toNat + (sys u).dl (num u.ks r.2) ≤ e
    · rw [if_pos h1, if_pos (by simp; omega)]
    · rw [if_neg h1, if_neg (by simp; omega)]
theorem jobK_all {u : Tk} {t : Nat} {Q : Jb → Prop} : ∀ (k : Nat) (rs : List (Int × Str)), (∀ r ∈ rs, ∀ k : Nat, Q (jb u t k r)) → ∀ b ∈ jobK u t k rs, Q b
  | _, [], _ => fun b h => by cases h
  | k, r :: l, h => fun b hb => by
    rcases List.mem_cons.mp hb with rfl | hb
    · exact h r List.mem_cons_self k
    · exact jobK_all (k + 1) l (fun x hx => h x (List.mem_cons_of_mem _ hx)) b hb
/-- the part's job -/
def jt (c : Int) (L : Nat) : Tk := ⟨[("job", c, (L : Int))], []⟩
theorem num_job (c : Int) (L : Nat) : num (jt c L).ks "job" = 0 := rfl
theorem jb_job (c : Int) (L : Nat) (t k p : Int) : jb (jt c L) t k (p, "job") = ⟨p + L, p, t, k, c⟩ := rfl
/-- two tasks' jobs: one's and the part's job -/
theorem two_jobs {u : Tk} (o : Ok u) {rs : List (Int × Str)} {c : Int} {L : Nat} {p : Int} (hc : 1 ≤ c) (hL : 1 ≤ L) (hL2 : L ≤ 500) (hp : 0 ≤ p) (hp2 : p ≤ 1000) (hrs : ∀ r ∈ rs, 0 ≤ r.1 ∧ r.2 ∈ u.ks.map (·.1) ∧ r.1 ≤ 100000) (hl : rs.length ≤ 450) :
    (∀ b ∈ jobT 0 [(u, rs), (jt c L, [(p, "job")])], 0 ≤ b.c ∧ 0 ≤ b.r ∧ b.r < b.d ∧ b.d ≤ 900000) ∧ (∀ q ∈ [(u, rs), (jt c L, [(p, ("job" : Str))])], RunOk q) ∧ (jobT 0 [(u, rs), (jt c L, [(p, "job")])]).length ≤ 900 ∧
    (∀ s e : Nat, wrk (jobT 0 [(u, rs), (jt c L, [(p, "job")])]) s e = Dem.work (sys u) s e (rs.map (toR u)) + if (s : Int) ≤ p ∧ p + L ≤ e then c else 0) := by
  have e : jobT 0 [(u, rs), (jt c L, [(p, "job")])] = jobK u 0 0 rs ++ [⟨p + L, p, 1, 0, c⟩] := rfl
  rw [e]
  refine ⟨fun b hb => ?_, fun q hq => ?_, ?_, fun s e => ?_⟩
  · rcases List.mem_append.mp hb with hb | hb
    · refine jobK_all 0 rs (Q := fun b => 0 ≤ b.c ∧ 0 ≤ b.r ∧ b.r < b.d ∧ b.d ≤ 900000) (fun r hr k => ?_) b hb
      have h := hrs r hr
      obtain ⟨f1, f2, f3, f4, f5⟩ := jb_facts o h.2.1 (0 : Nat) k
      have := (tab o).cp (num u.ks r.2)
      rw [f1, f2, f3]
      exact ⟨this, h.1, by omega, by omega⟩
    · rw [List.mem_singleton.mp hb]
      exact ⟨by show 0 ≤ c; omega, hp, by show p < p + L; omega, by show p + (L : Int) ≤ 900000; omega⟩
  · rcases List.mem_cons.mp hq with rfl | hq
    · exact ⟨by have := o.k8; show u.ks.length ≤ 1000; omega, hl, fun r hr => (hrs r hr).2.1⟩
    · rw [List.mem_singleton.mp hq]
      exact ⟨by show 1 ≤ 1000; omega, by show 1 ≤ 450; omega, fun r hr => by rw [List.mem_singleton.mp hr]; exact List.mem_singleton.mpr rfl⟩
  · rw [List.length_append, jobK_len]
    show rs.length + 1 ≤ 900
    omega
  · unfold wrk
    rw [left_app, left_jobK o 0 s e 0 rs (fun r hr => ⟨(hrs r hr).1, (hrs r hr).2.1⟩)]
    show _ + ((if (decide ((s : Int) ≤ p) && decide (p + (L : Int) ≤ (e : Int))) = true then c else 0) + 0) = _
    rw [Int.add_zero]
    congr 1
    by_cases h : (s : Int) ≤ p ∧ p + L ≤ (e : Int)
    · rw [if_pos h, if_pos (by simp; omega)]
    · rw [if_neg h, if_neg (by simp; omega)]
theorem wrk_perm {S J : List Jb} (h : S.Perm J) (s e : Int) : wrk S s e = wrk J s e := left_perm h
theorem work_max {t : Tk} (o : Ok t) {rs : List (Int × Str)} (hC : Dem.Chain (sys t) (rs.map (toR t))) (ho : ∀ r ∈ rs, r.2 ∈ t.ks.map (·.1)) (s n : Nat) : Dem.work (sys t) s (s + n) (rs.map (toR t)) ≤ maxL (row t n) := by
  rcases Dem.work_le (tab o) (s := s) (e := s + n) _ hC with h0 | ⟨r, hr, h0⟩
  · exact Int.le_trans h0 (max_nn o n)
  · obtain ⟨r', hr', rfl⟩ := List.mem_map.mp hr
    have hlt := num_lt (ho r' hr')
    rw [show s + n - s = n by omega] at h0
    exact Int.le_trans h0 (row_max_ge hlt)
/-- beside the second task the job is never late -/
theorem calm {u : Tk} (o : Ok u) {B : List Int} {L : Nat} (hL : 1 ≤ L) (hL2 : L ≤ 500) (s : Spl (fun n => maxL (row u n)) B L) {rs : List (Int × Str)} (hC : Course u rs) {p : Int} (hp : 0 ≤ p) (hp2 : p ≤ 1000) :
    Fn_law_late [.lst [dP u, dP (jt (max 1 (gI B L)) L)], .lst [.lst (rs.map dRel), .lst [.tup [.int p, .str "job"]]], dI (ptab u B L)] = .ok .non := by
  have hr : ∀ r ∈ rs, 0 ≤ r.1 ∧ r.2 ∈ u.ks.map (·.1) ∧ r.1 ≤ 100000 := fun r hr => by
    have h := hC.ok r hr
    have := hC.len
    exact ⟨h.1, h.2.1, by omega⟩
  have hlen := hC.len
  obtain ⟨h1, h2, h3, h4⟩ := two_jobs o (rs := rs) (c := max 1 (gI B L)) (L := L) (p := p) (by omega) hL hL2 hp hp2 hr (by omega)
  have f := fill o hL s
  have hpl := ptab_len u B hL
  obtain ⟨S, hS1, hS2, hS3⟩ := f_late (ps := [(u, rs), (jt (max 1 (gI B L)) L, [(p, "job")])]) (T := ptab u B L) (by show 2 ≤ 10; omega) h3 h2 (by omega) (by omega) (fun b hb => by have := h1 b hb; omega)
  rcases hS3 with ⟨n, hn, _, _⟩ | ⟨h, _⟩
  · exfalso
    rw [capT_eq u B hL] at hn
    refine never (fun n => f.capn n) (fun j hj => (h1 j (hS1.mem_iff.mp hj)).1) (fun j hj => ?_) hS2 (fun s n => ?_) n hn
    · have := h1 j (hS1.mem_iff.mp hj)
      omega
    · rw [wrk_perm hS1, h4]
      have e1 := f.enough s n
      have e2 := work_max o hC.ch (fun r hr => (hC.ok r hr).2.1) s n
      have e3 : (if (s : Int) ≤ p ∧ p + L ≤ ((s + n : Nat) : Int) then max 1 (gI B L) else 0) ≤ if L ≤ n then max 1 (gI B L) else 0 := by
        by_cases q : L ≤ n
        · rw [if_pos q]; split <;> omega
        · rw [if_neg q, if_neg (by omega)]; omega
      have e1' : maxL (row u n) + (if L ≤ n then max 1 (gI B L) else 0) ≤ sup (Fill.cap (gI (ptab u B L)) L) s n := e1
      omega
  · exact h
/-- beside the first one it is late -/
theorem tight {t u : Tk} (ot : Ok t) (o : Ok u) {B : List Int} {L : Nat} (hL : 1 ≤ L) (hL2 : L ≤ 400) (s : Spl (fun n => maxL (row u n)) B L) (hgt : maxL (row u L) < maxL (row t L)) {rs : List (Int × Str)} (hH : Heavy t L rs) :
    ∃ n : Nat, n ≤ L ∧ Fn_law_late [.lst [dP t, dP (jt (max 1 (gI B L)) L)], .lst [.lst (rs.map dRel), .lst [.tup [.int 0, .str "job"]]], dI (ptab u B L)] = .ok (.int n) := by
  have hr : ∀ r ∈ rs, 0 ≤ r.1 ∧ r.2 ∈ t.ks.map (·.1) ∧ r.1 ≤ 100000 := fun r hr => by
    have h := hH.ok r hr
    exact ⟨h.1, h.2.1, by omega⟩
  have hlen := hH.len
  obtain ⟨h1, h2, h3, h4⟩ := two_jobs ot (rs := rs) (c := max 1 (gI B L)) (L := L) (p := 0) (by omega) hL (by omega) (by omega) (by omega) hr (by omega)
  have f := fill o hL s
  have hpl := ptab_len u B hL
  obtain ⟨S, hS1, hS2, hS3⟩ := f_late (ps := [(t, rs), (jt (max 1 (gI B L)) L, [(0, "job")])]) (T := ptab u B L) (by show 2 ≤ 10; omega) h3 h2 (by omega) (by omega) (fun b hb => by have := h1 b hb; omega)
  have hlate : late L (st (capT (ptab u B L)) S L) := by
    rw [capT_eq u B hL]
    refine over (fun n => f.capn n) (fun j hj => (h1 j (hS1.mem_iff.mp hj)).1) L ?_
    rw [f.whole]
    have e1 : left (fun j => decide (j.d ≤ (L : Int))) S = wrk S (0 : Nat) L := left_congr fun j hj => by
      have := h1 j (hS1.mem_iff.mp hj)
      rw [Bool.eq_iff_iff]
      simp; omega
    rw [e1, wrk_perm hS1, h4, hH.wk, if_pos (by omega)]
    show maxL (row u L) + _ < _
    omega
  rcases hS3 with ⟨n, hn, hmin, e⟩ | ⟨_, h⟩
  · refine ⟨n, ?_, e⟩
    by_cases q : n ≤ L
    · exact q
    · exact absurd hlate (hmin L (by omega))
  · exfalso
    refine h L ⟨⟨0 + (L : Int), 0, 1, 0, max 1 (gI B L)⟩, hS1.mem_iff.mpr ?_, by show (L : Int) ≤ 0 + L; omega⟩ hlate
    show _ ∈ jobK t 0 0 rs ++ [_]
    exact List.mem_append_right _ List.mem_cons_self
end G90

namespace G90
open PySem PySem.Spec PyProof.Rows L2 Pu Edf
theorem nameOk_of {s : Str} {L : List Nat} (h : s.cps.toList = L) (h1 : 1 ≤ L.length) (h2 : L.length ≤ 12) (h3 : ∀ c ∈ L, c ∈ Cl) : NameOk s := by
  unfold NameOk
  rw [h]
  exact ⟨h1, h2, h3⟩
theorem n_one : NameOk "one" := by
  refine nameOk_of (L := (("one" : Str)).cps.toList) rfl ?_ ?_ ?_ <;> decide +kernel
theorem n_other : NameOk "other" := by
  refine nameOk_of (L := (("other" : Str)).cps.toList) rfl ?_ ?_ ?_ <;> decide +kernel
theorem fld_len (a b : Int) (tb : List Int) : fld 1 "length" (dPart a b tb) = some (.int a) := by
  show (if (1 : Nat) = 1 then List.lookup ("length" : Str) [(("length" : Str), D.int a), (("cost" : Str), D.int b), (("table" : Str), dI tb)] else none) = _
  rw [if_pos rfl]; rfl
theorem fld_cost (a b : Int) (tb : List Int) : fld 1 "cost" (dPart a b tb) = some (.int b) := by
  show (if (1 : Nat) = 1 then List.lookup ("cost" : Str) [(("length" : Str), D.int a), (("cost" : Str), D.int b), (("table" : Str), dI tb)] else none) = _
  rw [if_pos rfl]; rfl
theorem fld_table (a b : Int) (tb : List Int) : fld 1 "table" (dPart a b tb) = some (dI tb) := by
  show (if (1 : Nat) = 1 then List.lookup ("table" : Str) [(("length" : Str), D.int a), (("cost" : Str), D.int b), (("table" : Str), dI tb)] else none) = _
  rw [if_pos rfl]; rfl
theorem law_true : ∀ ns : List Int, ns.length ≤ 63 → Fn_law [.scr ns] = .ok (.bl true) := by
  intro ns hn
  obtain ⟨l0, E0, hl0, hs0⟩ := f_lnums hn
  obtain ⟨l, hl', hl, hs⟩ : ∃ l, l = l0 ++ [0] ∧ l.length = 73 ∧ Small l := ⟨_, rfl, by rw [List.length_append, hl0]; rfl, fun x hx => by
    rcases List.mem_append.mp hx with hx | hx
    · exact hs0 x hx
    · rw [List.mem_singleton.mp hx]; omega⟩
  have hcat : l0.map D.int ++ [.int 0] = l.map D.int := by rw [hl', List.map_append]; rfl
  have hz0 : (l0.map D.int).length + ([D.int 0] : List D).length ≤ sizeLine := by rw [List.length_map, hl0]; exact Nat.le_of_lt (small1000 (by decide))
  have hcat' : ∀ ρ : PEnv, ρ[0]? = some (.val (.scr ns)) → lCat (eCall Fn_law_numbers (aC (eN 0) (aC (eC (.int 72)) aN))) (eL (aC (eC (.int 0)) aN)) ρ = .ok (l.map D.int) := fun ρ h => by
    rw [← hcat]
    have E0' : Fn_law_numbers [.scr ns, .int 72] = .ok (.lst (l0.map D.int)) := E0
    have hz0' : (l0.map D.int).length + 1 ≤ sizeLine := hz0
    clear E0 hz0 hcat
    generalize l0.map D.int = L0 at *
    simp -implicitDefEqProofs [h, E0', hz0']
  clear hcat hz0 E0 hl'
  obtain ⟨t, u, E2, gt, gu⟩ := f_two hl hs
  obtain ⟨hz, E3, hz1, hz2⟩ := p_ok hl (a := 43) (n := 30) (by omega) (by omega)
  obtain ⟨v, E4, v1, v2⟩ := p_ok hl (a := 64) (n := 9) (by omega) (by omega)
  obtain ⟨rs, E5, hC⟩ := f_course hl gu (v := v) ⟨v1, v2⟩
  obtain ⟨p, E6, p1, p2⟩ := p_ok hl (a := 65) (n := 13) (by omega) (by omega)
  have T1 := f_ltask n_one gt
  have T2 := f_ltask n_other gu
  obtain ⟨h, hh⟩ : ∃ h : Nat, 1 + hz = (h : Int) := ⟨(1 + hz).toNat, by omega⟩
  refine runFn_eq rfl ?_
  rcases f_may (a := "one") (b := "other") gt.ok gu.ok (h := h) (by omega) with ⟨L, B, hL1, hL, hgt, hS, M⟩ | ⟨fs, M⟩ | M
  · obtain ⟨hs', H1, H2⟩ := f_heaviest (nm := "one") (h := L) gt.ok (by omega) (Int.lt_of_le_of_lt (max_nn gu.ok L) hgt)
    have C1 := calm gu.ok hL1 (by omega) hS hC p1 (by omega)
    obtain ⟨n, hn1, C2⟩ := tight gt.ok gu.ok hL1 (by omega) hS hgt H2
    have q1 := fld_len L (max 1 (gI B L)) (ptab u B L)
    have q2 := fld_cost L (max 1 (gI B L)) (ptab u B L)
    have q3 := fld_table L (max 1 (gI B L)) (ptab u B L)
    have hzt : ((ptab u B L).map D.int).length ≤ sizeLine := by rw [List.length_map, ptab_len u B hL1]; exact Nat.le_of_lt (small1000 (by omega))
    have hle : (n : Int) ≤ (L : Int) := by omega
    have hj : dP (jt (max 1 (gI B L)) L) = .tup [.lst [.tup [.str "job", .int (max 1 (gI B L)), .int L]], .lst []] := rfl
    rw [hj] at C1 C2
    have hIs : ∀ (a b : Int) (tb : List Int), opIsN (dPart a b tb) .non = some (.bl false) := fun _ _ _ => rfl
    have hIs' := hIs L (max 1 (gI B L)) (ptab u B L)
    clear hIs hj
    unfold dI at q3
    unfold dP at *
    generalize dPart L (max 1 (gI B L)) (ptab u B L) = PP at *
    generalize max 1 (gI B L) = cc at *
    generalize dT "one" t = TO at *
    generalize dT "other" u = TU at *
    have C1' : Fn_law_late [.lst [.tup [.lst (u.ks.map dK), .lst (u.ws.map dW)], .tup [.lst [.tup [.str "job", .int cc, .int L]], .lst []]], .lst [.lst (rs.map dRel), .lst [.tup [.int p, .str "job"]]], .lst ((ptab u B L).map D.int)] = .ok .non := C1
    have C2' : Fn_law_late [.lst [.tup [.lst (t.ks.map dK), .lst (t.ws.map dW)], .tup [.lst [.tup [.str "job", .int cc, .int L]], .lst []]], .lst [.lst (hs'.map dRel), .lst [.tup [.int 0, .str "job"]]], .lst ((ptab u B L).map D.int)] = .ok (.int n) := C2
    clear C1 C2
    generalize (ptab u B L).map D.int = TT at *
    generalize hs'.map dRel = HS at *
    generalize rs.map dRel = RS at *
    generalize t.ks.map dK = K1 at *
    generalize t.ws.map dW = W1 at *
    generalize u.ks.map dK = K2 at *
    generalize u.ws.map dW = W2 at *
    unfold dI at *
    generalize l.map D.int = LL at *
    generalize hVV : (1 : Int) + v = VV at *
    simp -implicitDefEqProofs [-lCat_ap, ini, body_law, sTry, cuIs, hcat', E2, E3, hh, hVV, E4, E5, E6, T1, T2, M, hIs', q1, q2, q3, hzt, C1', H1, C2', hle]
  · unfold dP at *
    generalize dT "one" t = TO at *
    generalize dT "other" u = TU at *
    generalize rs.map dRel = RS at *
    generalize t.ks.map dK = K1 at *
    generalize t.ws.map dW = W1 at *
    generalize u.ks.map dK = K2 at *
    generalize u.ws.map dW = W2 at *
    unfold dI at *
    generalize l.map D.int = LL at *
    generalize hVV : (1 : Int) + v = VV at *
    simp -implicitDefEqProofs [-lCat_ap, ini, body_law, sTry, cuIs, hcat', E2, E3, hh, hVV, E4, E5, E6, T1, T2, M]
  · unfold dP at *
    generalize dT "one" t = TO at *
    generalize dT "other" u = TU at *
    generalize rs.map dRel = RS at *
    generalize t.ks.map dK = K1 at *
    generalize t.ws.map dW = W1 at *
    generalize u.ks.map dK = K2 at *
    generalize u.ws.map dW = W2 at *
    unfold dI at *
    generalize l.map D.int = LL at *
    generalize hVV : (1 : Int) + v = VV at *
    simp -implicitDefEqProofs [-lCat_ap, ini, body_law, sTry, cuIs, hcat', E2, E3, hh, hVV, E4, E5, E6, T1, T2, M]
end G90

namespace G90
open PySem PySem.Spec PyProof.Rows L2 Pu

def topS (i : Nat) : Stmt := PySem.Challenge.pw_neverlate_k90_whole_parts_tell_tasks_apa.main.body.getD i (.Pass ⟨0, 0, 0, 0⟩)
/-- where things stand -/
structure Ad where
  c_Task : Addr
  c_Part : Addr
  c_Undecided : Addr
  f_make_ratio : Addr
  fd_make_ratio : FuncData
  f_compare_ratios : Addr
  fd_compare_ratios : FuncData
  f_own_work : Addr
  fd_own_work : FuncData
  f_is_name : Addr
  fd_is_name : FuncData
  f_are_ways : Addr
  fd_are_ways : FuncData
  f_Task_longest_distance : Addr
  fd_Task_longest_distance : FuncData
  p_Task_longest_distance : Addr
  f_Task_latest_deadline : Addr
  fd_Task_latest_deadline : FuncData
  p_Task_latest_deadline : Addr
  f_Task_kind_number : Addr
  fd_Task_kind_number : FuncData
  f_Part_init : Addr
  fd_Part_init : FuncData
  f_grows_alike : Addr
  fd_grows_alike : FuncData
  f_law_row : Addr
  fd_law_row : FuncData
  f_law_pick : Addr
  fd_law_pick : FuncData
  f_law_scale : Addr
  fd_law_scale : FuncData
  f_law_name : Addr
  fd_law_name : FuncData
  f_law_number : Addr
  fd_law_number : FuncData
  f_are_kinds : Addr
  fd_are_kinds : FuncData
  f_Task_cost : Addr
  fd_Task_cost : FuncData
  f_Task_ways_from : Addr
  fd_Task_ways_from : FuncData
  f_law_numbers : Addr
  fd_law_numbers : FuncData
  f_law_kinds : Addr
  fd_law_kinds : FuncData
  f_law_ways : Addr
  fd_law_ways : FuncData
  f_law_course : Addr
  fd_law_course : FuncData
  f_law_late : Addr
  fd_law_late : FuncData
  f_circuit_mean : Addr
  fd_circuit_mean : FuncData
  f_best_continuation : Addr
  fd_best_continuation : FuncData
  f_best_step : Addr
  fd_best_step : FuncData
  f_Task_init : Addr
  fd_Task_init : FuncData
  f_law_two_tasks : Addr
  fd_law_two_tasks : FuncData
  f_rows : Addr
  fd_rows : FuncData
  f_stays_within : Addr
  fd_stays_within : FuncData
  f_demand : Addr
  fd_demand : FuncData
  f_demands : Addr
  fd_demands : FuncData
  f_heaviest : Addr
  fd_heaviest : FuncData
  f_stands_by : Addr
  fd_stands_by : FuncData
  f_law_task : Addr
  fd_law_task : FuncData
  f_extend_path : Addr
  fd_extend_path : FuncData
  f_first_excess : Addr
  fd_first_excess : FuncData
  f_splittings : Addr
  fd_splittings : FuncData
  f_circuits : Addr
  fd_circuits : FuncData
  f_part_at : Addr
  fd_part_at : FuncData
  f_best_circuit : Addr
  fd_best_circuit : FuncData
  f_share : Addr
  fd_share : FuncData
  f_lasting_kinds : Addr
  fd_lasting_kinds : FuncData
  f_stand_in_step : Addr
  fd_stand_in_step : FuncData
  f_may_stand : Addr
  fd_may_stand : FuncData
  f_law : Addr
  fd_law : FuncData
  f_Undecided : Addr
  cc_Undecided : Addr
  cda_Undecided : Addr
  fd_Undecided : FuncData
def Ad.cm (A : Ad) : Nat → Addr
  | 0 => A.c_Task
  | 1 => A.c_Part
  | 2 => A.c_Undecided
  | _ => 0
structure Fx (P : Program) (K : PySem.W.Frag) (mg : Str → Option Value) (A : Ad) : Prop where
  F_make_ratio : Fun K "make_ratio" "make_ratio" (topS 8) A.f_make_ratio A.fd_make_ratio
  g_make_ratio : mg "make_ratio" = some (.ref A.f_make_ratio)
  F_compare_ratios : Fun K "compare_ratios" "compare_ratios" (topS 9) A.f_compare_ratios A.fd_compare_ratios
  g_compare_ratios : mg "compare_ratios" = some (.ref A.f_compare_ratios)
  F_own_work : Fun K "own_work" "own_work" (topS 18) A.f_own_work A.fd_own_work
  g_own_work : mg "own_work" = some (.ref A.f_own_work)
  F_is_name : Fun K "is_name" "is_name" (topS 32) A.f_is_name A.fd_is_name
  g_is_name : mg "is_name" = some (.ref A.f_is_name)
  F_are_ways : Fun K "are_ways" "are_ways" (topS 34) A.f_are_ways A.fd_are_ways
  g_are_ways : mg "are_ways" = some (.ref A.f_are_ways)
  F_Task_longest_distance : Fun K "longest_distance" "Task.longest_distance" (inClass (topS 35) 1) A.f_Task_longest_distance A.fd_Task_longest_distance
  P_Task_longest_distance : PropOf K (A.cm 0) "longest_distance" A.p_Task_longest_distance A.f_Task_longest_distance
  F_Task_latest_deadline : Fun K "latest_deadline" "Task.latest_deadline" (inClass (topS 35) 2) A.f_Task_latest_deadline A.fd_Task_latest_deadline
  P_Task_latest_deadline : PropOf K (A.cm 0) "latest_deadline" A.p_Task_latest_deadline A.f_Task_latest_deadline
  F_Task_kind_number : Fun K "kind_number" "Task.kind_number" (inClass (topS 35) 3) A.f_Task_kind_number A.fd_Task_kind_number
  M_Task_kind_number : Meth K (A.cm 0) "kind_number" A.f_Task_kind_number
  F_Part_init : Fun K "__init__" "Part.__init__" (inClass (topS 37) 0) A.f_Part_init A.fd_Part_init
  Mk_Part : Mk K (A.cm 1) A.f_Part_init
  F_grows_alike : Fun K "grows_alike" "grows_alike" (topS 40) A.f_grows_alike A.fd_grows_alike
  g_grows_alike : mg "grows_alike" = some (.ref A.f_grows_alike)
  F_law_row : Fun K "_law_row" "_law_row" (topS 48) A.f_law_row A.fd_law_row
  g_law_row : mg "_law_row" = some (.ref A.f_law_row)
  F_law_pick : Fun K "_law_pick" "_law_pick" (topS 50) A.f_law_pick A.fd_law_pick
  g_law_pick : mg "_law_pick" = some (.ref A.f_law_pick)
  F_law_scale : Fun K "_law_scale" "_law_scale" (topS 51) A.f_law_scale A.fd_law_scale
  g_law_scale : mg "_law_scale" = some (.ref A.f_law_scale)
  F_law_name : Fun K "_law_name" "_law_name" (topS 52) A.f_law_name A.fd_law_name
  g_law_name : mg "_law_name" = some (.ref A.f_law_name)
  F_law_number : Fun K "_law_number" "_law_number" (topS 55) A.f_law_number A.fd_law_number
  g_law_number : mg "_law_number" = some (.ref A.f_law_number)
  F_are_kinds : Fun K "are_kinds" "are_kinds" (topS 33) A.f_are_kinds A.fd_are_kinds
  g_are_kinds : mg "are_kinds" = some (.ref A.f_are_kinds)
  F_Task_cost : Fun K "cost" "Task.cost" (inClass (topS 35) 4) A.f_Task_cost A.fd_Task_cost
  M_Task_cost : Meth K (A.cm 0) "cost" A.f_Task_cost
  F_Task_ways_from : Fun K "ways_from" "Task.ways_from" (inClass (topS 35) 6) A.f_Task_ways_from A.fd_Task_ways_from
  M_Task_ways_from : Meth K (A.cm 0) "ways_from" A.f_Task_ways_from
  F_law_numbers : Fun K "_law_numbers" "_law_numbers" (topS 49) A.f_law_numbers A.fd_law_numbers
  g_law_numbers : mg "_law_numbers" = some (.ref A.f_law_numbers)
  F_law_kinds : Fun K "_law_kinds" "_law_kinds" (topS 53) A.f_law_kinds A.fd_law_kinds
  g_law_kinds : mg "_law_kinds" = some (.ref A.f_law_kinds)
  F_law_ways : Fun K "_law_ways" "_law_ways" (topS 54) A.f_law_ways A.fd_law_ways
  g_law_ways : mg "_law_ways" = some (.ref A.f_law_ways)
  F_law_course : Fun K "_law_course" "_law_course" (topS 56) A.f_law_course A.fd_law_course
  g_law_course : mg "_law_course" = some (.ref A.f_law_course)
  F_law_late : Fun K "_law_late" "_law_late" (topS 59) A.f_law_late A.fd_law_late
  g_law_late : mg "_law_late" = some (.ref A.f_law_late)
  F_circuit_mean : Fun K "circuit_mean" "circuit_mean" (topS 13) A.f_circuit_mean A.fd_circuit_mean
  g_circuit_mean : mg "circuit_mean" = some (.ref A.f_circuit_mean)
  F_best_continuation : Fun K "best_continuation" "best_continuation" (topS 19) A.f_best_continuation A.fd_best_continuation
  g_best_continuation : mg "best_continuation" = some (.ref A.f_best_continuation)
  F_best_step : Fun K "best_step" "best_step" (topS 23) A.f_best_step A.fd_best_step
  g_best_step : mg "best_step" = some (.ref A.f_best_step)
  F_Task_init : Fun K "__init__" "Task.__init__" (inClass (topS 35) 0) A.f_Task_init A.fd_Task_init
  Mk_Task : Mk K (A.cm 0) A.f_Task_init
  F_law_two_tasks : Fun K "_law_two_tasks" "_law_two_tasks" (topS 57) A.f_law_two_tasks A.fd_law_two_tasks
  g_law_two_tasks : mg "_law_two_tasks" = some (.ref A.f_law_two_tasks)
  F_rows : Fun K "rows" "rows" (topS 17) A.f_rows A.fd_rows
  g_rows : mg "rows" = some (.ref A.f_rows)
  F_stays_within : Fun K "stays_within" "stays_within" (topS 41) A.f_stays_within A.fd_stays_within
  g_stays_within : mg "stays_within" = some (.ref A.f_stays_within)
  F_demand : Fun K "demand" "demand" (topS 20) A.f_demand A.fd_demand
  g_demand : mg "demand" = some (.ref A.f_demand)
  F_demands : Fun K "demands" "demands" (topS 21) A.f_demands A.fd_demands
  g_demands : mg "demands" = some (.ref A.f_demands)
  F_heaviest : Fun K "heaviest" "heaviest" (topS 22) A.f_heaviest A.fd_heaviest
  g_heaviest : mg "heaviest" = some (.ref A.f_heaviest)
  F_stands_by : Fun K "stands_by" "stands_by" (topS 42) A.f_stands_by A.fd_stands_by
  g_stands_by : mg "stands_by" = some (.ref A.f_stands_by)
  F_law_task : Fun K "_law_task" "_law_task" (topS 58) A.f_law_task A.fd_law_task
  g_law_task : mg "_law_task" = some (.ref A.f_law_task)
  F_extend_path : Fun K "extend_path" "extend_path" (topS 12) A.f_extend_path A.fd_extend_path
  g_extend_path : mg "extend_path" = some (.ref A.f_extend_path)
  F_first_excess : Fun K "first_excess" "first_excess" (topS 38) A.f_first_excess A.fd_first_excess
  g_first_excess : mg "first_excess" = some (.ref A.f_first_excess)
  F_splittings : Fun K "splittings" "splittings" (topS 45) A.f_splittings A.fd_splittings
  g_splittings : mg "splittings" = some (.ref A.f_splittings)
  F_circuits : Fun K "circuits" "circuits" (topS 11) A.f_circuits A.fd_circuits
  g_circuits : mg "circuits" = some (.ref A.f_circuits)
  F_part_at : Fun K "part_at" "part_at" (topS 46) A.f_part_at A.fd_part_at
  g_part_at : mg "part_at" = some (.ref A.f_part_at)
  F_best_circuit : Fun K "best_circuit" "best_circuit" (topS 14) A.f_best_circuit A.fd_best_circuit
  g_best_circuit : mg "best_circuit" = some (.ref A.f_best_circuit)
  F_share : Fun K "share" "share" (topS 15) A.f_share A.fd_share
  g_share : mg "share" = some (.ref A.f_share)
  F_lasting_kinds : Fun K "lasting_kinds" "lasting_kinds" (topS 39) A.f_lasting_kinds A.fd_lasting_kinds
  g_lasting_kinds : mg "lasting_kinds" = some (.ref A.f_lasting_kinds)
  F_stand_in_step : Fun K "stand_in_step" "stand_in_step" (topS 43) A.f_stand_in_step A.fd_stand_in_step
  g_stand_in_step : mg "stand_in_step" = some (.ref A.f_stand_in_step)
  F_may_stand : Fun K "may_stand" "may_stand" (topS 44) A.f_may_stand A.fd_may_stand
  g_may_stand : mg "may_stand" = some (.ref A.f_may_stand)
  F_law : Fun K "law" "law" (topS 60) A.f_law A.fd_law
  g_law : mg "law" = some (.ref A.f_law)
  C_Task : Cls K (A.cm 0)
  g_Task : mg "Task" = some (.ref (A.cm 0))
  C_Part : Cls K (A.cm 1)
  g_Part : mg "Part" = some (.ref (A.cm 1))
  n_Part_cost : NoAttr K (A.cm 1) "cost"
  n_Part_length : NoAttr K (A.cm 1) "length"
  n_Part_table : NoAttr K (A.cm 1) "table"
  n_Task_kinds : NoAttr K (A.cm 0) "kinds"
  n_Task_name : NoAttr K (A.cm 0) "name"
  n_Task_ways : NoAttr K (A.cm 0) "ways"
  b_abs : mg "abs" = none
  b_all : mg "all" = none
  b_any : mg "any" = none
  b_enumerate : mg "enumerate" = none
  b_int : mg "int" = none
  b_len : mg "len" = none
  b_list : mg "list" = none
  b_max : mg "max" = none
  b_min : mg "min" = none
  b_range : mg "range" = none
  b_sorted : mg "sorted" = none
  b_super : mg "super" = none
  b_tuple : mg "tuple" = none
  b_gcd : mg "gcd" = some (.builtin "math.gcd")
  v_MOST_COST : ∃ t, mg "MOST_COST" = some (.int 1000 t)
  v_MOST_DEADLINE : ∃ t, mg "MOST_DEADLINE" = some (.int 1000 t)
  v_MOST_DISTANCE : ∃ t, mg "MOST_DISTANCE" = some (.int 1000 t)
  v_MOST_KINDS : ∃ t, mg "MOST_KINDS" = some (.int 8 t)
  v_MOST_NAME_CHARS : ∃ t, mg "MOST_NAME_CHARS" = some (.int 12 t)
  v_MOST_WAYS : ∃ t, mg "MOST_WAYS" = some (.int 16 t)
  v_NAME_CHARS : ∃ t, mg "NAME_CHARS" = some (.str "abcdefghijklmnopqrstuvwxyz0123456789" t)
  X_Undecided : OexC K (A.cm 2)
  E_Undecided : EFun P K "__init__" "Undecided.__init__" (inClass (topS 6) 0) A.f_Undecided (A.cm 2) A.cc_Undecided A.cda_Undecided A.fd_Undecided
  I_Undecided : PySem.W.findIn K (.ref (A.cm 2)) "__init__" = some (some (.ref A.f_Undecided))
  ti_Undecided : PySem.W.typeIn K (.ref A.f_Undecided) = some (.type "function")
  g_Undecided : mg "Undecided" = some (.ref (A.cm 2))
  nf_Undecided : PySem.W.findIn K (.ref (A.cm 2)) "horizon" = some none
  exm_Undecided : PySem.W.exmOne K (.ref (A.cm 2)) (.ref (A.cm 2)) = some true
section
variable {P : Program} {w : World} {K : PySem.W.Frag} {mg : Str → Option Value} {base : Heap} (A : Ad) (T : Fx P K mg A)
include T
theorem b_make_ratio : Binds K A.fd_make_ratio ["top", "bottom"] [] := T.F_make_ratio.binds fun _ _ _ _ _ _ us hl => match us, hl with | [_, _], _ => rfl
theorem b_compare_ratios : Binds K A.fd_compare_ratios ["first", "second"] [] := T.F_compare_ratios.binds fun _ _ _ _ _ _ us hl => match us, hl with | [_, _], _ => rfl
theorem b_own_work : Binds K A.fd_own_work ["kind", "size"] [] := T.F_own_work.binds fun _ _ _ _ _ _ us hl => match us, hl with | [_, _], _ => rfl
theorem b_is_name : Binds K A.fd_is_name ["text"] [] := T.F_is_name.binds fun _ _ _ _ _ _ us hl => match us, hl with | [_], _ => rfl
theorem b_are_ways : Binds K A.fd_are_ways ["ways", "kind_names"] [] := T.F_are_ways.binds fun _ _ _ _ _ _ us hl => match us, hl with | [_, _], _ => rfl
theorem b_Task_longest_distance : Binds K A.fd_Task_longest_distance ["self"] [] := T.F_Task_longest_distance.binds fun _ _ _ _ _ _ us hl => match us, hl with | [_], _ => rfl
theorem b_Task_latest_deadline : Binds K A.fd_Task_latest_deadline ["self"] [] := T.F_Task_latest_deadline.binds fun _ _ _ _ _ _ us hl => match us, hl with | [_], _ => rfl
theorem b_Task_kind_number : Binds K A.fd_Task_kind_number ["self", "kind_name"] [] := T.F_Task_kind_number.binds fun _ _ _ _ _ _ us hl => match us, hl with | [_, _], _ => rfl
theorem b_Part_init : Binds K A.fd_Part_init ["self", "length", "cost", "table"] [] := T.F_Part_init.binds fun _ _ _ _ _ _ us hl => match us, hl with | [_, _, _, _], _ => rfl
theorem kb_grows_alike_2 : KBinds K A.fd_grows_alike ["found", "kept", "length", "count", "step", "growth"] ["length", "count", "step", "growth"] (gK 2) (gK 2) := kb_of (n := 2) (m := 4) T.F_grows_alike rfl (by decide) fun _ _ _ _ _ _ us ws h1 h2 => match us, ws, h1, h2 with | [_, _], [_, _, _, _], _, _ => rfl
theorem b_law_row : Binds K A.fd_law_row ["_law_cell", "_law_many"] [] := T.F_law_row.binds fun _ _ _ _ _ _ us hl => match us, hl with | [_, _], _ => rfl
theorem b_law_pick : Binds K A.fd_law_pick ["_law_numbers_here", "_law_at", "_law_count"] [] := T.F_law_pick.binds fun _ _ _ _ _ _ us hl => match us, hl with | [_, _, _], _ => rfl
theorem b_law_scale : Binds K A.fd_law_scale ["_law_numbers_here"] [] := T.F_law_scale.binds fun _ _ _ _ _ _ us hl => match us, hl with | [_], _ => rfl
theorem b_law_name : Binds K A.fd_law_name ["_law_numbers_here", "_law_k"] [] := T.F_law_name.binds fun _ _ _ _ _ _ us hl => match us, hl with | [_, _], _ => rfl
theorem b_law_number : Binds K A.fd_law_number ["_law_kinds_here", "_law_name_here"] [] := T.F_law_number.binds fun _ _ _ _ _ _ us hl => match us, hl with | [_, _], _ => rfl
theorem b_are_kinds : Binds K A.fd_are_kinds ["kinds"] [] := T.F_are_kinds.binds fun _ _ _ _ _ _ us hl => match us, hl with | [_], _ => rfl
theorem b_Task_cost : Binds K A.fd_Task_cost ["self", "kind_name"] [] := T.F_Task_cost.binds fun _ _ _ _ _ _ us hl => match us, hl with | [_, _], _ => rfl
theorem b_Task_ways_from : Binds K A.fd_Task_ways_from ["self", "kind_name"] [] := T.F_Task_ways_from.binds fun _ _ _ _ _ _ us hl => match us, hl with | [_, _], _ => rfl
theorem b_law_numbers : Binds K A.fd_law_numbers ["_law_script", "_law_many"] [] := T.F_law_numbers.binds fun _ _ _ _ _ _ us hl => match us, hl with | [_, _], _ => rfl
theorem b_law_kinds : Binds K A.fd_law_kinds ["_law_numbers_here", "_law_at", "_law_most"] [] := T.F_law_kinds.binds fun _ _ _ _ _ _ us hl => match us, hl with | [_, _, _], _ => rfl
theorem b_law_ways : Binds K A.fd_law_ways ["_law_numbers_here", "_law_at", "_law_kinds_here", "_law_most"] [] := T.F_law_ways.binds fun _ _ _ _ _ _ us hl => match us, hl with | [_, _, _, _], _ => rfl
theorem b_law_course : Binds K A.fd_law_course ["_law_numbers_here", "_law_at", "_law_kinds_here", "_law_ways_here", "_law_many"] [] := T.F_law_course.binds fun _ _ _ _ _ _ us hl => match us, hl with | [_, _, _, _, _], _ => rfl
theorem b_law_late : Binds K A.fd_law_late ["_law_tasks", "_law_courses", "_law_table"] [] := T.F_law_late.binds fun _ _ _ _ _ _ us hl => match us, hl with | [_, _, _], _ => rfl
theorem b_circuit_mean : Binds K A.fd_circuit_mean ["task", "circuit"] [] := T.F_circuit_mean.binds fun _ _ _ _ _ _ us hl => match us, hl with | [_, _], _ => rfl
theorem b_best_continuation : Binds K A.fd_best_continuation ["task", "name", "size", "found"] [] := T.F_best_continuation.binds fun _ _ _ _ _ _ us hl => match us, hl with | [_, _, _, _], _ => rfl
theorem b_best_step : Binds K A.fd_best_step ["task", "name", "rest", "found"] [] := T.F_best_step.binds fun _ _ _ _ _ _ us hl => match us, hl with | [_, _, _, _], _ => rfl
theorem kbn_Task_init_1 : KBn K A.fd_Task_init ["self", "name", "kinds", "ways"] 2 ["kinds", "ways"] (fun us ws => us ++ ws) (fun us ws => us ++ ws) := kbn_of T.F_Task_init fun _ _ _ _ _ _ us ws h1 h2 => match us, ws, h1, h2 with | [_, _], [_, _], _, _ => rfl
theorem b_law_two_tasks : Binds K A.fd_law_two_tasks ["_law_numbers_here"] [] := T.F_law_two_tasks.binds fun _ _ _ _ _ _ us hl => match us, hl with | [_], _ => rfl
theorem b_rows : Binds K A.fd_rows ["task", "length"] [] := T.F_rows.binds fun _ _ _ _ _ _ us hl => match us, hl with | [_, _], _ => rfl
theorem kb_stays_within_3 : KBinds K A.fd_stays_within ["task", "found", "kept", "length", "growth"] ["length", "growth"] (gK 3) (gK 3) := kb_of (n := 3) (m := 2) T.F_stays_within rfl (by decide) fun _ _ _ _ _ _ us ws h1 h2 => match us, ws, h1, h2 with | [_, _, _], [_, _], _, _ => rfl
theorem b_demand : Binds K A.fd_demand ["task", "length"] [] := T.F_demand.binds fun _ _ _ _ _ _ us hl => match us, hl with | [_, _], _ => rfl
theorem b_demands : Binds K A.fd_demands ["task", "length"] [] := T.F_demands.binds fun _ _ _ _ _ _ us hl => match us, hl with | [_, _], _ => rfl
theorem b_heaviest : Binds K A.fd_heaviest ["task", "length"] [] := T.F_heaviest.binds fun _ _ _ _ _ _ us hl => match us, hl with | [_, _], _ => rfl
theorem kb_stands_by_5 : KBinds K A.fd_stands_by ["one", "other", "mine", "theirs", "kept", "step", "horizon"] ["step", "horizon"] (gK 5) (gK 5) := kb_of (n := 5) (m := 2) T.F_stands_by rfl (by decide) fun _ _ _ _ _ _ us ws h1 h2 => match us, ws, h1, h2 with | [_, _, _, _, _], [_, _], _, _ => rfl
theorem b_law_task : Binds K A.fd_law_task ["_law_name_here", "_law_task_here"] [] := T.F_law_task.binds fun _ _ _ _ _ _ us hl => match us, hl with | [_, _], _ => rfl
theorem b_extend_path : Binds K A.fd_extend_path ["task", "start", "last", "path", "visited", "found"] [] := T.F_extend_path.binds fun _ _ _ _ _ _ us hl => match us, hl with | [_, _, _, _, _, _], _ => rfl
theorem kb_first_excess_2 : KBinds K A.fd_first_excess ["one", "other", "horizon"] ["horizon"] (gK 2) (gK 2) := kb_of (n := 2) (m := 1) T.F_first_excess rfl (by decide) fun _ _ _ _ _ _ us ws h1 h2 => match us, ws, h1, h2 with | [_, _], [_], _, _ => rfl
theorem b_splittings : Binds K A.fd_splittings ["task", "length"] [] := T.F_splittings.binds fun _ _ _ _ _ _ us hl => match us, hl with | [_, _], _ => rfl
theorem b_circuits : Binds K A.fd_circuits ["task"] [] := T.F_circuits.binds fun _ _ _ _ _ _ us hl => match us, hl with | [_], _ => rfl
theorem b_part_at : Binds K A.fd_part_at ["task", "length"] [] := T.F_part_at.binds fun _ _ _ _ _ _ us hl => match us, hl with | [_, _], _ => rfl
theorem b_best_circuit : Binds K A.fd_best_circuit ["task"] [] := T.F_best_circuit.binds fun _ _ _ _ _ _ us hl => match us, hl with | [_], _ => rfl
theorem b_share : Binds K A.fd_share ["task"] [] := T.F_share.binds fun _ _ _ _ _ _ us hl => match us, hl with | [_], _ => rfl
theorem b_lasting_kinds : Binds K A.fd_lasting_kinds ["task"] [] := T.F_lasting_kinds.binds fun _ _ _ _ _ _ us hl => match us, hl with | [_], _ => rfl
theorem kb_stand_in_step_2 : KBinds K A.fd_stand_in_step ["one", "other", "horizon"] ["horizon"] (gK 2) (gK 2) := kb_of (n := 2) (m := 1) T.F_stand_in_step rfl (by decide) fun _ _ _ _ _ _ us ws h1 h2 => match us, ws, h1, h2 with | [_, _], [_], _, _ => rfl
theorem kb_may_stand_2 : KBinds K A.fd_may_stand ["one", "other", "horizon"] ["horizon"] (gK 2) (gK 2) := kb_of (n := 2) (m := 1) T.F_may_stand rfl (by decide) fun _ _ _ _ _ _ us ws h1 h2 => match us, ws, h1, h2 with | [_, _], [_], _, _ => rfl
theorem b_law : Binds K A.fd_law ["_law_script"] [] := T.F_law.binds fun _ _ _ _ _ _ us hl => match us, hl with | [_], _ => rfl
theorem b_Undecided : Binds K A.fd_Undecided ["self", "horizon"] [] := ebinds T.E_Undecided fun _ _ _ _ _ us hl => match us, hl with | [_, _], _ => rfl
theorem ok_Undecided : FnOk P w K mg base CX0 1 A.f_Undecided A.fd_Undecided ["self", "horizon"] (spE1 (A.cm 2) "horizon") :=
  fnE1 T.E_Undecided T.X_Undecided (NdefX.nscope_by (by decide +kernel)) T.nf_Undecided rfl rfl rfl T.b_super (by decide) (by decide) (by decide) (by decide) rfl (fun _ => ⟨_, rfl⟩)
abbrev N_make_ratio : List Str := ["top", "bottom", "divisor"]
omit T in theorem sc_make_ratio : FnScope N_make_ratio ["top", "bottom"] (defScope (topS 8)) := ⟨rfl, rfl, rfl, by decide +kernel, rfl, by decide +kernel, by decide +kernel⟩
theorem ok_make_ratio : FnOk P w K mg base CX0 1 A.f_make_ratio A.fd_make_ratio ["top", "bottom"] (PS0 ⟨K, A.cm⟩ Fn_make_ratio) :=
  fn0 (K := ⟨K, A.cm⟩) T.F_make_ratio sc_make_ratio rfl rfl fun cdv Ar outer s' H Fz E hr =>
    (sss_cons (ss_if (st_eq hr.units (sb_of (se_nm 1)) (sb_of se_int)) sss_never sss_nil)
    (sss_cons (ss_if (st_lt (sb_of (se_nm 1)) (sb_of se_int)) (sss_cons (ss_set (se_neg (sb_of (se_nm 0))) sc_make_ratio.nd)
    (sss_one (ss_set (se_neg (sb_of (se_nm 1))) sc_make_ratio.nd))) sss_nil)
    (sss_cons (ss_set (se_callBf cr_gcd l_gcd rfl T.b_gcd (sab_cons (sb_of (se_nm 0)) (sab_cons (sb_of (se_nm 1)) sab_nil))) sc_make_ratio.nd)
    (sss_one (ss_ret (se_tup (sa_cons (se_div (sb_of (se_nm 0)) (sb_of (se_nm 2))) (sa_cons (se_div (sb_of (se_nm 1)) (sb_of (se_nm 2))) sa_nil)) (len_le (aC_len (aC_len aN_len)) (by decide))))))))
abbrev N_compare_ratios : List Str := ["first", "second", "left", "right"]
omit T in theorem sc_compare_ratios : FnScope N_compare_ratios ["first", "second"] (defScope (topS 9)) := ⟨rfl, rfl, rfl, by decide +kernel, rfl, by decide +kernel, by decide +kernel⟩
theorem ok_compare_ratios : FnOk P w K mg base CX0 1 A.f_compare_ratios A.fd_compare_ratios ["first", "second"] (PS0 ⟨K, A.cm⟩ Fn_compare_ratios) :=
  fn0 (K := ⟨K, A.cm⟩) T.F_compare_ratios sc_compare_ratios rfl rfl fun cdv Ar outer s' H Fz E hr =>
    (sss_cons (ss_set (se_mul (sb_of (se_ix (sb_of (se_nm 0)) (sb_of se_int))) (sb_of (se_ix (sb_of (se_nm 1)) (sb_of se_int)))) sc_compare_ratios.nd)
    (sss_cons (ss_set (se_mul (sb_of (se_ix (sb_of (se_nm 1)) (sb_of se_int))) (sb_of (se_ix (sb_of (se_nm 0)) (sb_of se_int)))) sc_compare_ratios.nd)
    (sss_cons (ss_if (st_lt (sb_of (se_nm 2)) (sb_of (se_nm 3))) (sss_one (ss_ret (se_neg (sb_of se_int)))) sss_nil)
    (sss_cons (ss_if (st_gt (sb_of (se_nm 2)) (sb_of (se_nm 3))) (sss_one (ss_ret se_int)) sss_nil)
    (sss_one (ss_ret se_int))))))
abbrev N_own_work : List Str := ["kind", "size"]
omit T in theorem sc_own_work : FnScope N_own_work ["kind", "size"] (defScope (topS 18)) := ⟨rfl, rfl, rfl, by decide +kernel, rfl, by decide +kernel, by decide +kernel⟩
theorem ok_own_work : FnOk P w K mg base CX0 1 A.f_own_work A.fd_own_work ["kind", "size"] (PS0 ⟨K, A.cm⟩ Fn_own_work) :=
  fn0 (K := ⟨K, A.cm⟩) T.F_own_work sc_own_work rfl rfl fun cdv Ar outer s' H Fz E hr =>
    (sss_cons (ss_if (st_le (sb_of (se_ix (sb_of (se_nm 0)) (sb_of se_int))) (sb_of (se_nm 1))) (sss_one (ss_ret (se_ix (sb_of (se_nm 0)) (sb_of se_int)))) sss_nil)
    (sss_one (ss_ret se_int)))
abbrev N_is_name : List Str := ["text", "char"]
omit T in theorem sc_is_name : FnScope N_is_name ["text"] (defScope (topS 32)) := ⟨rfl, rfl, rfl, by decide +kernel, rfl, by decide +kernel, by decide +kernel⟩
theorem ok_is_name : FnOk P w K mg base CX0 1 A.f_is_name A.fd_is_name ["text"] (PS0 ⟨K, A.cm⟩ Fn_is_name) :=
  fn0 (K := ⟨K, A.cm⟩) T.F_is_name sc_is_name rfl rfl fun cdv Ar outer s' H Fz E hr =>
    (sss_cons (ss_if (st_not (st_lele (sb_of se_int) (sb_of (se_len rfl T.b_len (sab_cons (sb_of (se_nm 0)) sab_nil))) (sb_of (se_gint rfl T.v_MOST_NAME_CHARS)))) (sss_one (ss_ret se_bl)) sss_nil)
    (sss_one (ss_ret (se_callB (cr_all rfl) l_all rfl T.b_all (by decide +kernel) (sab_cons (sb_of (se_new (sn_lc rfl sc_is_name.nd (si_seq (se_nm 0)) (blkOk_by (own := [("char", 1)]) (N := N_is_name) (sc := defScope (topS 32)) (by decide +kernel)) rfl ioN (fun _ _ _ _ _ => (sg_name sc_is_name.nd)) (fun _ _ _ _ _ => sts_nil) (fun _ _ _ _ _ => (se_in (sb_of (se_nm 1)) (sb_of (se_gstr rfl T.v_NAME_CHARS))))))) sab_nil)))))
abbrev N_are_ways : List Str := ["ways", "kind_names", "source", "target", "distance"]
omit T in theorem sc_are_ways : FnScope N_are_ways ["ways", "kind_names"] (defScope (topS 34)) := ⟨rfl, rfl, rfl, by decide +kernel, rfl, by decide +kernel, by decide +kernel⟩
theorem ok_are_ways : FnOk P w K mg base CX0 1 A.f_are_ways A.fd_are_ways ["ways", "kind_names"] (PS0 ⟨K, A.cm⟩ Fn_are_ways) :=
  fn0 (K := ⟨K, A.cm⟩) T.F_are_ways sc_are_ways rfl rfl fun cdv Ar outer s' H Fz E hr =>
    (sss_cons (ss_if (st_gt (sb_of (se_len rfl T.b_len (sab_cons (sb_of (se_nm 0)) sab_nil))) (sb_of (se_gint rfl T.v_MOST_WAYS))) (sss_one (ss_ret se_bl)) sss_nil)
    (sss_cons (ss_for .never rfl (si_seq (se_nm 0)) (sg_tup rfl (sgs_cons (sg_name sc_are_ways.nd) (sgs_cons (sg_name sc_are_ways.nd) (sgs_cons (sg_name sc_are_ways.nd) sgs_nil))) 3) (sss_cons (ss_if (st_w (sw_or (st_notIn (sb_of (se_nm 2)) (sb_of (se_nm 1))) (sw_or1 (st_notIn (sb_of (se_nm 3)) (sb_of (se_nm 1)))))) (sss_one (ss_ret se_bl)) sss_nil)
    (sss_one (ss_if (st_not (st_lele (sb_of se_int) (sb_of (se_nm 4)) (sb_of (se_gint rfl T.v_MOST_DISTANCE)))) (sss_one (ss_ret se_bl)) sss_nil))))
    (sss_one (ss_ret se_bl))))
abbrev N_Task_longest_distance : List Str := ["self", "way"]
omit T in theorem sc_Task_longest_distance : FnScope N_Task_longest_distance ["self"] (defScope (inClass (topS 35) 1)) := ⟨rfl, rfl, rfl, by decide +kernel, rfl, by decide +kernel, by decide +kernel⟩
theorem ok_Task_longest_distance : FnOk P w K mg base CX0 1 A.f_Task_longest_distance A.fd_Task_longest_distance ["self"] (PS0 ⟨K, A.cm⟩ Fn_Task_longest_distance) :=
  fn0 (K := ⟨K, A.cm⟩) T.F_Task_longest_distance sc_Task_longest_distance rfl rfl fun cdv Ar outer s' H Fz E hr =>
    (sss_one (ss_ret (se_maxD rfl hr.units rfl T.b_max (sab_cons (sb_of (se_new (sn_lc rfl sc_Task_longest_distance.nd (si_seq (se_fld (C := 0) T.C_Task T.n_Task_ways (se_nm 0))) (blkOk_by (own := [("way", 1)]) (N := N_Task_longest_distance) (sc := defScope (inClass (topS 35) 1)) (by decide +kernel)) rfl ioN (fun _ _ _ _ _ => (sg_name sc_Task_longest_distance.nd)) (fun _ _ _ _ _ => sts_nil) (fun _ _ _ _ _ => (se_ix (sb_of (se_nm 1)) (sb_of se_int)))))) sab_nil) se_int)))
abbrev N_Task_latest_deadline : List Str := ["self", "kind"]
omit T in theorem sc_Task_latest_deadline : FnScope N_Task_latest_deadline ["self"] (defScope (inClass (topS 35) 2)) := ⟨rfl, rfl, rfl, by decide +kernel, rfl, by decide +kernel, by decide +kernel⟩
theorem ok_Task_latest_deadline : FnOk P w K mg base CX0 1 A.f_Task_latest_deadline A.fd_Task_latest_deadline ["self"] (PS0 ⟨K, A.cm⟩ Fn_Task_latest_deadline) :=
  fn0 (K := ⟨K, A.cm⟩) T.F_Task_latest_deadline sc_Task_latest_deadline rfl rfl fun cdv Ar outer s' H Fz E hr =>
    (sss_one (ss_ret (se_callB (cr_max rfl) l_maxL rfl T.b_max (by decide +kernel) (sab_cons (sb_of (se_new (sn_lc rfl sc_Task_latest_deadline.nd (si_seq (se_fld (C := 0) T.C_Task T.n_Task_kinds (se_nm 0))) (blkOk_by (own := [("kind", 1)]) (N := N_Task_latest_deadline) (sc := defScope (inClass (topS 35) 2)) (by decide +kernel)) rfl ioN (fun _ _ _ _ _ => (sg_name sc_Task_latest_deadline.nd)) (fun _ _ _ _ _ => sts_nil) (fun _ _ _ _ _ => (se_ix (sb_of (se_nm 1)) (sb_of se_int)))))) sab_nil))))
abbrev N_Task_kind_number : List Str := ["self", "kind_name", "number", "kind"]
omit T in theorem sc_Task_kind_number : FnScope N_Task_kind_number ["self", "kind_name"] (defScope (inClass (topS 35) 3)) := ⟨rfl, rfl, rfl, by decide +kernel, rfl, by decide +kernel, by decide +kernel⟩
theorem ok_Task_kind_number : FnOk P w K mg base CX0 1 A.f_Task_kind_number A.fd_Task_kind_number ["self", "kind_name"] (PS0 ⟨K, A.cm⟩ Fn_Task_kind_number) :=
  fn0 (K := ⟨K, A.cm⟩) T.F_Task_kind_number sc_Task_kind_number rfl rfl fun cdv Ar outer s' H Fz E hr =>
    (sss_cons (ss_for .never rfl (si_enum rfl T.b_enumerate (sa_cons (se_fld (C := 0) T.C_Task T.n_Task_kinds (se_nm 0)) sa_nil)) (sg_tup rfl (sgs_cons (sg_name sc_Task_kind_number.nd) (sgs_cons (sg_name sc_Task_kind_number.nd) sgs_nil)) 2) (sss_one (ss_if (st_eq hr.units (sb_of (se_ix (sb_of (se_nm 3)) (sb_of se_int))) (sb_of (se_nm 1))) (sss_one (ss_ret (se_nm 2))) sss_nil)))
    sss_never)
abbrev N_Part_init : List Str := ["self", "length", "cost", "table"]
omit T in theorem sc_Part_init : FnScope N_Part_init ["self", "length", "cost", "table"] (defScope (inClass (topS 37) 0)) := ⟨rfl, rfl, rfl, by decide +kernel, rfl, by decide +kernel, by decide +kernel⟩
theorem ok_Part_init : FnOk P w K mg base CX0 1 A.f_Part_init A.fd_Part_init ["self", "length", "cost", "table"] (PIn ⟨K, A.cm⟩ 1 Fn_Part_init) :=
  fnI (K := ⟨K, A.cm⟩) T.F_Part_init sc_Part_init rfl rfl fun cdv Ar outer s' H B Fz E a hr =>
    (sss_cons (ss_fld (i := 0) (C := 1) T.C_Part T.n_Part_length (se_nm 1))
    (sss_cons (ss_fld (i := 0) (C := 1) T.C_Part T.n_Part_cost (se_nm 2))
    (sss_one (ss_fld (i := 0) (C := 1) T.C_Part T.n_Part_table (se_new (sn_list rfl T.b_list (sab_cons (sb_of (se_nm 3)) sab_nil)))))))
abbrev N_grows_alike : List Str := ["found", "kept", "length", "count", "step", "growth", "below", "upper", "lower", "number", "value"]
omit T in theorem sc_grows_alike : FnScope N_grows_alike ["found", "kept", "length", "count", "step", "growth"] (defScope (topS 40)) := ⟨rfl, rfl, rfl, by decide +kernel, rfl, by decide +kernel, by decide +kernel⟩
theorem ok_grows_alike : FnOk P w K mg base CX0 1 A.f_grows_alike A.fd_grows_alike ["found", "kept", "length", "count", "step", "growth"] (PS0 ⟨K, A.cm⟩ Fn_grows_alike) :=
  fn0 (K := ⟨K, A.cm⟩) T.F_grows_alike sc_grows_alike rfl rfl fun cdv Ar outer s' H Fz E hr =>
    (sss_cons (ss_for .never rfl (si_range1 rfl T.b_range (sa_cons (se_nm 3) sa_nil)) (sg_name sc_grows_alike.nd) (sss_cons (ss_set (se_ix (sb_of (se_nm 0)) (sb_of (se_sub (sb_of (se_nm 2)) (sb_of (se_nm 6))))) sc_grows_alike.nd)
    (sss_cons (ss_set (se_ix (sb_of (se_nm 0)) (sb_of (se_sub (sb_of (se_sub (sb_of (se_nm 2)) (sb_of (se_nm 6)))) (sb_of (se_nm 4))))) sc_grows_alike.nd)
    (sss_one (ss_for .never rfl (si_enum rfl T.b_enumerate (sa_cons (se_nm 7) sa_nil)) (sg_tup rfl (sgs_cons (sg_name sc_grows_alike.nd) (sgs_cons (sg_name sc_grows_alike.nd) sgs_nil)) 2) (sss_cons (ss_if (st_gt (sb_of (se_sub (sb_of (se_nm 10)) (sb_of (se_ix (sb_of (se_nm 8)) (sb_of (se_nm 9)))))) (sb_of (se_nm 5))) (sss_one (ss_ret se_bl)) sss_nil)
    (sss_one (ss_if (st_w (sw_and (st_in (sb_of (se_nm 9)) (sb_of (se_nm 1))) (sw_and1 (st_ne hr.units (sb_of (se_sub (sb_of (se_nm 10)) (sb_of (se_ix (sb_of (se_nm 8)) (sb_of (se_nm 9)))))) (sb_of (se_nm 5)))))) (sss_one (ss_ret se_bl)) sss_nil))))))))
    (sss_one (ss_ret se_bl)))
abbrev N_law_row : List Str := ["_law_cell", "_law_many", "_law_row_here", "_law_rest", "_law_k", "_law_mixed"]
omit T in theorem sc_law_row : FnScope N_law_row ["_law_cell", "_law_many"] (defScope (topS 48)) := ⟨rfl, rfl, rfl, by decide +kernel, rfl, by decide +kernel, by decide +kernel⟩
theorem ok_law_row : FnOk P w K mg base CX0 1 A.f_law_row A.fd_law_row ["_law_cell", "_law_many"] (PS0 ⟨K, A.cm⟩ Fn_law_row) :=
  fn0 (K := ⟨K, A.cm⟩) T.F_law_row sc_law_row rfl rfl fun cdv Ar outer s' H Fz E hr =>
    (sss_cons (ss_own (sn_lst sa_nil (by decide) (len_le aN_len (by decide))) sc_law_row.nd)
    (sss_cons (ss_set (se_callB call_abs l_abs rfl T.b_abs (by decide +kernel) (sab_cons (sb_of (se_nm 0)) sab_nil)) sc_law_row.nd)
    (sss_cons (ss_for .never rfl (si_range1 rfl T.b_range (sa_cons (se_nm 1) sa_nil)) (sg_name sc_law_row.nd) (sss_one (ss_if (st_ge (sb_of (se_callB call_abs l_abs rfl T.b_abs (by decide +kernel) (sab_cons (sb_of (se_nm 0)) sab_nil))) (sb_of (se_pow (sb_of se_int) (sb_of se_int)))) (sss_cons (ss_app (i := 2) (se_mod (sb_of (se_callTy call_int1 l_int rfl T.b_int (by decide +kernel) (sab_cons (sb_of (se_nm 3)) sab_nil))) (sb_of se_int)))
    (sss_one (ss_set (se_div (sb_of (se_nm 3)) (sb_of se_int)) sc_law_row.nd))) (sss_cons (ss_set (se_mod (sb_of (se_callTy call_int1 l_int rfl T.b_int (by decide +kernel) (sab_cons (sb_of (se_add (sb_of (se_mul (sb_of (se_nm 3)) (sb_of se_int))) (sb_of (se_mul (sb_of (se_add (sb_of (se_nm 4)) (sb_of se_int))) (sb_of se_int))))) sab_nil))) (sb_of se_int)) sc_law_row.nd)
    (sss_cons (ss_set (se_mod (sb_of (se_callTy call_int1 l_int rfl T.b_int (by decide +kernel) (sab_cons (sb_of (se_add (sb_of (se_mul (sb_of (se_nm 5)) (sb_of se_int))) (sb_of (se_mul (sb_of se_int) (sb_of (se_add (sb_of (se_nm 4)) (sb_of se_int))))))) sab_nil))) (sb_of se_int)) sc_law_row.nd)
    (sss_one (ss_app (i := 2) (se_mod (sb_of (se_callTy call_int1 l_int rfl T.b_int (by decide +kernel) (sab_cons (sb_of (se_nm 5)) sab_nil))) (sb_of se_int)))))))))
    (sss_one (ss_frz (ss_ret (se_nm 2)))))))
abbrev N_law_pick : List Str := ["_law_numbers_here", "_law_at", "_law_count"]
omit T in theorem sc_law_pick : FnScope N_law_pick ["_law_numbers_here", "_law_at", "_law_count"] (defScope (topS 50)) := ⟨rfl, rfl, rfl, by decide +kernel, rfl, by decide +kernel, by decide +kernel⟩
theorem ok_law_pick : FnOk P w K mg base CX0 1 A.f_law_pick A.fd_law_pick ["_law_numbers_here", "_law_at", "_law_count"] (PS0 ⟨K, A.cm⟩ Fn_law_pick) :=
  fn0 (K := ⟨K, A.cm⟩) T.F_law_pick sc_law_pick rfl rfl fun cdv Ar outer s' H Fz E hr =>
    (sss_one (ss_ret (se_mod (sb_of (se_callTy call_int1 l_int rfl T.b_int (by decide +kernel) (sab_cons (sb_of (se_ix (sb_of (se_nm 0)) (sb_of (se_nm 1)))) sab_nil))) (sb_of (se_nm 2)))))
abbrev N_law_scale : List Str := ["_law_numbers_here", "_law_last"]
omit T in theorem sc_law_scale : FnScope N_law_scale ["_law_numbers_here"] (defScope (topS 51)) := ⟨rfl, rfl, rfl, by decide +kernel, rfl, by decide +kernel, by decide +kernel⟩
theorem ok_law_scale : FnOk P w K mg base CX0 1 A.f_law_scale A.fd_law_scale ["_law_numbers_here"] (PS0 ⟨K, A.cm⟩ Fn_law_scale) :=
  fn0 (K := ⟨K, A.cm⟩) T.F_law_scale sc_law_scale rfl rfl fun cdv Ar outer s' H Fz E hr =>
    (sss_cons (ss_set (se_callTy call_int1 l_int rfl T.b_int (by decide +kernel) (sab_cons (sb_of (se_ix (sb_of (se_nm 0)) (sb_of (se_sub (sb_of (se_len rfl T.b_len (sab_cons (sb_of (se_nm 0)) sab_nil))) (sb_of se_int))))) sab_nil)) sc_law_scale.nd)
    (sss_one (ss_ret (se_ix (sb_of (se_new (sn_lst (sa_cons se_int (sa_cons se_int (sa_cons (se_add (sb_of se_int) (sb_of (se_mod (sb_of (se_callTy call_int1 l_int rfl T.b_int (by decide +kernel) (sab_cons (sb_of (se_div (sb_of (se_nm 1)) (sb_of se_int))) sab_nil))) (sb_of se_int)))) sa_nil))) (by decide) (len_le (aC_len (aC_len (aC_len aN_len))) (by decide))))) (sb_of (se_mod (sb_of (se_callTy call_int1 l_int rfl T.b_int (by decide +kernel) (sab_cons (sb_of (se_nm 1)) sab_nil))) (sb_of se_int)))))))
abbrev N_law_name : List Str := ["_law_numbers_here", "_law_k", "_law_chars", "_law_seed", "_law_word", "_law_cut", "_law_j"]
omit T in theorem sc_law_name : FnScope N_law_name ["_law_numbers_here", "_law_k"] (defScope (topS 52)) := ⟨rfl, rfl, rfl, by decide +kernel, rfl, by decide +kernel, by decide +kernel⟩
theorem ok_law_name : FnOk P w K mg base CX0 1 A.f_law_name A.fd_law_name ["_law_numbers_here", "_law_k"] (PS0 ⟨K, A.cm⟩ Fn_law_name) :=
  fn0 (K := ⟨K, A.cm⟩) T.F_law_name sc_law_name rfl rfl fun cdv Ar outer s' H Fz E hr =>
    (sss_cons (ss_set se_str sc_law_name.nd)
    (sss_cons (ss_set (se_callTy call_int1 l_int rfl T.b_int (by decide +kernel) (sab_cons (sb_of (se_ix (sb_of (se_nm 0)) (sb_of (se_sub (sb_of (se_len rfl T.b_len (sab_cons (sb_of (se_nm 0)) sab_nil))) (sb_of se_int))))) sab_nil)) sc_law_name.nd)
    (sss_cons (ss_set (se_join se_str (fun _ _ h => by cases h; exact ⟨_, rfl⟩) (sb_of (se_new (sn_lc rfl sc_law_name.nd (si_range1 rfl T.b_range (sa_cons (se_mod (sb_of (se_callTy call_int1 l_int rfl T.b_int (by decide +kernel) (sab_cons (sb_of (se_nm 3)) sab_nil))) (sb_of se_int)) sa_nil)) (blkOk_by (own := [("_law_j", 6)]) (N := N_law_name) (sc := defScope (topS 52)) (by decide +kernel)) rfl ioN (fun _ _ _ _ _ => (sg_name sc_law_name.nd)) (fun _ _ _ _ _ => sts_nil) (fun _ _ _ _ _ => (se_ix (sb_of (se_nm 2)) (sb_of (se_mod (sb_of (se_callTy call_int1 l_int rfl T.b_int (by decide +kernel) (sab_cons (sb_of (se_add (sb_of (se_add (sb_of (se_div (sb_of (se_nm 3)) (sb_of se_int))) (sb_of (se_mul (sb_of se_int) (sb_of (se_nm 6)))))) (sb_of (se_mul (sb_of (se_nm 3)) (sb_of (se_nm 6)))))) sab_nil))) (sb_of se_int))))))))) sc_law_name.nd)
    (sss_cons (ss_set (se_mod (sb_of (se_callTy call_int1 l_int rfl T.b_int (by decide +kernel) (sab_cons (sb_of (se_ix (sb_of (se_nm 0)) (sb_of (se_sub (sb_of (se_len rfl T.b_len (sab_cons (sb_of (se_nm 0)) sab_nil))) (sb_of se_int))))) sab_nil))) (sb_of (se_add (sb_of (se_len rfl T.b_len (sab_cons (sb_of (se_nm 4)) sab_nil))) (sb_of se_int)))) sc_law_name.nd)
    (sss_one (ss_ret (se_add (sb_of (se_add (sb_of (se_slS (sb_of (se_nm 4)) so_none (so_some (se_nm 5)))) (sb_of (se_ix (sb_of se_str) (sb_of (se_nm 1)))))) (sb_of (se_slS (sb_of (se_nm 4)) (so_some (se_nm 5)) so_none)))))))))
abbrev N_law_number : List Str := ["_law_kinds_here", "_law_name_here", "_law_number_here"]
omit T in theorem sc_law_number : FnScope N_law_number ["_law_kinds_here", "_law_name_here"] (defScope (topS 55)) := ⟨rfl, rfl, rfl, by decide +kernel, rfl, by decide +kernel, by decide +kernel⟩
theorem ok_law_number : FnOk P w K mg base CX0 1 A.f_law_number A.fd_law_number ["_law_kinds_here", "_law_name_here"] (PS0 ⟨K, A.cm⟩ Fn_law_number) :=
  fn0 (K := ⟨K, A.cm⟩) T.F_law_number sc_law_number rfl rfl fun cdv Ar outer s' H Fz E hr =>
    (sss_cons (ss_for .never rfl (si_range1 rfl T.b_range (sa_cons (se_len rfl T.b_len (sab_cons (sb_of (se_nm 0)) sab_nil)) sa_nil)) (sg_name sc_law_number.nd) (sss_one (ss_if (st_eq hr.units (sb_of (se_ix (sb_of (se_ix (sb_of (se_nm 0)) (sb_of (se_nm 2)))) (sb_of se_int))) (sb_of (se_nm 1))) (sss_one (ss_ret (se_nm 2))) sss_nil)))
    (sss_one (ss_ret se_int)))
abbrev N_are_kinds : List Str := ["kinds", "seen", "name", "cost", "deadline"]
omit T in theorem sc_are_kinds : FnScope N_are_kinds ["kinds"] (defScope (topS 33)) := ⟨rfl, rfl, rfl, by decide +kernel, rfl, by decide +kernel, by decide +kernel⟩
theorem ok_are_kinds : FnOk P w K mg base CX0 2 A.f_are_kinds A.fd_are_kinds ["kinds"] (PS0 ⟨K, A.cm⟩ Fn_are_kinds) :=
  fn0 (K := ⟨K, A.cm⟩) T.F_are_kinds sc_are_kinds rfl rfl fun cdv Ar outer s' H Fz E hr =>
    (sss_cons (ss_if (st_not (st_lele (sb_of se_int) (sb_of (se_len rfl T.b_len (sab_cons (sb_of (se_nm 0)) sab_nil))) (sb_of (se_gint rfl T.v_MOST_KINDS)))) (sss_one (ss_ret se_bl)) sss_nil)
    (sss_cons (ss_own (sn_lst sa_nil (by decide) (len_le aN_len (by decide))) sc_are_kinds.nd)
    (sss_cons (ss_for .never rfl (si_seq (se_nm 0)) (sg_tup rfl (sgs_cons (sg_name sc_are_kinds.nd) (sgs_cons (sg_name sc_are_kinds.nd) (sgs_cons (sg_name sc_are_kinds.nd) sgs_nil))) 3) (sss_cons (ss_if (st_w (sw_or (st_not (st_val (se_call (ok_is_name A T) (hr.mono (by decide)) rfl T.g_is_name T.F_is_name.kp (b_is_name A T) pass0 (sa_cons (se_nm 2) sa_nil)))) (sw_or1 (st_in (sb_of (se_nm 2)) (sb_nm 1))))) (sss_one (ss_ret se_bl)) sss_nil)
    (sss_cons (ss_if (st_w (sw_or (st_not (st_lele (sb_of se_int) (sb_of (se_nm 3)) (sb_of (se_gint rfl T.v_MOST_COST)))) (sw_or1 (st_not (st_lele (sb_of se_int) (sb_of (se_nm 4)) (sb_of (se_gint rfl T.v_MOST_DEADLINE))))))) (sss_one (ss_ret se_bl)) sss_nil)
    (sss_one (ss_app (i := 1) (se_nm 2))))))
    (sss_one (ss_ret se_bl)))))
abbrev N_Task_cost : List Str := ["self", "kind_name"]
omit T in theorem sc_Task_cost : FnScope N_Task_cost ["self", "kind_name"] (defScope (inClass (topS 35) 4)) := ⟨rfl, rfl, rfl, by decide +kernel, rfl, by decide +kernel, by decide +kernel⟩
theorem ok_Task_cost : FnOk P w K mg base CX0 2 A.f_Task_cost A.fd_Task_cost ["self", "kind_name"] (PS0 ⟨K, A.cm⟩ Fn_Task_cost) :=
  fn0 (K := ⟨K, A.cm⟩) T.F_Task_cost sc_Task_cost rfl rfl fun cdv Ar outer s' H Fz E hr =>
    (sss_one (ss_ret (se_ix (sb_of (se_ix (sb_of (se_fld (C := 0) T.C_Task T.n_Task_kinds (se_nm 0))) (sb_of (se_meth (C := 0) (se_nm 0) T.C_Task T.M_Task_kind_number (ok_Task_kind_number A T) (hr.mono (by decide)) (b_Task_kind_number A T) pass0 (sa_cons (se_nm 1) sa_nil))))) (sb_of se_int))))
abbrev N_Task_ways_from : List Str := ["self", "kind_name", "way"]
omit T in theorem sc_Task_ways_from : FnScope N_Task_ways_from ["self", "kind_name"] (defScope (inClass (topS 35) 6)) := ⟨rfl, rfl, rfl, by decide +kernel, rfl, by decide +kernel, by decide +kernel⟩
theorem ok_Task_ways_from : FnOk P w K mg base CX0 2 A.f_Task_ways_from A.fd_Task_ways_from ["self", "kind_name"] (PS0 ⟨K, A.cm⟩ Fn_Task_ways_from) :=
  fn0 (K := ⟨K, A.cm⟩) T.F_Task_ways_from sc_Task_ways_from rfl rfl fun cdv Ar outer s' H Fz E hr =>
    (sss_cons (ss_expr (se_meth (C := 0) (se_nm 0) T.C_Task T.M_Task_kind_number (ok_Task_kind_number A T) (hr.mono (by decide)) (b_Task_kind_number A T) pass0 (sa_cons (se_nm 1) sa_nil)))
    (sss_one (ss_ret (se_new (sn_lc rfl sc_Task_ways_from.nd (si_seq (se_fld (C := 0) T.C_Task T.n_Task_ways (se_nm 0))) (blkOk_by (own := [("way", 2)]) (N := N_Task_ways_from) (sc := defScope (inClass (topS 35) 6)) (by decide +kernel)) rfl ioN (fun _ _ _ _ _ => (sg_name sc_Task_ways_from.nd)) (fun _ _ _ _ _ => (sts_one (st_eq hr.units (sb_of (se_ix (sb_of (se_nm 2)) (sb_of se_int))) (sb_of (se_nm 1))))) (fun _ _ _ _ _ => (se_tup (sa_cons (se_ix (sb_of (se_nm 2)) (sb_of se_int)) (sa_cons (se_ix (sb_of (se_nm 2)) (sb_of se_int)) sa_nil)) (len_le (aC_len (aC_len aN_len)) (by decide)))))))))
abbrev N_law_numbers : List Str := ["_law_script", "_law_many", "_law_cells", "_law_each", "_law_numbers_here", "_law_cell", "_law_number_here"]
omit T in theorem sc_law_numbers : FnScope N_law_numbers ["_law_script", "_law_many"] (defScope (topS 49)) := ⟨rfl, rfl, rfl, by decide +kernel, rfl, by decide +kernel, by decide +kernel⟩
theorem ok_law_numbers : FnOk P w K mg base CX0 2 A.f_law_numbers A.fd_law_numbers ["_law_script", "_law_many"] (PS0 ⟨K, A.cm⟩ Fn_law_numbers) :=
  fn0 (K := ⟨K, A.cm⟩) T.F_law_numbers sc_law_numbers rfl rfl fun cdv Ar outer s' H Fz E hr =>
    (sss_cons (ss_set (se_new (sn_sl (sb_of (se_nm 0)) so_none (so_some se_int))) sc_law_numbers.nd)
    (sss_cons (ss_set (se_add (sb_of se_int) (sb_of (se_div (sb_of (se_nm 1)) (sb_of (se_callB (call_max2 rfl) l_max2 rfl T.b_max (by decide +kernel) (sab_cons (sb_of se_int) (sab_cons (sb_of (se_len rfl T.b_len (sab_cons (sb_of (se_nm 2)) sab_nil))) sab_nil))))))) sc_law_numbers.nd)
    (sss_cons (ss_own (sn_lst sa_nil (by decide) (len_le aN_len (by decide))) sc_law_numbers.nd)
    (sss_cons (ss_for .never rfl (si_seq (se_nm 2)) (sg_name sc_law_numbers.nd) (sss_one (ss_for .never rfl (si_seq (se_call (ok_law_row A T) (hr.mono (by decide)) rfl T.g_law_row T.F_law_row.kp (b_law_row A T) pass0 (sa_cons (se_nm 5) (sa_cons (se_nm 3) sa_nil)))) (sg_name sc_law_numbers.nd) (sss_one (ss_app (i := 4) (se_nm 6))))))
    (sss_cons (ss_while 200 .never (st_lt (sb_of (se_len rfl T.b_len (sab_cons (sb_nm 4) sab_nil))) (sb_of (se_nm 1))) (sss_one (ss_app (i := 4) se_int)))
    (sss_one (ss_ret (se_new (sn_sl (sb_nm 4) so_none (so_some (se_nm 1)))))))))))
abbrev N_law_kinds : List Str := ["_law_numbers_here", "_law_at", "_law_most", "_law_kinds_here", "_law_k", "_law_cost"]
omit T in theorem sc_law_kinds : FnScope N_law_kinds ["_law_numbers_here", "_law_at", "_law_most"] (defScope (topS 53)) := ⟨rfl, rfl, rfl, by decide +kernel, rfl, by decide +kernel, by decide +kernel⟩
theorem ok_law_kinds : FnOk P w K mg base CX0 2 A.f_law_kinds A.fd_law_kinds ["_law_numbers_here", "_law_at", "_law_most"] (PS0 ⟨K, A.cm⟩ Fn_law_kinds) :=
  fn0 (K := ⟨K, A.cm⟩) T.F_law_kinds sc_law_kinds rfl rfl fun cdv Ar outer s' H Fz E hr =>
    (sss_cons (ss_own (sn_lst sa_nil (by decide) (len_le aN_len (by decide))) sc_law_kinds.nd)
    (sss_cons (ss_for .never rfl (si_range1 rfl T.b_range (sa_cons (se_add (sb_of se_int) (sb_of (se_call (ok_law_pick A T) (hr.mono (by decide)) rfl T.g_law_pick T.F_law_pick.kp (b_law_pick A T) pass0 (sa_cons (se_nm 0) (sa_cons (se_nm 1) (sa_cons (se_nm 2) sa_nil)))))) sa_nil)) (sg_name sc_law_kinds.nd) (sss_cons (ss_set (se_mul (sb_of (se_call (ok_law_scale A T) (hr.mono (by decide)) rfl T.g_law_scale T.F_law_scale.kp (b_law_scale A T) pass0 (sa_cons (se_nm 0) sa_nil))) (sb_of (se_add (sb_of se_int) (sb_of (se_call (ok_law_pick A T) (hr.mono (by decide)) rfl T.g_law_pick T.F_law_pick.kp (b_law_pick A T) pass0 (sa_cons (se_nm 0) (sa_cons (se_add (sb_of (se_add (sb_of (se_nm 1)) (sb_of se_int))) (sb_of (se_mul (sb_of se_int) (sb_of (se_nm 4))))) (sa_cons se_int sa_nil)))))))) sc_law_kinds.nd)
    (sss_one (ss_app (i := 3) (se_tup (sa_cons (se_call (ok_law_name A T) (hr.mono (by decide)) rfl T.g_law_name T.F_law_name.kp (b_law_name A T) pass0 (sa_cons (se_nm 0) (sa_cons (se_nm 4) sa_nil))) (sa_cons (se_nm 5) (sa_cons (se_add (sb_of se_int) (sb_of (se_call (ok_law_pick A T) (hr.mono (by decide)) rfl T.g_law_pick T.F_law_pick.kp (b_law_pick A T) pass0 (sa_cons (se_nm 0) (sa_cons (se_add (sb_of (se_add (sb_of (se_nm 1)) (sb_of se_int))) (sb_of (se_mul (sb_of se_int) (sb_of (se_nm 4))))) (sa_cons se_int sa_nil)))))) sa_nil))) (len_le (aC_len (aC_len (aC_len aN_len))) (by decide)))))))
    (sss_one (ss_frz (ss_ret (se_nm 3))))))
abbrev N_law_ways : List Str := ["_law_numbers_here", "_law_at", "_law_kinds_here", "_law_most", "_law_ways_here", "_law_k", "_law_source", "_law_target"]
omit T in theorem sc_law_ways : FnScope N_law_ways ["_law_numbers_here", "_law_at", "_law_kinds_here", "_law_most"] (defScope (topS 54)) := ⟨rfl, rfl, rfl, by decide +kernel, rfl, by decide +kernel, by decide +kernel⟩
theorem ok_law_ways : FnOk P w K mg base CX0 2 A.f_law_ways A.fd_law_ways ["_law_numbers_here", "_law_at", "_law_kinds_here", "_law_most"] (PS0 ⟨K, A.cm⟩ Fn_law_ways) :=
  fn0 (K := ⟨K, A.cm⟩) T.F_law_ways sc_law_ways rfl rfl fun cdv Ar outer s' H Fz E hr =>
    (sss_cons (ss_own (sn_lst sa_nil (by decide) (len_le aN_len (by decide))) sc_law_ways.nd)
    (sss_cons (ss_for .never rfl (si_range1 rfl T.b_range (sa_cons (se_call (ok_law_pick A T) (hr.mono (by decide)) rfl T.g_law_pick T.F_law_pick.kp (b_law_pick A T) pass0 (sa_cons (se_nm 0) (sa_cons (se_nm 1) (sa_cons (se_add (sb_of (se_nm 3)) (sb_of se_int)) sa_nil)))) sa_nil)) (sg_name sc_law_ways.nd) (sss_cons (ss_set (se_ix (sb_of (se_ix (sb_of (se_nm 2)) (sb_of (se_call (ok_law_pick A T) (hr.mono (by decide)) rfl T.g_law_pick T.F_law_pick.kp (b_law_pick A T) pass0 (sa_cons (se_nm 0) (sa_cons (se_add (sb_of (se_add (sb_of (se_nm 1)) (sb_of se_int))) (sb_of (se_mul (sb_of se_int) (sb_of (se_nm 5))))) (sa_cons (se_len rfl T.b_len (sab_cons (sb_of (se_nm 2)) sab_nil)) sa_nil))))))) (sb_of se_int)) sc_law_ways.nd)
    (sss_cons (ss_set (se_ix (sb_of (se_ix (sb_of (se_nm 2)) (sb_of (se_call (ok_law_pick A T) (hr.mono (by decide)) rfl T.g_law_pick T.F_law_pick.kp (b_law_pick A T) pass0 (sa_cons (se_nm 0) (sa_cons (se_add (sb_of (se_add (sb_of (se_nm 1)) (sb_of se_int))) (sb_of (se_mul (sb_of se_int) (sb_of (se_nm 5))))) (sa_cons (se_len rfl T.b_len (sab_cons (sb_of (se_nm 2)) sab_nil)) sa_nil))))))) (sb_of se_int)) sc_law_ways.nd)
    (sss_one (ss_app (i := 4) (se_tup (sa_cons (se_nm 6) (sa_cons (se_nm 7) (sa_cons (se_add (sb_of se_int) (sb_of (se_call (ok_law_pick A T) (hr.mono (by decide)) rfl T.g_law_pick T.F_law_pick.kp (b_law_pick A T) pass0 (sa_cons (se_nm 0) (sa_cons (se_add (sb_of (se_add (sb_of (se_nm 1)) (sb_of se_int))) (sb_of (se_mul (sb_of se_int) (sb_of (se_nm 5))))) (sa_cons se_int sa_nil)))))) sa_nil))) (len_le (aC_len (aC_len (aC_len aN_len))) (by decide))))))))
    (sss_one (ss_frz (ss_ret (se_nm 4))))))
abbrev N_law_course : List Str := ["_law_numbers_here", "_law_at", "_law_kinds_here", "_law_ways_here", "_law_many", "_law_kind", "_law_time", "_law_course_here", "_law_k", "_law_choices", "_law_way"]
omit T in theorem sc_law_course : FnScope N_law_course ["_law_numbers_here", "_law_at", "_law_kinds_here", "_law_ways_here", "_law_many"] (defScope (topS 56)) := ⟨rfl, rfl, rfl, by decide +kernel, rfl, by decide +kernel, by decide +kernel⟩
theorem ok_law_course : FnOk P w K mg base CX0 2 A.f_law_course A.fd_law_course ["_law_numbers_here", "_law_at", "_law_kinds_here", "_law_ways_here", "_law_many"] (PS0 ⟨K, A.cm⟩ Fn_law_course) :=
  fn0 (K := ⟨K, A.cm⟩) T.F_law_course sc_law_course rfl rfl fun cdv Ar outer s' H Fz E hr =>
    (sss_cons (ss_set (se_ix (sb_of (se_ix (sb_of (se_nm 2)) (sb_of (se_call (ok_law_pick A T) (hr.mono (by decide)) rfl T.g_law_pick T.F_law_pick.kp (b_law_pick A T) pass0 (sa_cons (se_nm 0) (sa_cons (se_nm 1) (sa_cons (se_len rfl T.b_len (sab_cons (sb_of (se_nm 2)) sab_nil)) sa_nil))))))) (sb_of se_int)) sc_law_course.nd)
    (sss_cons (ss_set (se_call (ok_law_pick A T) (hr.mono (by decide)) rfl T.g_law_pick T.F_law_pick.kp (b_law_pick A T) pass0 (sa_cons (se_nm 0) (sa_cons (se_add (sb_of (se_nm 1)) (sb_of se_int)) (sa_cons se_int sa_nil)))) sc_law_course.nd)
    (sss_cons (ss_own (sn_lst (sa_cons (se_tup (sa_cons (se_nm 6) (sa_cons (se_nm 5) sa_nil)) (len_le (aC_len (aC_len aN_len)) (by decide))) sa_nil) (by decide) (len_le (aC_len aN_len) (by decide))) sc_law_course.nd)
    (sss_cons (ss_for .never rfl (si_range1 rfl T.b_range (sa_cons (se_sub (sb_of (se_nm 4)) (sb_of se_int)) sa_nil)) (sg_name sc_law_course.nd) (sss_cons (ss_setLc rfl sc_law_course.nd rfl rfl (sw_true rfl rfl rfl (by decide +kernel)) (si_seq (se_nm 3)) (blkOk_by (own := [("_law_way", 10)]) (N := N_law_course) (sc := defScope (topS 56)) (by decide +kernel)) rfl ioN joN (fun _ _ _ _ _ => (sg_name sc_law_course.nd)) (fun _ _ _ _ _ => (sts_one (st_eq hr.units (sb_of (se_ix (sb_of (se_nm 10)) (sb_of se_int))) (sb_of (se_nm 5))))) (fun _ _ _ _ _ => (se_nm 10)))
    (sss_cons (ss_if (st_eq hr.units (sb_of (se_len rfl T.b_len (sab_cons (sb_of (se_nm 9)) sab_nil))) (sb_of se_int)) (sss_one (ss_frz (ss_ret (se_nm 7)))) sss_nil)
    (sss_cons (ss_set (se_ix (sb_of (se_nm 9)) (sb_of (se_call (ok_law_pick A T) (hr.mono (by decide)) rfl T.g_law_pick T.F_law_pick.kp (b_law_pick A T) pass0 (sa_cons (se_nm 0) (sa_cons (se_add (sb_of (se_add (sb_of (se_nm 1)) (sb_of se_int))) (sb_of (se_mul (sb_of se_int) (sb_of (se_nm 8))))) (sa_cons (se_len rfl T.b_len (sab_cons (sb_of (se_nm 9)) sab_nil)) sa_nil)))))) sc_law_course.nd)
    (sss_cons (ss_set (se_add (sb_of (se_add (sb_of (se_nm 6)) (sb_of (se_ix (sb_of (se_nm 10)) (sb_of se_int))))) (sb_of (se_callB (call_max2 rfl) l_max2 rfl T.b_max (by decide +kernel) (sab_cons (sb_of se_int) (sab_cons (sb_of (se_sub (sb_of (se_call (ok_law_pick A T) (hr.mono (by decide)) rfl T.g_law_pick T.F_law_pick.kp (b_law_pick A T) pass0 (sa_cons (se_nm 0) (sa_cons (se_add (sb_of (se_add (sb_of (se_nm 1)) (sb_of se_int))) (sb_of (se_mul (sb_of se_int) (sb_of (se_nm 8))))) (sa_cons se_int sa_nil))))) (sb_of se_int))) sab_nil))))) sc_law_course.nd)
    (sss_cons (ss_set (se_ix (sb_of (se_nm 10)) (sb_of se_int)) sc_law_course.nd)
    (sss_one (ss_app (i := 7) (se_tup (sa_cons (se_nm 6) (sa_cons (se_nm 5) sa_nil)) (len_le (aC_len (aC_len aN_len)) (by decide)))))))))))
    (sss_one (ss_frz (ss_ret (se_nm 7))))))))
abbrev N_law_late : List Str := ["_law_tasks", "_law_courses", "_law_table", "_law_jobs", "_law_t", "_law_k", "_law_kind", "_law_slot", "_law_units", "_law_job", "_law_done"]
omit T in theorem sc_law_late : FnScope N_law_late ["_law_tasks", "_law_courses", "_law_table"] (defScope (topS 59)) := ⟨rfl, rfl, rfl, by decide +kernel, rfl, by decide +kernel, by decide +kernel⟩
theorem ok_law_late : FnOk P w K mg base CX0 2 A.f_law_late A.fd_law_late ["_law_tasks", "_law_courses", "_law_table"] (PS0 ⟨K, A.cm⟩ Fn_law_late) :=
  fn0 (K := ⟨K, A.cm⟩) T.F_law_late sc_law_late rfl rfl fun cdv Ar outer s' H Fz E hr =>
    (sss_cons (ss_own2 (sn_lst sa_nil (by decide) (len_le aN_len (by decide))) sc_law_late.nd)
    (sss_cons (ss_for .never rfl (si_range1 rfl T.b_range (sa_cons (se_len rfl T.b_len (sab_cons (sb_of (se_nm 0)) sab_nil)) sa_nil)) (sg_name sc_law_late.nd) (sss_one (ss_for .never rfl (si_range1 rfl T.b_range (sa_cons (se_len rfl T.b_len (sab_cons (sb_of (se_ix (sb_of (se_nm 1)) (sb_of (se_nm 4)))) sab_nil)) sa_nil)) (sg_name sc_law_late.nd) (sss_cons (ss_set (se_ix (sb_of (se_ix (sb_of (se_ix (sb_of (se_nm 0)) (sb_of (se_nm 4)))) (sb_of se_int))) (sb_of (se_call (ok_law_number A T) (hr.mono (by decide)) rfl T.g_law_number T.F_law_number.kp (b_law_number A T) pass0 (sa_cons (se_ix (sb_of (se_ix (sb_of (se_nm 0)) (sb_of (se_nm 4)))) (sb_of se_int)) (sa_cons (se_ix (sb_of (se_ix (sb_of (se_ix (sb_of (se_nm 1)) (sb_of (se_nm 4)))) (sb_of (se_nm 5)))) (sb_of se_int)) sa_nil))))) sc_law_late.nd)
    (sss_one (ss_app2 (i := 3) (sn_lst (sa_cons (se_add (sb_of (se_ix (sb_of (se_ix (sb_of (se_ix (sb_of (se_nm 1)) (sb_of (se_nm 4)))) (sb_of (se_nm 5)))) (sb_of se_int))) (sb_of (se_ix (sb_of (se_nm 6)) (sb_of se_int)))) (sa_cons (se_ix (sb_of (se_ix (sb_of (se_ix (sb_of (se_nm 1)) (sb_of (se_nm 4)))) (sb_of (se_nm 5)))) (sb_of se_int)) (sa_cons (se_nm 4) (sa_cons (se_nm 5) (sa_cons (se_ix (sb_of (se_nm 6)) (sb_of se_int)) sa_nil))))) (by decide) (len_le (aC_len (aC_len (aC_len (aC_len (aC_len aN_len))))) (by decide)))))))))
    (sss_cons (ss_sort2 (i := 3) (k := 3) hr.units rfl T.b_sorted sc_law_late.nd)
    (sss_cons (ss_for .never rfl (si_range1 rfl T.b_range (sa_cons (se_add (sb_of (se_maxD rfl hr.units rfl T.b_max (sab_cons (sb_of (se_new (sn_lc2 rfl sc_law_late.nd rfl (by first | exact Or.inl rfl | exact Or.inr (Or.inl rfl) | exact Or.inr (Or.inr rfl)) (blkOk_by (own := [("_law_job", 9)]) (N := N_law_late) (sc := defScope (topS 59)) (by decide +kernel)) rfl joN (by decide) (fun _ _ _ _ _ => pg_nm sc_law_late.nd) (fun _ _ _ _ _ => sts_nil) (fun _ _ _ _ _ => (se_ix (sb_al 9) (sb_of se_int)))))) sab_nil) se_int)) (sb_of se_int)) sa_nil)) (sg_name sc_law_late.nd) (sss_cons (ss_if (st_val (se_callB (cr_any rfl) l_any rfl T.b_any (by decide +kernel) (sab_cons (sb_of (se_new (sn_lc2 rfl sc_law_late.nd rfl (by first | exact Or.inl rfl | exact Or.inr (Or.inl rfl) | exact Or.inr (Or.inr rfl)) (blkOk_by (own := [("_law_job", 9)]) (N := N_law_late) (sc := defScope (topS 59)) (by decide +kernel)) rfl joN (by decide) (fun _ _ _ _ _ => pg_nm sc_law_late.nd) (fun _ _ _ _ _ => sts_nil) (fun _ _ _ _ _ => (se_and (se_lec (sb_of (se_ix (sb_al 9) (sb_of se_int))) (sb_of (se_nm 7))) (se_bone (se_gtc (sb_of (se_ix (sb_al 9) (sb_of se_int))) (sb_of se_int)))))))) sab_nil))) (sss_one (ss_ret (se_nm 7))) sss_nil)
    (sss_cons (ss_set (se_ix (sb_of (se_nm 2)) (sb_of (se_mod (sb_of (se_callTy call_int1 l_int rfl T.b_int (by decide +kernel) (sab_cons (sb_of (se_nm 7)) sab_nil))) (sb_of (se_len rfl T.b_len (sab_cons (sb_of (se_nm 2)) sab_nil)))))) sc_law_late.nd)
    (sss_one (ss_for2 (i := 3) (t := 9) .never rfl rfl (fun _ => (sss_one (ss_if (st_w (sw_and (st_le (sb_of (se_ix (sb_al 9) (sb_of se_int))) (sb_of (se_nm 7))) (sw_and1 (st_gt (sb_of (se_ix (sb_al 9) (sb_of se_int))) (sb_of se_int))))) (sss_cons (ss_set (se_callB (call_min2 rfl) l_min2 rfl T.b_min (by decide +kernel) (sab_cons (sb_of (se_nm 8)) (sab_cons (sb_of (se_ix (sb_al 9) (sb_of se_int))) sab_nil))) sc_law_late.nd)
    (sss_cons (ss_putAl (i := 9) se_int (se_sub (sb_of (se_ix (sb_al 9) (sb_of se_int))) (sb_of (se_nm 10))))
    (sss_one (ss_set (se_sub (sb_of (se_nm 8)) (sb_of (se_nm 10))) sc_law_late.nd)))) sss_nil))) sc_law_late.nd)))))
    (sss_one (ss_ret se_non))))))
abbrev N_circuit_mean : List Str := ["task", "circuit", "cost", "distance", "number", "way"]
omit T in theorem sc_circuit_mean : FnScope N_circuit_mean ["task", "circuit"] (defScope (topS 13)) := ⟨rfl, rfl, rfl, by decide +kernel, rfl, by decide +kernel, by decide +kernel⟩
theorem ok_circuit_mean : FnOk P w K mg base CX0 3 A.f_circuit_mean A.fd_circuit_mean ["task", "circuit"] (PS0 ⟨K, A.cm⟩ Fn_circuit_mean) :=
  fn0 (K := ⟨K, A.cm⟩) T.F_circuit_mean sc_circuit_mean rfl rfl fun cdv Ar outer s' H Fz E hr =>
    (sss_cons (ss_set se_int sc_circuit_mean.nd)
    (sss_cons (ss_set se_int sc_circuit_mean.nd)
    (sss_cons (ss_for .never rfl (si_seq (se_nm 1)) (sg_name sc_circuit_mean.nd) (sss_cons (ss_set (se_ix (sb_of (se_fld (C := 0) T.C_Task T.n_Task_ways (se_nm 0))) (sb_of (se_nm 4))) sc_circuit_mean.nd)
    (sss_cons (ss_aug (se_meth (C := 0) (se_nm 0) T.C_Task T.M_Task_cost (ok_Task_cost A T) (hr.mono (by decide)) (b_Task_cost A T) pass0 (sa_cons (se_ix (sb_of (se_nm 5)) (sb_of se_int)) sa_nil)) ip_add li_add sc_circuit_mean.nd)
    (sss_one (ss_aug (se_ix (sb_of (se_nm 5)) (sb_of se_int)) ip_add li_add sc_circuit_mean.nd)))))
    (sss_one (ss_ret (se_call (ok_make_ratio A T) (hr.mono (by decide)) rfl T.g_make_ratio T.F_make_ratio.kp (b_make_ratio A T) pass0 (sa_cons (se_nm 2) (sa_cons (se_nm 3) sa_nil))))))))
abbrev N_best_continuation : List Str := ["task", "name", "size", "found", "best", "target", "distance"]
omit T in theorem sc_best_continuation : FnScope N_best_continuation ["task", "name", "size", "found"] (defScope (topS 19)) := ⟨rfl, rfl, rfl, by decide +kernel, rfl, by decide +kernel, by decide +kernel⟩
theorem ok_best_continuation : FnOk P w K mg base CX0 3 A.f_best_continuation A.fd_best_continuation ["task", "name", "size", "found"] (PS0 ⟨K, A.cm⟩ Fn_best_continuation) :=
  fn0 (K := ⟨K, A.cm⟩) T.F_best_continuation sc_best_continuation rfl rfl fun cdv Ar outer s' H Fz E hr =>
    (sss_cons (ss_set se_int sc_best_continuation.nd)
    (sss_cons (ss_for .never rfl (si_seq (se_meth (C := 0) (se_nm 0) T.C_Task T.M_Task_ways_from (ok_Task_ways_from A T) (hr.mono (by decide)) (b_Task_ways_from A T) pass0 (sa_cons (se_nm 1) sa_nil))) (sg_tup rfl (sgs_cons (sg_name sc_best_continuation.nd) (sgs_cons (sg_name sc_best_continuation.nd) sgs_nil)) 2) (sss_one (ss_if (st_le (sb_of (se_nm 6)) (sb_of (se_nm 2))) (sss_one (ss_set (se_callB (call_max2 rfl) l_max2 rfl T.b_max (by decide +kernel) (sab_cons (sb_of (se_nm 4)) (sab_cons (sb_of (se_ix (sb_of (se_ix (sb_of (se_nm 3)) (sb_of (se_sub (sb_of (se_nm 2)) (sb_of (se_nm 6)))))) (sb_of (se_meth (C := 0) (se_nm 0) T.C_Task T.M_Task_kind_number (ok_Task_kind_number A T) (hr.mono (by decide)) (b_Task_kind_number A T) pass0 (sa_cons (se_nm 5) sa_nil))))) sab_nil))) sc_best_continuation.nd)) sss_nil)))
    (sss_one (ss_ret (se_nm 4)))))
abbrev N_best_step : List Str := ["task", "name", "rest", "found", "best", "step", "target", "distance", "number", "work"]
omit T in theorem sc_best_step : FnScope N_best_step ["task", "name", "rest", "found"] (defScope (topS 23)) := ⟨rfl, rfl, rfl, by decide +kernel, rfl, by decide +kernel, by decide +kernel⟩
theorem ok_best_step : FnOk P w K mg base CX0 3 A.f_best_step A.fd_best_step ["task", "name", "rest", "found"] (PS0 ⟨K, A.cm⟩ Fn_best_step) :=
  fn0 (K := ⟨K, A.cm⟩) T.F_best_step sc_best_step rfl rfl fun cdv Ar outer s' H Fz E hr =>
    (sss_cons (ss_set se_int sc_best_step.nd)
    (sss_cons (ss_set se_non sc_best_step.nd)
    (sss_cons (ss_for .never rfl (si_seq (se_meth (C := 0) (se_nm 0) T.C_Task T.M_Task_ways_from (ok_Task_ways_from A T) (hr.mono (by decide)) (b_Task_ways_from A T) pass0 (sa_cons (se_nm 1) sa_nil))) (sg_tup rfl (sgs_cons (sg_name sc_best_step.nd) (sgs_cons (sg_name sc_best_step.nd) sgs_nil)) 2) (sss_one (ss_if (st_le (sb_of (se_nm 7)) (sb_of (se_nm 2))) (sss_cons (ss_set (se_meth (C := 0) (se_nm 0) T.C_Task T.M_Task_kind_number (ok_Task_kind_number A T) (hr.mono (by decide)) (b_Task_kind_number A T) pass0 (sa_cons (se_nm 6) sa_nil)) sc_best_step.nd)
    (sss_cons (ss_set (se_ix (sb_of (se_ix (sb_of (se_nm 3)) (sb_of (se_sub (sb_of (se_nm 2)) (sb_of (se_nm 7)))))) (sb_of (se_nm 8))) sc_best_step.nd)
    (sss_one (ss_if (st_gt (sb_of (se_nm 9)) (sb_of (se_nm 4))) (sss_cons (ss_set (se_nm 9) sc_best_step.nd)
    (sss_one (ss_set (se_tup (sa_cons (se_nm 8) (sa_cons (se_nm 7) sa_nil)) (len_le (aC_len (aC_len aN_len)) (by decide))) sc_best_step.nd))) sss_nil)))) sss_nil)))
    (sss_one (ss_ret (se_nm 5))))))
abbrev N_Task_init : List Str := ["self", "name", "kinds", "ways", "kind", "way"]
omit T in theorem sc_Task_init : FnScope N_Task_init ["self", "name", "kinds", "ways"] (defScope (inClass (topS 35) 0)) := ⟨rfl, rfl, rfl, by decide +kernel, rfl, by decide +kernel, by decide +kernel⟩
theorem ok_Task_init : FnOk P w K mg base CX0 3 A.f_Task_init A.fd_Task_init ["self", "name", "kinds", "ways"] (PIn ⟨K, A.cm⟩ 0 Fn_Task_init) :=
  fnI (K := ⟨K, A.cm⟩) T.F_Task_init sc_Task_init rfl rfl fun cdv Ar outer s' H B Fz E a hr =>
    (sss_cons (ss_if (st_w (sw_or (st_not (st_val (se_call (ok_is_name A T) (hr.mono (by decide)) rfl T.g_is_name T.F_is_name.kp (b_is_name A T) pass0 (sa_cons (se_nm 1) sa_nil)))) (sw_or1 (st_not (st_val (se_call (ok_are_kinds A T) (hr.mono (by decide)) rfl T.g_are_kinds T.F_are_kinds.kp (b_are_kinds A T) pass0 (sa_cons (se_nm 2) sa_nil))))))) sss_never sss_nil)
    (sss_cons (ss_if (st_not (st_val (se_call (ok_are_ways A T) (hr.mono (by decide)) rfl T.g_are_ways T.F_are_ways.kp (b_are_ways A T) pass0 (sa_cons (se_nm 3) (sa_cons (se_new (sn_lc rfl sc_Task_init.nd (si_seq (se_nm 2)) (blkOk_by (own := [("kind", 4)]) (N := N_Task_init) (sc := defScope (inClass (topS 35) 0)) (by decide +kernel)) rfl (io0 (by decide)) (fun _ _ _ _ _ => (sg_name sc_Task_init.nd)) (fun _ _ _ _ _ => sts_nil) (fun _ _ _ _ _ => (se_ix (sb_of (se_nm 4)) (sb_of se_int))))) sa_nil))))) sss_never sss_nil)
    (sss_cons (ss_fld (i := 0) (C := 0) T.C_Task T.n_Task_name (se_nm 1))
    (sss_cons (ss_fld (i := 0) (C := 0) T.C_Task T.n_Task_kinds (se_tupF rfl T.b_tuple (sab_cons (sb_of (se_new (sn_lc rfl sc_Task_init.nd (si_seq (se_nm 2)) (blkOk_by (own := [("kind", 4)]) (N := N_Task_init) (sc := defScope (inClass (topS 35) 0)) (by decide +kernel)) rfl (io0 (by decide)) (fun _ _ _ _ _ => (sg_name sc_Task_init.nd)) (fun _ _ _ _ _ => sts_nil) (fun _ _ _ _ _ => (se_tup (sa_cons (se_ix (sb_of (se_nm 4)) (sb_of se_int)) (sa_cons (se_ix (sb_of (se_nm 4)) (sb_of se_int)) (sa_cons (se_ix (sb_of (se_nm 4)) (sb_of se_int)) sa_nil))) (len_le (aC_len (aC_len (aC_len aN_len))) (by decide))))))) sab_nil)))
    (sss_one (ss_fld (i := 0) (C := 0) T.C_Task T.n_Task_ways (se_tupF rfl T.b_tuple (sab_cons (sb_of (se_new (sn_lc rfl sc_Task_init.nd (si_seq (se_nm 3)) (blkOk_by (own := [("way", 5)]) (N := N_Task_init) (sc := defScope (inClass (topS 35) 0)) (by decide +kernel)) rfl (io0 (by decide)) (fun _ _ _ _ _ => (sg_name sc_Task_init.nd)) (fun _ _ _ _ _ => sts_nil) (fun _ _ _ _ _ => (se_tup (sa_cons (se_ix (sb_of (se_nm 5)) (sb_of se_int)) (sa_cons (se_ix (sb_of (se_nm 5)) (sb_of se_int)) (sa_cons (se_ix (sb_of (se_nm 5)) (sb_of se_int)) sa_nil))) (len_le (aC_len (aC_len (aC_len aN_len))) (by decide))))))) sab_nil))))))))
abbrev N_law_two_tasks : List Str := ["_law_numbers_here", "_law_kinds_here", "_law_one", "_law_other", "_law_longer", "_law_way", "_law_kind"]
omit T in theorem sc_law_two_tasks : FnScope N_law_two_tasks ["_law_numbers_here"] (defScope (topS 57)) := ⟨rfl, rfl, rfl, by decide +kernel, rfl, by decide +kernel, by decide +kernel⟩
theorem ok_law_two_tasks : FnOk P w K mg base CX0 3 A.f_law_two_tasks A.fd_law_two_tasks ["_law_numbers_here"] (PS0 ⟨K, A.cm⟩ Fn_law_two_tasks) :=
  fn0 (K := ⟨K, A.cm⟩) T.F_law_two_tasks sc_law_two_tasks rfl rfl fun cdv Ar outer s' H Fz E hr =>
    (sss_cons (ss_set (se_call (ok_law_kinds A T) (hr.mono (by decide)) rfl T.g_law_kinds T.F_law_kinds.kp (b_law_kinds A T) pass0 (sa_cons (se_nm 0) (sa_cons se_int (sa_cons se_int sa_nil)))) sc_law_two_tasks.nd)
    (sss_cons (ss_set (se_tup (sa_cons (se_nm 1) (sa_cons (se_call (ok_law_ways A T) (hr.mono (by decide)) rfl T.g_law_ways T.F_law_ways.kp (b_law_ways A T) pass0 (sa_cons (se_nm 0) (sa_cons se_int (sa_cons (se_nm 1) (sa_cons se_int sa_nil))))) sa_nil)) (len_le (aC_len (aC_len aN_len)) (by decide))) sc_law_two_tasks.nd)
    (sss_cons (ss_set (se_call (ok_law_kinds A T) (hr.mono (by decide)) rfl T.g_law_kinds T.F_law_kinds.kp (b_law_kinds A T) pass0 (sa_cons (se_nm 0) (sa_cons se_int (sa_cons se_int sa_nil)))) sc_law_two_tasks.nd)
    (sss_cons (ss_set (se_tup (sa_cons (se_nm 1) (sa_cons (se_call (ok_law_ways A T) (hr.mono (by decide)) rfl T.g_law_ways T.F_law_ways.kp (b_law_ways A T) pass0 (sa_cons (se_nm 0) (sa_cons se_int (sa_cons (se_nm 1) (sa_cons se_int sa_nil))))) sa_nil)) (len_le (aC_len (aC_len aN_len)) (by decide))) sc_law_two_tasks.nd)
    (sss_cons (ss_if (st_eq hr.units (sb_of (se_call (ok_law_pick A T) (hr.mono (by decide)) rfl T.g_law_pick T.F_law_pick.kp (b_law_pick A T) pass0 (sa_cons (se_nm 0) (sa_cons se_int (sa_cons se_int sa_nil))))) (sb_of se_int)) (sss_one (ss_set (se_tup (sa_cons (se_new (sn_lc rfl sc_law_two_tasks.nd (si_seq (se_ix (sb_of (se_nm 2)) (sb_of se_int))) (blkOk_by (own := [("_law_kind", 6)]) (N := N_law_two_tasks) (sc := defScope (topS 57)) (by decide +kernel)) rfl ioN (fun _ _ _ _ _ => (sg_name sc_law_two_tasks.nd)) (fun _ _ _ _ _ => sts_nil) (fun _ _ _ _ _ => (se_tup (sa_cons (se_ix (sb_of (se_nm 6)) (sb_of se_int)) (sa_cons (se_add (sb_of (se_ix (sb_of (se_nm 6)) (sb_of se_int))) (sb_of (se_call (ok_law_pick A T) (hr.mono (by decide)) rfl T.g_law_pick T.F_law_pick.kp (b_law_pick A T) pass0 (sa_cons (se_nm 0) (sa_cons se_int (sa_cons se_int sa_nil)))))) (sa_cons (se_ix (sb_of (se_nm 6)) (sb_of se_int)) sa_nil))) (len_le (aC_len (aC_len (aC_len aN_len))) (by decide)))))) (sa_cons (se_ix (sb_of (se_nm 2)) (sb_of se_int)) sa_nil)) (len_le (aC_len (aC_len aN_len)) (by decide))) sc_law_two_tasks.nd)) sss_nil)
    (sss_cons (ss_if (st_eq hr.units (sb_of (se_call (ok_law_pick A T) (hr.mono (by decide)) rfl T.g_law_pick T.F_law_pick.kp (b_law_pick A T) pass0 (sa_cons (se_nm 0) (sa_cons se_int (sa_cons se_int sa_nil))))) (sb_of se_int)) (sss_cons (ss_setLc rfl sc_law_two_tasks.nd rfl rfl (sw_true rfl rfl rfl (by decide +kernel)) (si_seq (se_ix (sb_of (se_nm 3)) (sb_of se_int))) (blkOk_by (own := [("_law_way", 5)]) (N := N_law_two_tasks) (sc := defScope (topS 57)) (by decide +kernel)) rfl ioN joN (fun _ _ _ _ _ => (sg_name sc_law_two_tasks.nd)) (fun _ _ _ _ _ => sts_nil) (fun _ _ _ _ _ => (se_tup (sa_cons (se_ix (sb_of (se_nm 5)) (sb_of se_int)) (sa_cons (se_ix (sb_of (se_nm 5)) (sb_of se_int)) (sa_cons (se_add (sb_of (se_ix (sb_of (se_nm 5)) (sb_of se_int))) (sb_of (se_call (ok_law_pick A T) (hr.mono (by decide)) rfl T.g_law_pick T.F_law_pick.kp (b_law_pick A T) pass0 (sa_cons (se_nm 0) (sa_cons se_int (sa_cons se_int sa_nil)))))) sa_nil))) (len_le (aC_len (aC_len (aC_len aN_len))) (by decide)))))
    (sss_one (ss_set (se_tup (sa_cons (se_ix (sb_of (se_nm 3)) (sb_of se_int)) (sa_cons (se_nm 4) sa_nil)) (len_le (aC_len (aC_len aN_len)) (by decide))) sc_law_two_tasks.nd))) sss_nil)
    (sss_one (ss_ret (se_tup (sa_cons (se_nm 2) (sa_cons (se_nm 3) sa_nil)) (len_le (aC_len (aC_len aN_len)) (by decide)))))))))))
abbrev N_rows : List Str := ["task", "length", "found", "size", "row", "kind"]
omit T in theorem sc_rows : FnScope N_rows ["task", "length"] (defScope (topS 17)) := ⟨rfl, rfl, rfl, by decide +kernel, rfl, by decide +kernel, by decide +kernel⟩
theorem ok_rows : FnOk P w K mg base CX0 4 A.f_rows A.fd_rows ["task", "length"] (PS0 ⟨K, A.cm⟩ Fn_rows) :=
  fn0 (K := ⟨K, A.cm⟩) T.F_rows sc_rows rfl rfl fun cdv Ar outer s' H Fz E hr =>
    (sss_cons (ss_own (sn_lst sa_nil (by decide) (len_le aN_len (by decide))) sc_rows.nd)
    (sss_cons (ss_for .never rfl (si_range1 rfl T.b_range (sa_cons (se_add (sb_of (se_nm 1)) (sb_of se_int)) sa_nil)) (sg_name sc_rows.nd) (sss_cons (ss_own (sn_lst sa_nil (by decide) (len_le aN_len (by decide))) sc_rows.nd)
    (sss_cons (ss_for .never rfl (si_seq (se_fld (C := 0) T.C_Task T.n_Task_kinds (se_nm 0))) (sg_name sc_rows.nd) (sss_one (ss_app (i := 4) (se_add (sb_of (se_call (ok_own_work A T) (hr.mono (by decide)) rfl T.g_own_work T.F_own_work.kp (b_own_work A T) pass0 (sa_cons (se_nm 5) (sa_cons (se_nm 3) sa_nil)))) (sb_of (se_callBr (ok_best_continuation A T) (hr.mono (by decide)) rfl T.g_best_continuation T.F_best_continuation.kp (b_best_continuation A T) pass0 (sab_cons (sb_of (se_nm 0)) (sab_cons (sb_of (se_ix (sb_of (se_nm 5)) (sb_of se_int))) (sab_cons (sb_of (se_nm 3)) (sab_cons (sb_nm 2) sab_nil))))))))))
    (sss_one (ss_frz (ss_app (i := 2) (se_nm 4)))))))
    (sss_one (ss_frz (ss_ret (se_nm 2))))))
abbrev N_stays_within : List Str := ["task", "found", "kept", "length", "growth", "number", "name", "within", "target", "distance", "goal"]
omit T in theorem sc_stays_within : FnScope N_stays_within ["task", "found", "kept", "length", "growth"] (defScope (topS 41)) := ⟨rfl, rfl, rfl, by decide +kernel, rfl, by decide +kernel, by decide +kernel⟩
theorem ok_stays_within : FnOk P w K mg base CX0 4 A.f_stays_within A.fd_stays_within ["task", "found", "kept", "length", "growth"] (PS0 ⟨K, A.cm⟩ Fn_stays_within) :=
  fn0 (K := ⟨K, A.cm⟩) T.F_stays_within sc_stays_within rfl rfl fun cdv Ar outer s' H Fz E hr =>
    (sss_cons (ss_for .never rfl (si_seq (se_nm 2)) (sg_name sc_stays_within.nd) (sss_cons (ss_set (se_ix (sb_of (se_ix (sb_of (se_fld (C := 0) T.C_Task T.n_Task_kinds (se_nm 0))) (sb_of (se_nm 5)))) (sb_of se_int)) sc_stays_within.nd)
    (sss_cons (ss_set se_int sc_stays_within.nd)
    (sss_cons (ss_for .never rfl (si_seq (se_meth (C := 0) (se_nm 0) T.C_Task T.M_Task_ways_from (ok_Task_ways_from A T) (hr.mono (by decide)) (b_Task_ways_from A T) pass0 (sa_cons (se_nm 6) sa_nil))) (sg_tup rfl (sgs_cons (sg_name sc_stays_within.nd) (sgs_cons (sg_name sc_stays_within.nd) sgs_nil)) 2) (sss_cons (ss_set (se_meth (C := 0) (se_nm 0) T.C_Task T.M_Task_kind_number (ok_Task_kind_number A T) (hr.mono (by decide)) (b_Task_kind_number A T) pass0 (sa_cons (se_nm 8) sa_nil)) sc_stays_within.nd)
    (sss_one (ss_if (st_w (sw_and (st_le (sb_of (se_nm 9)) (sb_of (se_nm 3))) (sw_and1 (st_in (sb_of (se_nm 10)) (sb_of (se_nm 2)))))) (sss_one (ss_set (se_callB (call_max2 rfl) l_max2 rfl T.b_max (by decide +kernel) (sab_cons (sb_of (se_nm 7)) (sab_cons (sb_of (se_ix (sb_of (se_ix (sb_of (se_nm 1)) (sb_of (se_sub (sb_of (se_nm 3)) (sb_of (se_nm 9)))))) (sb_of (se_nm 10)))) sab_nil))) sc_stays_within.nd)) sss_nil))))
    (sss_cons (ss_if (st_ne hr.units (sb_of (se_nm 7)) (sb_of (se_call (ok_best_continuation A T) (hr.mono (by decide)) rfl T.g_best_continuation T.F_best_continuation.kp (b_best_continuation A T) pass0 (sa_cons (se_nm 0) (sa_cons (se_nm 6) (sa_cons (se_nm 3) (sa_cons (se_nm 1) sa_nil))))))) (sss_one (ss_ret se_bl)) sss_nil)
    (sss_one (ss_if (st_w (sw_and (st_ne hr.units (sb_of (se_nm 4)) (sb_of se_int)) (sw_and1 (st_eq hr.units (sb_of (se_nm 7)) (sb_of se_int))))) (sss_one (ss_ret se_bl)) sss_nil)))))))
    (sss_one (ss_ret se_bl)))
abbrev N_demand : List Str := ["task", "length"]
omit T in theorem sc_demand : FnScope N_demand ["task", "length"] (defScope (topS 20)) := ⟨rfl, rfl, rfl, by decide +kernel, rfl, by decide +kernel, by decide +kernel⟩
theorem ok_demand : FnOk P w K mg base CX0 5 A.f_demand A.fd_demand ["task", "length"] (PS0 ⟨K, A.cm⟩ Fn_demand) :=
  fn0 (K := ⟨K, A.cm⟩) T.F_demand sc_demand rfl rfl fun cdv Ar outer s' H Fz E hr =>
    (sss_one (ss_ret (se_callB (cr_max rfl) l_maxL rfl T.b_max (by decide +kernel) (sab_cons (sb_of (se_ix (sb_of (se_call (ok_rows A T) (hr.mono (by decide)) rfl T.g_rows T.F_rows.kp (b_rows A T) pass0 (sa_cons (se_nm 0) (sa_cons (se_nm 1) sa_nil)))) (sb_of (se_nm 1)))) sab_nil))))
abbrev N_demands : List Str := ["task", "length", "row"]
omit T in theorem sc_demands : FnScope N_demands ["task", "length"] (defScope (topS 21)) := ⟨rfl, rfl, rfl, by decide +kernel, rfl, by decide +kernel, by decide +kernel⟩
theorem ok_demands : FnOk P w K mg base CX0 5 A.f_demands A.fd_demands ["task", "length"] (PS0 ⟨K, A.cm⟩ Fn_demands) :=
  fn0 (K := ⟨K, A.cm⟩) T.F_demands sc_demands rfl rfl fun cdv Ar outer s' H Fz E hr =>
    (sss_one (ss_ret (se_new (sn_lc rfl sc_demands.nd (si_seq (se_call (ok_rows A T) (hr.mono (by decide)) rfl T.g_rows T.F_rows.kp (b_rows A T) pass0 (sa_cons (se_nm 0) (sa_cons (se_nm 1) sa_nil)))) (blkOk_by (own := [("row", 2)]) (N := N_demands) (sc := defScope (topS 21)) (by decide +kernel)) rfl ioN (fun _ _ _ _ _ => (sg_name sc_demands.nd)) (fun _ _ _ _ _ => sts_nil) (fun _ _ _ _ _ => (se_callB (cr_max rfl) l_maxL rfl T.b_max (by decide +kernel) (sab_cons (sb_of (se_nm 2)) sab_nil)))))))
abbrev N_heaviest : List Str := ["task", "length", "found", "greatest", "number", "time", "releases", "step", "distance"]
omit T in theorem sc_heaviest : FnScope N_heaviest ["task", "length"] (defScope (topS 22)) := ⟨rfl, rfl, rfl, by decide +kernel, rfl, by decide +kernel, by decide +kernel⟩
theorem ok_heaviest : FnOk P w K mg base CX0 5 A.f_heaviest A.fd_heaviest ["task", "length"] (PS0 ⟨K, A.cm⟩ Fn_heaviest) :=
  fn0 (K := ⟨K, A.cm⟩) T.F_heaviest sc_heaviest rfl rfl fun cdv Ar outer s' H Fz E hr =>
    (sss_cons (ss_set (se_call (ok_rows A T) (hr.mono (by decide)) rfl T.g_rows T.F_rows.kp (b_rows A T) pass0 (sa_cons (se_nm 0) (sa_cons (se_nm 1) sa_nil))) sc_heaviest.nd)
    (sss_cons (ss_set (se_callB (cr_max rfl) l_maxL rfl T.b_max (by decide +kernel) (sab_cons (sb_of (se_ix (sb_of (se_nm 2)) (sb_of (se_nm 1)))) sab_nil)) sc_heaviest.nd)
    (sss_cons (ss_if (st_eq hr.units (sb_of (se_nm 3)) (sb_of se_int)) (sss_one (ss_ret (se_new (sn_lst sa_nil (by decide) (len_le aN_len (by decide)))))) sss_nil)
    (sss_cons (ss_set (se_index (sb_of (se_ix (sb_of (se_nm 2)) (sb_of (se_nm 1)))) (se_nm 3)) sc_heaviest.nd)
    (sss_cons (ss_set se_int sc_heaviest.nd)
    (sss_cons (ss_own (sn_lst (sa_cons (se_tup (sa_cons se_int (sa_cons (se_ix (sb_of (se_ix (sb_of (se_fld (C := 0) T.C_Task T.n_Task_kinds (se_nm 0))) (sb_of (se_nm 4)))) (sb_of se_int)) sa_nil)) (len_le (aC_len (aC_len aN_len)) (by decide))) sa_nil) (by decide) (len_le (aC_len aN_len) (by decide))) sc_heaviest.nd)
    (sss_one (ss_while 1000 .never (st_val se_bl) (sss_cons (ss_set (se_call (ok_best_step A T) (hr.mono (by decide)) rfl T.g_best_step T.F_best_step.kp (b_best_step A T) pass0 (sa_cons (se_nm 0) (sa_cons (se_ix (sb_of (se_ix (sb_of (se_fld (C := 0) T.C_Task T.n_Task_kinds (se_nm 0))) (sb_of (se_nm 4)))) (sb_of se_int)) (sa_cons (se_sub (sb_of (se_nm 1)) (sb_of (se_nm 5))) (sa_cons (se_nm 2) sa_nil))))) sc_heaviest.nd)
    (sss_cons (ss_if (st_isN (sb_of (se_nm 7)) (sb_of se_non)) (sss_one (ss_frz (ss_ret (se_nm 6)))) sss_nil)
    (sss_cons (ss_to (se_nm 7) (sg_tup rfl (sgs_cons (sg_name sc_heaviest.nd) (sgs_cons (sg_name sc_heaviest.nd) sgs_nil)) 2))
    (sss_cons (ss_aug (se_nm 8) ip_add li_add sc_heaviest.nd)
    (sss_one (ss_app (i := 6) (se_tup (sa_cons (se_nm 5) (sa_cons (se_ix (sb_of (se_ix (sb_of (se_fld (C := 0) T.C_Task T.n_Task_kinds (se_nm 0))) (sb_of (se_nm 4)))) (sb_of se_int)) sa_nil)) (len_le (aC_len (aC_len aN_len)) (by decide)))))))))))))))))
abbrev N_stands_by : List Str := ["one", "other", "mine", "theirs", "kept", "step", "horizon", "reach", "growth", "count", "length", "number"]
omit T in theorem sc_stands_by : FnScope N_stands_by ["one", "other", "mine", "theirs", "kept", "step", "horizon"] (defScope (topS 42)) := ⟨rfl, rfl, rfl, by decide +kernel, rfl, by decide +kernel, by decide +kernel⟩
theorem ok_stands_by : FnOk P w K mg base CX0 5 A.f_stands_by A.fd_stands_by ["one", "other", "mine", "theirs", "kept", "step", "horizon"] (PS0 ⟨K, A.cm⟩ Fn_stands_by) :=
  fn0 (K := ⟨K, A.cm⟩) T.F_stands_by sc_stands_by rfl rfl fun cdv Ar outer s' H Fz E hr =>
    (sss_cons (ss_set (se_callB (call_max2 rfl) l_max2 rfl T.b_max (by decide +kernel) (sab_cons (sb_of (se_add (sb_of (se_prop (C := 0) (se_nm 0) T.C_Task T.P_Task_latest_deadline (ok_Task_latest_deadline A T) (hr.mono (by decide)) (b_Task_latest_deadline A T) pass0)) (sb_of (se_prop (C := 0) (se_nm 0) T.C_Task T.P_Task_longest_distance (ok_Task_longest_distance A T) (hr.mono (by decide)) (b_Task_longest_distance A T) pass0)))) (sab_cons (sb_of (se_add (sb_of (se_prop (C := 0) (se_nm 1) T.C_Task T.P_Task_latest_deadline (ok_Task_latest_deadline A T) (hr.mono (by decide)) (b_Task_latest_deadline A T) pass0)) (sb_of (se_prop (C := 0) (se_nm 1) T.C_Task T.P_Task_longest_distance (ok_Task_longest_distance A T) (hr.mono (by decide)) (b_Task_longest_distance A T) pass0)))) sab_nil))) sc_stands_by.nd)
    (sss_cons (ss_if (st_w (sw_or (st_lt (sb_of (se_nm 5)) (sb_of se_int)) (sw_or1 (st_gt (sb_of (se_add (sb_of (se_nm 7)) (sb_of (se_nm 5)))) (sb_of (se_nm 6)))))) (sss_one (ss_ret se_bl)) sss_nil)
    (sss_cons (ss_set se_int sc_stands_by.nd)
    (sss_cons (ss_if (st_gt (sb_of (se_prop (C := 0) (se_nm 1) T.C_Task T.P_Task_longest_distance (ok_Task_longest_distance A T) (hr.mono (by decide)) (b_Task_longest_distance A T) pass0)) (sb_of se_int)) (sss_one (ss_set (se_sub (sb_of (se_ix (sb_of (se_ix (sb_of (se_nm 3)) (sb_of (se_nm 6)))) (sb_of (se_ix (sb_of (se_nm 4)) (sb_of se_int))))) (sb_of (se_ix (sb_of (se_ix (sb_of (se_nm 3)) (sb_of (se_sub (sb_of (se_nm 6)) (sb_of (se_nm 5)))))) (sb_of (se_ix (sb_of (se_nm 4)) (sb_of se_int)))))) sc_stands_by.nd)) sss_nil)
    (sss_cons (ss_set (se_prop (C := 0) (se_nm 1) T.C_Task T.P_Task_longest_distance (ok_Task_longest_distance A T) (hr.mono (by decide)) (b_Task_longest_distance A T) pass0) sc_stands_by.nd)
    (sss_cons (ss_if (st_not (st_val (se_callK (n := 2) (ok_grows_alike A T) (hr.mono (by decide)) rfl T.g_grows_alike T.F_grows_alike.kp (kb_grows_alike_2 A T) pass0 (sa_cons (se_nm 3) (sa_cons (se_nm 4) sa_nil)) (sk_cons (se_nm 6) (sk_cons (se_nm 9) (sk_cons (se_nm 5) (sk_cons (se_nm 8) sk_nil)))) (aC_len (aC_len aN_len))))) (sss_one (ss_ret se_bl)) sss_nil)
    (sss_cons (ss_if (st_not (st_val (se_callK (n := 2) (ok_grows_alike A T) (hr.mono (by decide)) rfl T.g_grows_alike T.F_grows_alike.kp (kb_grows_alike_2 A T) pass0 (sa_cons (se_nm 2) (sa_cons (se_new (sn_lst sa_nil (by decide) (len_le aN_len (by decide)))) sa_nil)) (sk_cons (se_nm 6) (sk_cons (se_prop (C := 0) (se_nm 0) T.C_Task T.P_Task_longest_distance (ok_Task_longest_distance A T) (hr.mono (by decide)) (b_Task_longest_distance A T) pass0) (sk_cons (se_nm 5) (sk_cons (se_nm 8) sk_nil)))) (aC_len (aC_len aN_len))))) (sss_one (ss_ret se_bl)) sss_nil)
    (sss_cons (ss_for .never rfl (si_range2 rfl T.b_range (sa_cons (se_add (sb_of (se_sub (sb_of (se_nm 6)) (sb_of (se_nm 5)))) (sb_of se_int)) (sa_cons (se_add (sb_of (se_nm 6)) (sb_of se_int)) sa_nil))) (sg_name sc_stands_by.nd) (sss_cons (ss_if (st_not (st_val (se_callK (n := 3) (ok_stays_within A T) (hr.mono (by decide)) rfl T.g_stays_within T.F_stays_within.kp (kb_stays_within_3 A T) pass0 (sa_cons (se_nm 1) (sa_cons (se_nm 3) (sa_cons (se_nm 4) sa_nil))) (sk_cons (se_nm 10) (sk_cons (se_nm 8) sk_nil)) (aC_len (aC_len (aC_len aN_len)))))) (sss_one (ss_ret se_bl)) sss_nil)
    (sss_one (ss_if (st_gt (sb_of (se_callB (cr_max rfl) l_maxL rfl T.b_max (by decide +kernel) (sab_cons (sb_of (se_ix (sb_of (se_nm 2)) (sb_of (se_nm 10)))) sab_nil))) (sb_of (se_callB (cr_max rfl) l_maxL rfl T.b_max (by decide +kernel) (sab_cons (sb_of (se_new (sn_lc rfl sc_stands_by.nd (si_seq (se_nm 4)) (blkOk_by (own := [("number", 11)]) (N := N_stands_by) (sc := defScope (topS 42)) (by decide +kernel)) rfl ioN (fun _ _ _ _ _ => (sg_name sc_stands_by.nd)) (fun _ _ _ _ _ => sts_nil) (fun _ _ _ _ _ => (se_ix (sb_of (se_ix (sb_of (se_nm 3)) (sb_of (se_nm 10)))) (sb_of (se_nm 11))))))) sab_nil)))) (sss_one (ss_ret se_bl)) sss_nil))))
    (sss_one (ss_ret se_bl))))))))))
abbrev N_law_task : List Str := ["_law_name_here", "_law_task_here"]
omit T in theorem sc_law_task : FnScope N_law_task ["_law_name_here", "_law_task_here"] (defScope (topS 58)) := ⟨rfl, rfl, rfl, by decide +kernel, rfl, by decide +kernel, by decide +kernel⟩
theorem ok_law_task : FnOk P w K mg base CX0 5 A.f_law_task A.fd_law_task ["_law_name_here", "_law_task_here"] (PS0 ⟨K, A.cm⟩ Fn_law_task) :=
  fn0 (K := ⟨K, A.cm⟩) T.F_law_task sc_law_task rfl rfl fun cdv Ar outer s' H Fz E hr =>
    (sss_one (ss_ret (se_makeK (C := 0) (n := 1) T.Mk_Task (ok_Task_init A T) (hr.mono (by decide)) rfl T.g_Task (kbn_Task_init_1 A T) pass0 (sa_cons (se_nm 0) sa_nil) (sk_cons (se_new (sn_list rfl T.b_list (sab_cons (sb_of (se_ix (sb_of (se_nm 1)) (sb_of se_int))) sab_nil))) (sk_cons (se_new (sn_list rfl T.b_list (sab_cons (sb_of (se_ix (sb_of (se_nm 1)) (sb_of se_int))) sab_nil))) sk_nil)) (aC_len aN_len) (aC_len (aC_len aN_len)))))
abbrev N_extend_path : List Str := ["task", "start", "last", "path", "visited", "found", "number", "way", "target"]
omit T in theorem sc_extend_path : FnScope N_extend_path ["task", "start", "last", "path", "visited", "found"] (defScope (topS 12)) := ⟨rfl, rfl, rfl, by decide +kernel, rfl, by decide +kernel, by decide +kernel⟩
theorem ok_extend_path : ∀ n, FnOk P w K mg base CX0 (1 + n) A.f_extend_path A.fd_extend_path ["task", "start", "last", "path", "visited", "found"] (PIO ⟨K, A.cm⟩ (Fn_extend_path n))
  | 0 => fnO_none (K := ⟨K, A.cm⟩)
  | n + 1 => by
    have ih := ok_extend_path n
    exact fnO (K := ⟨K, A.cm⟩) T.F_extend_path sc_extend_path rfl rfl rfl fun cdv Ar outer s' H B Fz E a hr =>
    (sss_one (ss_for .never rfl (si_enum rfl T.b_enumerate (sa_cons (se_fld (C := 0) T.C_Task T.n_Task_ways (se_nm 0)) sa_nil)) (sg_tup rfl (sgs_cons (sg_name sc_extend_path.nd) (sgs_cons (sg_name sc_extend_path.nd) sgs_nil)) 2) (sss_cons (ss_if (st_ne hr.units (sb_of (se_meth (C := 0) (se_nm 0) T.C_Task T.M_Task_kind_number (ok_Task_kind_number A T) (rmA hr (by decide)) (b_Task_kind_number A T) pass0 (sa_cons (se_ix (sb_of (se_nm 7)) (sb_of se_int)) sa_nil))) (sb_of (se_nm 2))) (sss_one ss_continue) sss_nil)
    (sss_cons (ss_set (se_meth (C := 0) (se_nm 0) T.C_Task T.M_Task_kind_number (ok_Task_kind_number A T) (rmA hr (by decide)) (b_Task_kind_number A T) pass0 (sa_cons (se_ix (sb_of (se_nm 7)) (sb_of se_int)) sa_nil)) sc_extend_path.nd)
    (sss_one (ss_if (st_eq hr.units (sb_of (se_nm 8)) (sb_of (se_nm 1))) (sss_one (ss_app (i := 5) (se_new (sn_cat (sb_of (se_nm 3)) (sb_of (se_new (sn_lst (sa_cons (se_nm 6) sa_nil) (by decide) (len_le (aC_len aN_len) (by decide))))))))) (sss_one (ss_if (st_w (sw_and (st_gt (sb_of (se_nm 8)) (sb_of (se_nm 1))) (sw_and1 (st_notIn (sb_of (se_nm 8)) (sb_of (se_nm 4)))))) (sss_one (ss_io (i := 5) ih hr rfl T.g_extend_path T.F_extend_path.kp (b_extend_path A T) pass0 (sao_cons (se_nm 0) (sao_cons (se_nm 1) (sao_cons (se_nm 8) (sao_cons (se_new (sn_cat (sb_of (se_nm 3)) (sb_of (se_new (sn_lst (sa_cons (se_nm 6) sa_nil) (by decide) (len_le (aC_len aN_len) (by decide))))))) (sao_cons (se_new (sn_cat (sb_of (se_nm 4)) (sb_of (se_new (sn_lst (sa_cons (se_nm 8) sa_nil) (by decide) (len_le (aC_len aN_len) (by decide))))))) sao_last))))))) sss_nil))))))))
abbrev N_first_excess : List Str := ["one", "other", "horizon", "theirs", "length", "work"]
omit T in theorem sc_first_excess : FnScope N_first_excess ["one", "other", "horizon"] (defScope (topS 38)) := ⟨rfl, rfl, rfl, by decide +kernel, rfl, by decide +kernel, by decide +kernel⟩
theorem ok_first_excess : FnOk P w K mg base CX0 6 A.f_first_excess A.fd_first_excess ["one", "other", "horizon"] (PS0 ⟨K, A.cm⟩ Fn_first_excess) :=
  fn0 (K := ⟨K, A.cm⟩) T.F_first_excess sc_first_excess rfl rfl fun cdv Ar outer s' H Fz E hr =>
    (sss_cons (ss_set (se_call (ok_demands A T) (hr.mono (by decide)) rfl T.g_demands T.F_demands.kp (b_demands A T) pass0 (sa_cons (se_nm 1) (sa_cons (se_nm 2) sa_nil))) sc_first_excess.nd)
    (sss_cons (ss_for .never rfl (si_enum rfl T.b_enumerate (sa_cons (se_call (ok_demands A T) (hr.mono (by decide)) rfl T.g_demands T.F_demands.kp (b_demands A T) pass0 (sa_cons (se_nm 0) (sa_cons (se_nm 2) sa_nil))) sa_nil)) (sg_tup rfl (sgs_cons (sg_name sc_first_excess.nd) (sgs_cons (sg_name sc_first_excess.nd) sgs_nil)) 2) (sss_one (ss_if (st_gt (sb_of (se_nm 5)) (sb_of (se_ix (sb_of (se_nm 3)) (sb_of (se_nm 4))))) (sss_one (ss_ret (se_nm 4))) sss_nil)))
    (sss_one (ss_ret se_non))))
abbrev N_splittings : List Str := ["task", "length", "single", "best", "size", "piece"]
omit T in theorem sc_splittings : FnScope N_splittings ["task", "length"] (defScope (topS 45)) := ⟨rfl, rfl, rfl, by decide +kernel, rfl, by decide +kernel, by decide +kernel⟩
theorem ok_splittings : FnOk P w K mg base CX0 6 A.f_splittings A.fd_splittings ["task", "length"] (PS0 ⟨K, A.cm⟩ Fn_splittings) :=
  fn0 (K := ⟨K, A.cm⟩) T.F_splittings sc_splittings rfl rfl fun cdv Ar outer s' H Fz E hr =>
    (sss_cons (ss_set (se_call (ok_demands A T) (hr.mono (by decide)) rfl T.g_demands T.F_demands.kp (b_demands A T) pass0 (sa_cons (se_nm 0) (sa_cons (se_nm 1) sa_nil))) sc_splittings.nd)
    (sss_cons (ss_own (sn_lst (sa_cons se_int sa_nil) (by decide) (len_le (aC_len aN_len) (by decide))) sc_splittings.nd)
    (sss_cons (ss_for .never rfl (si_range2 rfl T.b_range (sa_cons se_int (sa_cons (se_add (sb_of (se_nm 1)) (sb_of se_int)) sa_nil))) (sg_name sc_splittings.nd) (sss_one (ss_app (i := 3) (se_callB (cr_max rfl) l_maxL rfl T.b_max (by decide +kernel) (sab_cons (sb_of (se_new (sn_lc rfl sc_splittings.nd (si_range2 rfl T.b_range (sa_cons se_int (sa_cons (se_add (sb_of (se_nm 4)) (sb_of se_int)) sa_nil))) (blkOk_by (own := [("piece", 5)]) (N := N_splittings) (sc := defScope (topS 45)) (by decide +kernel)) rfl ioN (fun _ _ _ _ _ => (sg_name sc_splittings.nd)) (fun _ _ _ _ _ => sts_nil) (fun _ _ _ _ _ => (se_add (sb_of (se_ix (sb_nm 3) (sb_of (se_sub (sb_of (se_nm 4)) (sb_of (se_nm 5)))))) (sb_of (se_ix (sb_of (se_nm 2)) (sb_of (se_nm 5))))))))) sab_nil)))))
    (sss_one (ss_frz (ss_ret (se_nm 3)))))))
abbrev N_circuits : List Str := ["task", "found", "start"]
omit T in theorem sc_circuits : FnScope N_circuits ["task"] (defScope (topS 11)) := ⟨rfl, rfl, rfl, by decide +kernel, rfl, by decide +kernel, by decide +kernel⟩
theorem ok_circuits : FnOk P w K mg base CX0 7 A.f_circuits A.fd_circuits ["task"] (PS0 ⟨K, A.cm⟩ Fn_circuits) :=
  fn0 (K := ⟨K, A.cm⟩) T.F_circuits sc_circuits rfl rfl fun cdv Ar outer s' H Fz E hr =>
    (sss_cons (ss_own (sn_lst sa_nil (by decide) (len_le aN_len (by decide))) sc_circuits.nd)
    (sss_cons (ss_for .never rfl (si_range1 rfl T.b_range (sa_cons (se_len rfl T.b_len (sab_cons (sb_of (se_fld (C := 0) T.C_Task T.n_Task_kinds (se_nm 0))) sab_nil)) sa_nil)) (sg_name sc_circuits.nd) (sss_one (ss_io (i := 1) (ok_extend_path A T 5) (hr.mono (by decide)) rfl T.g_extend_path T.F_extend_path.kp (b_extend_path A T) pass0 (sao_cons (se_nm 0) (sao_cons (se_nm 2) (sao_cons (se_nm 2) (sao_cons (se_new (sn_lst sa_nil (by decide) (len_le aN_len (by decide)))) (sao_cons (se_new (sn_lst (sa_cons (se_nm 2) sa_nil) (by decide) (len_le (aC_len aN_len) (by decide)))) sao_last))))))))
    (sss_one (ss_frz (ss_ret (se_nm 1))))))
abbrev N_part_at : List Str := ["task", "length", "best", "cost", "table", "largest", "size", "kind"]
omit T in theorem sc_part_at : FnScope N_part_at ["task", "length"] (defScope (topS 46)) := ⟨rfl, rfl, rfl, by decide +kernel, rfl, by decide +kernel, by decide +kernel⟩
theorem ok_part_at : FnOk P w K mg base CX0 7 A.f_part_at A.fd_part_at ["task", "length"] (PS0 ⟨K, A.cm⟩ Fn_part_at) :=
  fn0 (K := ⟨K, A.cm⟩) T.F_part_at sc_part_at rfl rfl fun cdv Ar outer s' H Fz E hr =>
    (sss_cons (ss_set (se_call (ok_splittings A T) (hr.mono (by decide)) rfl T.g_splittings T.F_splittings.kp (b_splittings A T) pass0 (sa_cons (se_nm 0) (sa_cons (se_nm 1) sa_nil))) sc_part_at.nd)
    (sss_cons (ss_set (se_callB (call_max2 rfl) l_max2 rfl T.b_max (by decide +kernel) (sab_cons (sb_of se_int) (sab_cons (sb_of (se_ix (sb_of (se_nm 2)) (sb_of (se_nm 1)))) sab_nil))) sc_part_at.nd)
    (sss_cons (ss_ownLc rfl sc_part_at.nd rfl rfl (sw_true rfl rfl rfl (by decide +kernel)) (si_range2 rfl T.b_range (sa_cons se_int (sa_cons (se_nm 1) sa_nil))) (blkOk_by (own := [("size", 6)]) (N := N_part_at) (sc := defScope (topS 46)) (by decide +kernel)) rfl ioN joN (fun _ _ _ _ _ => (sg_name sc_part_at.nd)) (fun _ _ _ _ _ => sts_nil) (fun _ _ _ _ _ => (se_sub (sb_of (se_ix (sb_of (se_nm 2)) (sb_of (se_nm 6)))) (sb_of (se_ix (sb_of (se_nm 2)) (sb_of (se_sub (sb_of (se_nm 6)) (sb_of se_int))))))))
    (sss_cons (ss_app (i := 4) (se_sub (sb_of (se_add (sb_of (se_call (ok_demand A T) (hr.mono (by decide)) rfl T.g_demand T.F_demand.kp (b_demand A T) pass0 (sa_cons (se_nm 0) (sa_cons (se_nm 1) sa_nil)))) (sb_of (se_nm 3)))) (sb_of (se_ix (sb_of (se_nm 2)) (sb_of (se_sub (sb_of (se_nm 1)) (sb_of se_int)))))))
    (sss_cons (ss_set (se_callB (cr_max rfl) l_maxL rfl T.b_max (by decide +kernel) (sab_cons (sb_of (se_new (sn_lc rfl sc_part_at.nd (si_seq (se_fld (C := 0) T.C_Task T.n_Task_kinds (se_nm 0))) (blkOk_by (own := [("kind", 7)]) (N := N_part_at) (sc := defScope (topS 46)) (by decide +kernel)) rfl ioN (fun _ _ _ _ _ => (sg_name sc_part_at.nd)) (fun _ _ _ _ _ => sts_nil) (fun _ _ _ _ _ => (se_ix (sb_of (se_nm 7)) (sb_of se_int)))))) sab_nil)) sc_part_at.nd)
    (sss_cons (ss_app (i := 4) (se_add (sb_of (se_mul (sb_of (se_mul (sb_of se_int) (sb_of (se_nm 5)))) (sb_of (se_add (sb_of (se_nm 1)) (sb_of se_int))))) (sb_of (se_nm 3))))
    (sss_one (ss_frz (ss_ret (se_make (C := 1) T.Mk_Part (ok_Part_init A T) (hr.mono (by decide)) rfl T.g_Part (b_Part_init A T) pass0 (sa_cons (se_nm 1) (sa_cons (se_nm 3) (sa_cons (se_nm 4) sa_nil)))))))))))))
abbrev N_best_circuit : List Str := ["task", "best", "greatest", "circuit", "mean"]
omit T in theorem sc_best_circuit : FnScope N_best_circuit ["task"] (defScope (topS 14)) := ⟨rfl, rfl, rfl, by decide +kernel, rfl, by decide +kernel, by decide +kernel⟩
theorem ok_best_circuit : FnOk P w K mg base CX0 8 A.f_best_circuit A.fd_best_circuit ["task"] (PS0 ⟨K, A.cm⟩ Fn_best_circuit) :=
  fn0 (K := ⟨K, A.cm⟩) T.F_best_circuit sc_best_circuit rfl rfl fun cdv Ar outer s' H Fz E hr =>
    (sss_cons (ss_set (se_new (sn_lst sa_nil (by decide) (len_le aN_len (by decide)))) sc_best_circuit.nd)
    (sss_cons (ss_set (se_call (ok_make_ratio A T) (hr.mono (by decide)) rfl T.g_make_ratio T.F_make_ratio.kp (b_make_ratio A T) pass0 (sa_cons se_int (sa_cons se_int sa_nil))) sc_best_circuit.nd)
    (sss_cons (ss_for .never rfl (si_seq (se_call (ok_circuits A T) (hr.mono (by decide)) rfl T.g_circuits T.F_circuits.kp (b_circuits A T) pass0 (sa_cons (se_nm 0) sa_nil))) (sg_name sc_best_circuit.nd) (sss_cons (ss_set (se_call (ok_circuit_mean A T) (hr.mono (by decide)) rfl T.g_circuit_mean T.F_circuit_mean.kp (b_circuit_mean A T) pass0 (sa_cons (se_nm 0) (sa_cons (se_nm 3) sa_nil))) sc_best_circuit.nd)
    (sss_one (ss_if (st_gt (sb_of (se_call (ok_compare_ratios A T) (hr.mono (by decide)) rfl T.g_compare_ratios T.F_compare_ratios.kp (b_compare_ratios A T) pass0 (sa_cons (se_nm 4) (sa_cons (se_nm 2) sa_nil)))) (sb_of se_int)) (sss_cons (ss_set (se_nm 3) sc_best_circuit.nd)
    (sss_one (ss_set (se_nm 4) sc_best_circuit.nd))) sss_nil))))
    (sss_one (ss_ret (se_nm 1))))))
abbrev N_share : List Str := ["task", "best"]
omit T in theorem sc_share : FnScope N_share ["task"] (defScope (topS 15)) := ⟨rfl, rfl, rfl, by decide +kernel, rfl, by decide +kernel, by decide +kernel⟩
theorem ok_share : FnOk P w K mg base CX0 9 A.f_share A.fd_share ["task"] (PS0 ⟨K, A.cm⟩ Fn_share) :=
  fn0 (K := ⟨K, A.cm⟩) T.F_share sc_share rfl rfl fun cdv Ar outer s' H Fz E hr =>
    (sss_cons (ss_set (se_call (ok_best_circuit A T) (hr.mono (by decide)) rfl T.g_best_circuit T.F_best_circuit.kp (b_best_circuit A T) pass0 (sa_cons (se_nm 0) sa_nil)) sc_share.nd)
    (sss_cons (ss_if (st_eq hr.units (sb_of (se_len rfl T.b_len (sab_cons (sb_of (se_nm 1)) sab_nil))) (sb_of se_int)) (sss_one (ss_ret (se_call (ok_make_ratio A T) (hr.mono (by decide)) rfl T.g_make_ratio T.F_make_ratio.kp (b_make_ratio A T) pass0 (sa_cons se_int (sa_cons se_int sa_nil))))) sss_nil)
    (sss_one (ss_ret (se_call (ok_circuit_mean A T) (hr.mono (by decide)) rfl T.g_circuit_mean T.F_circuit_mean.kp (b_circuit_mean A T) pass0 (sa_cons (se_nm 0) (sa_cons (se_nm 1) sa_nil)))))))
abbrev N_lasting_kinds : List Str := ["task", "every", "rate", "lasting", "circuit", "number", "_", "source", "target"]
omit T in theorem sc_lasting_kinds : FnScope N_lasting_kinds ["task"] (defScope (topS 39)) := ⟨rfl, rfl, rfl, by decide +kernel, rfl, by decide +kernel, by decide +kernel⟩
theorem ok_lasting_kinds : FnOk P w K mg base CX0 10 A.f_lasting_kinds A.fd_lasting_kinds ["task"] (PS0 ⟨K, A.cm⟩ Fn_lasting_kinds) :=
  fn0 (K := ⟨K, A.cm⟩) T.F_lasting_kinds sc_lasting_kinds rfl rfl fun cdv Ar outer s' H Fz E hr =>
    (sss_cons (ss_set (se_call (ok_circuits A T) (hr.mono (by decide)) rfl T.g_circuits T.F_circuits.kp (b_circuits A T) pass0 (sa_cons (se_nm 0) sa_nil)) sc_lasting_kinds.nd)
    (sss_cons (ss_if (st_eq hr.units (sb_of (se_len rfl T.b_len (sab_cons (sb_of (se_nm 1)) sab_nil))) (sb_of se_int)) (sss_one (ss_ret (se_new (sn_listR rfl rfl T.b_list rfl T.b_range (se_len rfl T.b_len (sab_cons (sb_of (se_fld (C := 0) T.C_Task T.n_Task_kinds (se_nm 0))) sab_nil)))))) sss_nil)
    (sss_cons (ss_set (se_call (ok_share A T) (hr.mono (by decide)) rfl T.g_share T.F_share.kp (b_share A T) pass0 (sa_cons (se_nm 0) sa_nil)) sc_lasting_kinds.nd)
    (sss_cons (ss_own (sn_lc rfl sc_lasting_kinds.nd (si_seq (se_fld (C := 0) T.C_Task T.n_Task_kinds (se_nm 0))) (blkOk_by (own := [("_", 6)]) (N := N_lasting_kinds) (sc := defScope (topS 39)) (by decide +kernel)) rfl ioN (fun _ _ _ _ _ => (sg_name sc_lasting_kinds.nd)) (fun _ _ _ _ _ => sts_nil) (fun _ _ _ _ _ => se_bl)) sc_lasting_kinds.nd)
    (sss_cons (ss_for .never rfl (si_seq (se_nm 1)) (sg_name sc_lasting_kinds.nd) (sss_one (ss_if (st_eq hr.units (sb_of (se_call (ok_circuit_mean A T) (hr.mono (by decide)) rfl T.g_circuit_mean T.F_circuit_mean.kp (b_circuit_mean A T) pass0 (sa_cons (se_nm 0) (sa_cons (se_nm 4) sa_nil)))) (sb_of (se_nm 2))) (sss_one (ss_for .never rfl (si_seq (se_nm 4)) (sg_name sc_lasting_kinds.nd) (sss_one (ss_put (i := 3) (se_meth (C := 0) (se_nm 0) T.C_Task T.M_Task_kind_number (ok_Task_kind_number A T) (hr.mono (by decide)) (b_Task_kind_number A T) pass0 (sa_cons (se_ix (sb_of (se_ix (sb_of (se_fld (C := 0) T.C_Task T.n_Task_ways (se_nm 0))) (sb_of (se_nm 5)))) (sb_of se_int)) sa_nil)) se_bl)))) sss_nil)))
    (sss_cons (ss_for .never rfl (si_range1 rfl T.b_range (sa_cons (se_len rfl T.b_len (sab_cons (sb_of (se_fld (C := 0) T.C_Task T.n_Task_kinds (se_nm 0))) sab_nil)) sa_nil)) (sg_name sc_lasting_kinds.nd) (sss_one (ss_for .never rfl (si_seq (se_fld (C := 0) T.C_Task T.n_Task_ways (se_nm 0))) (sg_tup rfl (sgs_cons (sg_name sc_lasting_kinds.nd) (sgs_cons (sg_name sc_lasting_kinds.nd) (sgs_cons (sg_name sc_lasting_kinds.nd) sgs_nil))) 3) (sss_one (ss_if (st_val (se_ix (sb_nm 3) (sb_of (se_meth (C := 0) (se_nm 0) T.C_Task T.M_Task_kind_number (ok_Task_kind_number A T) (hr.mono (by decide)) (b_Task_kind_number A T) pass0 (sa_cons (se_nm 8) sa_nil))))) (sss_one (ss_put (i := 3) (se_meth (C := 0) (se_nm 0) T.C_Task T.M_Task_kind_number (ok_Task_kind_number A T) (hr.mono (by decide)) (b_Task_kind_number A T) pass0 (sa_cons (se_nm 7) sa_nil)) se_bl)) sss_nil)))))
    (sss_one (ss_ret (se_new (sn_lc rfl sc_lasting_kinds.nd (si_range1 rfl T.b_range (sa_cons (se_len rfl T.b_len (sab_cons (sb_of (se_fld (C := 0) T.C_Task T.n_Task_kinds (se_nm 0))) sab_nil)) sa_nil)) (blkOk_by (own := [("number", 5)]) (N := N_lasting_kinds) (sc := defScope (topS 39)) (by decide +kernel)) rfl ioN (fun _ _ _ _ _ => (sg_name sc_lasting_kinds.nd)) (fun _ _ _ _ _ => (sts_one (st_val (se_ix (sb_nm 3) (sb_of (se_nm 5)))))) (fun _ _ _ _ _ => (se_nm 5))))))))))))
abbrev N_stand_in_step : List Str := ["one", "other", "horizon", "mine", "theirs", "kept", "step"]
omit T in theorem sc_stand_in_step : FnScope N_stand_in_step ["one", "other", "horizon"] (defScope (topS 43)) := ⟨rfl, rfl, rfl, by decide +kernel, rfl, by decide +kernel, by decide +kernel⟩
theorem ok_stand_in_step : FnOk P w K mg base CX0 11 A.f_stand_in_step A.fd_stand_in_step ["one", "other", "horizon"] (PS0 ⟨K, A.cm⟩ Fn_stand_in_step) :=
  fn0 (K := ⟨K, A.cm⟩) T.F_stand_in_step sc_stand_in_step rfl rfl fun cdv Ar outer s' H Fz E hr =>
    (sss_cons (ss_if (st_notN (sb_of (se_callK (n := 2) (ok_first_excess A T) (hr.mono (by decide)) rfl T.g_first_excess T.F_first_excess.kp (kb_first_excess_2 A T) pass0 (sa_cons (se_nm 0) (sa_cons (se_nm 1) sa_nil)) (sk_cons (se_nm 2) sk_nil) (aC_len (aC_len aN_len)))) (sb_of se_non)) (sss_one (ss_ret se_non)) sss_nil)
    (sss_cons (ss_set (se_call (ok_rows A T) (hr.mono (by decide)) rfl T.g_rows T.F_rows.kp (b_rows A T) pass0 (sa_cons (se_nm 0) (sa_cons (se_nm 2) sa_nil))) sc_stand_in_step.nd)
    (sss_cons (ss_set (se_call (ok_rows A T) (hr.mono (by decide)) rfl T.g_rows T.F_rows.kp (b_rows A T) pass0 (sa_cons (se_nm 1) (sa_cons (se_nm 2) sa_nil))) sc_stand_in_step.nd)
    (sss_cons (ss_set (se_call (ok_lasting_kinds A T) (hr.mono (by decide)) rfl T.g_lasting_kinds T.F_lasting_kinds.kp (b_lasting_kinds A T) pass0 (sa_cons (se_nm 1) sa_nil)) sc_stand_in_step.nd)
    (sss_cons (ss_for .never rfl (si_range2 rfl T.b_range (sa_cons se_int (sa_cons (se_add (sb_of (se_nm 2)) (sb_of se_int)) sa_nil))) (sg_name sc_stand_in_step.nd) (sss_one (ss_if (st_val (se_callK (n := 5) (ok_stands_by A T) (hr.mono (by decide)) rfl T.g_stands_by T.F_stands_by.kp (kb_stands_by_5 A T) pass0 (sa_cons (se_nm 0) (sa_cons (se_nm 1) (sa_cons (se_nm 3) (sa_cons (se_nm 4) (sa_cons (se_nm 5) sa_nil))))) (sk_cons (se_nm 6) (sk_cons (se_nm 2) sk_nil)) (aC_len (aC_len (aC_len (aC_len (aC_len aN_len))))))) (sss_one (ss_ret (se_nm 6))) sss_nil)))
    (sss_one (ss_ret se_non)))))))
abbrev N_may_stand : List Str := ["one", "other", "horizon", "length"]
omit T in theorem sc_may_stand : FnScope N_may_stand ["one", "other", "horizon"] (defScope (topS 44)) := ⟨rfl, rfl, rfl, by decide +kernel, rfl, by decide +kernel, by decide +kernel⟩
theorem ok_may_stand : FnOk P w K mg base (L2.CX P w) 12 A.f_may_stand A.fd_may_stand ["one", "other", "horizon"] (PSX ⟨K, A.cm⟩ Fn_may_stand) :=
  fnX (K := ⟨K, A.cm⟩) T.F_may_stand sc_may_stand rfl rfl fun cdv Ar outer s' H Fz E hr =>
    (sss_cons (ss_set (se_callK (n := 2) (ok_first_excess A T) (hr.mono (by decide)) rfl T.g_first_excess T.F_first_excess.kp (kb_first_excess_2 A T) pass0 (sa_cons (se_nm 0) (sa_cons (se_nm 1) sa_nil)) (sk_cons (se_nm 2) sk_nil) (aC_len (aC_len aN_len))) sc_may_stand.nd)
    (sss_cons (ss_if (st_notN (sb_of (se_nm 3)) (sb_of se_non)) (sss_one (ss_ret (se_call (ok_part_at A T) (hr.mono (by decide)) rfl T.g_part_at T.F_part_at.kp (b_part_at A T) pass0 (sa_cons (se_nm 1) (sa_cons (se_nm 3) sa_nil))))) sss_nil)
    (sss_cons (ss_if (st_isN (sb_of (se_callK (n := 2) (ok_stand_in_step A T) (hr.mono (by decide)) rfl T.g_stand_in_step T.F_stand_in_step.kp (kb_stand_in_step_2 A T) pass0 (sa_cons (se_nm 0) (sa_cons (se_nm 1) sa_nil)) (sk_cons (se_nm 2) sk_nil) (aC_len (aC_len aN_len)))) (sb_of se_non)) (sss_one (ss_raise1 (C := 2) T.X_Undecided T.I_Undecided T.ti_Undecided (ok_Undecided A T) (hr.mono (by decide)) (b_Undecided A T) pass0 rfl T.g_Undecided rfl (takes_of rfl rfl rfl rfl) (se_nm 2))) sss_nil)
    (sss_one (ss_ret se_non)))))
abbrev N_law : List Str := ["_law_script", "_law_numbers_here", "_law_one", "_law_other", "_law_horizon", "_law_course_here", "_law_first", "_law_part", "_law_job", "_law_table", "_law_late_here"]
omit T in theorem sc_law : FnScope N_law ["_law_script"] (defScope (topS 60)) := ⟨rfl, rfl, rfl, by decide +kernel, rfl, by decide +kernel, by decide +kernel⟩
theorem ok_law : FnOk P w K mg base CX0 13 A.f_law A.fd_law ["_law_script"] (PS0 ⟨K, A.cm⟩ Fn_law) :=
  fn0 (K := ⟨K, A.cm⟩) T.F_law sc_law rfl rfl fun cdv Ar outer s' H Fz E hr =>
    (sss_cons (ss_set (se_new (sn_cat (sb_of (se_call (ok_law_numbers A T) (hr.mono (by decide)) rfl T.g_law_numbers T.F_law_numbers.kp (b_law_numbers A T) pass0 (sa_cons (se_nm 0) (sa_cons se_int sa_nil)))) (sb_of (se_new (sn_lst (sa_cons se_int sa_nil) (by decide) (len_le (aC_len aN_len) (by decide))))))) sc_law.nd)
    (sss_cons (ss_to (se_call (ok_law_two_tasks A T) (hr.mono (by decide)) rfl T.g_law_two_tasks T.F_law_two_tasks.kp (b_law_two_tasks A T) pass0 (sa_cons (se_nm 1) sa_nil)) (sg_tup rfl (sgs_cons (sg_name sc_law.nd) (sgs_cons (sg_name sc_law.nd) sgs_nil)) 2))
    (sss_cons (ss_set (se_add (sb_of se_int) (sb_of (se_call (ok_law_pick A T) (hr.mono (by decide)) rfl T.g_law_pick T.F_law_pick.kp (b_law_pick A T) pass0 (sa_cons (se_nm 1) (sa_cons se_int (sa_cons se_int sa_nil)))))) sc_law.nd)
    (sss_cons (ss_set (se_call (ok_law_course A T) (hr.mono (by decide)) rfl T.g_law_course T.F_law_course.kp (b_law_course A T) pass0 (sa_cons (se_nm 1) (sa_cons se_int (sa_cons (se_ix (sb_of (se_nm 3)) (sb_of se_int)) (sa_cons (se_ix (sb_of (se_nm 3)) (sb_of se_int)) (sa_cons (se_add (sb_of se_int) (sb_of (se_call (ok_law_pick A T) (hr.mono (by decide)) rfl T.g_law_pick T.F_law_pick.kp (b_law_pick A T) pass0 (sa_cons (se_nm 1) (sa_cons se_int (sa_cons se_int sa_nil)))))) sa_nil)))))) sc_law.nd)
    (sss_cons (ss_set (se_call (ok_law_task A T) (hr.mono (by decide)) rfl T.g_law_task T.F_law_task.kp (b_law_task A T) pass0 (sa_cons se_str (sa_cons (se_nm 2) sa_nil))) sc_law.nd)
    (sss_cons (ss_try rfl rfl ⟨rfl, by decide, .inl T.g_Undecided⟩ takes_nox rfl (cuIs_ok T.exm_Undecided) (fun _ _ _ _ _ hp tk po => (sss_one (ss_set (se_callKX (n := 2) (ok_may_stand A T) (hr.mono (by decide)) rfl T.g_may_stand T.F_may_stand.kp (kb_may_stand_2 A T) hp (sa_cons (se_nm 6) (sa_cons (se_call (ok_law_task A T) (hr.mono (by decide)) rfl T.g_law_task T.F_law_task.kp (b_law_task A T) pass0 (sa_cons se_str (sa_cons (se_nm 3) sa_nil))) sa_nil)) (sk_cons (se_nm 4) sk_nil) (aC_len (aC_len aN_len))) sc_law.nd))) (fun _ _ _ => (sss_one (ss_ret se_bl))))
    (sss_cons (ss_if (st_isN (sb_of (se_nm 7)) (sb_of se_non)) (sss_one (ss_ret se_bl)) sss_nil)
    (sss_cons (ss_set (se_tup (sa_cons (se_new (sn_lst (sa_cons (se_tup (sa_cons se_str (sa_cons (se_fld (C := 1) T.C_Part T.n_Part_cost (se_nm 7)) (sa_cons (se_fld (C := 1) T.C_Part T.n_Part_length (se_nm 7)) sa_nil))) (len_le (aC_len (aC_len (aC_len aN_len))) (by decide))) sa_nil) (by decide) (len_le (aC_len aN_len) (by decide)))) (sa_cons (se_new (sn_lst sa_nil (by decide) (len_le aN_len (by decide)))) sa_nil)) (len_le (aC_len (aC_len aN_len)) (by decide))) sc_law.nd)
    (sss_cons (ss_set (se_new (sn_list rfl T.b_list (sab_cons (sb_of (se_fld (C := 1) T.C_Part T.n_Part_table (se_nm 7))) sab_nil))) sc_law.nd)
    (sss_cons (ss_if (st_notN (sb_of (se_call (ok_law_late A T) (hr.mono (by decide)) rfl T.g_law_late T.F_law_late.kp (b_law_late A T) pass0 (sa_cons (se_new (sn_lst (sa_cons (se_nm 3) (sa_cons (se_nm 8) sa_nil)) (by decide) (len_le (aC_len (aC_len aN_len)) (by decide)))) (sa_cons (se_new (sn_lst (sa_cons (se_nm 5) (sa_cons (se_new (sn_lst (sa_cons (se_tup (sa_cons (se_call (ok_law_pick A T) (hr.mono (by decide)) rfl T.g_law_pick T.F_law_pick.kp (b_law_pick A T) pass0 (sa_cons (se_nm 1) (sa_cons se_int (sa_cons se_int sa_nil)))) (sa_cons se_str sa_nil)) (len_le (aC_len (aC_len aN_len)) (by decide))) sa_nil) (by decide) (len_le (aC_len aN_len) (by decide)))) sa_nil)) (by decide) (len_le (aC_len (aC_len aN_len)) (by decide)))) (sa_cons (se_nm 9) sa_nil))))) (sb_of se_non)) (sss_one (ss_ret se_bl)) sss_nil)
    (sss_cons (ss_set (se_call (ok_law_late A T) (hr.mono (by decide)) rfl T.g_law_late T.F_law_late.kp (b_law_late A T) pass0 (sa_cons (se_new (sn_lst (sa_cons (se_nm 2) (sa_cons (se_nm 8) sa_nil)) (by decide) (len_le (aC_len (aC_len aN_len)) (by decide)))) (sa_cons (se_new (sn_lst (sa_cons (se_call (ok_heaviest A T) (hr.mono (by decide)) rfl T.g_heaviest T.F_heaviest.kp (b_heaviest A T) pass0 (sa_cons (se_nm 6) (sa_cons (se_fld (C := 1) T.C_Part T.n_Part_length (se_nm 7)) sa_nil))) (sa_cons (se_new (sn_lst (sa_cons (se_tup (sa_cons se_int (sa_cons se_str sa_nil)) (len_le (aC_len (aC_len aN_len)) (by decide))) sa_nil) (by decide) (len_le (aC_len aN_len) (by decide)))) sa_nil)) (by decide) (len_le (aC_len (aC_len aN_len)) (by decide)))) (sa_cons (se_nm 9) sa_nil)))) sc_law.nd)
    (sss_one (ss_ret (se_and (se_notN (sb_of (se_nm 10)) (sb_of se_non)) (se_bone (se_lec (sb_of (se_nm 10)) (sb_of (se_fld (C := 1) T.C_Part T.n_Part_length (se_nm 7)))))))))))))))))))
end
end G90

namespace G90
open PySem PySem.Spec PyProof.Rows L2 Pu

/-- what the law promises -/
def spLaw (K : PySem.W.Frag) : Sp := fun vs H Q _ => ∃ (a : Addr) (ns : List Int), vs = [.ref a] ∧ SqL K H a (ns.map V.int) ∧ ns.length ≤ 63 ∧ ∀ H', Q (.bl true) H'
theorem all_mk (law_true : ∀ ns : List Int, ns.length ≤ 63 → Fn_law [.scr ns] = .ok (.bl true)) {l : PySem.W.OpenLaw} {w : World} {K : PySem.W.Frag} {h : Heap} {mg : Str → Option Value} {fa : Addr} (X : K.In h) (G : h.Ns mainGlobals mg) (hfa : mg "law" = some (.ref fa))
    {c_Task c_Part c_Undecided f0 f1 f2 f3 f4 f5 p5 f6 p6 f7 f8 f9 f10 f11 f12 f13 f14 f15 f16 f17 f18 f19 f20 f21 f22 f23 f24 f25 f26 f27 f28 f29 f30 f31 f32 f33 f34 f35 f36 f37 f38 f39 f40 f41 f42 f43 f44 f45 f_Undecided cc_Undecided cda_Undecided N_Undecided : Addr}
    {od0 an0 od1 an1 od2 an2 od3 an3 od4 an4 od5 an5 od6 an6 od7 an7 od8 an8 od9 an9 od10 an10 od11 an11 od12 an12 od13 an13 od14 an14 od15 an15 od16 an16 od17 an17 od18 an18 od19 an19 od20 an20 od21 an21 od22 an22 od23 an23 od24 an24 od25 an25 od26 an26 od27 an27 od28 an28 od29 an29 od30 an30 od31 an31 od32 an32 od33 an33 od34 an34 od35 an35 od36 an36 od37 an37 od38 an38 od39 an39 od40 an40 od41 an41 od42 an42 od43 an43 od44 an44 od45 an45 od_Undecided an_Undecided cdd_Undecided cld_Undecided dd_Undecided : Option Addr}
    {sl0 sl1 sl2 sl3 sl4 sl5 sl6 sl7 sl8 sl9 sl10 sl11 sl12 sl13 sl14 sl15 sl16 sl17 sl18 sl19 sl20 sl21 sl22 sl23 sl24 sl25 sl26 sl27 sl28 sl29 sl30 sl31 sl32 sl33 sl34 sl35 sl36 sl37 sl38 sl39 sl40 sl41 sl42 sl43 sl44 sl45 sl_Undecided ccs_Undecided csl_Undecided : Array (Option Value)}
    {oc0 kV0 dc0 pm0 cd0 ct0 oc1 kV1 dc1 pm1 cd1 ct1 oc2 kV2 dc2 pm2 cd2 ct2 oc3 kV3 dc3 pm3 cd3 ct3 oc4 kV4 dc4 pm4 cd4 ct4 oc5 kV5 dc5 pm5 cd5 ct5 oc6 kV6 dc6 pm6 cd6 ct6 oc7 kV7 dc7 pm7 cd7 ct7 oc8 kV8 dc8 pm8 cd8 ct8 oc9 kV9 dc9 pm9 cd9 ct9 oc10 kV10 dc10 pm10 cd10 ct10 oc11 kV11 dc11 pm11 cd11 ct11 oc12 kV12 dc12 pm12 cd12 ct12 oc13 kV13 dc13 pm13 cd13 ct13 oc14 kV14 dc14 pm14 cd14 ct14 oc15 kV15 dc15 pm15 cd15 ct15 oc16 kV16 dc16 pm16 cd16 ct16 oc17 kV17 dc17 pm17 cd17 ct17 oc18 kV18 dc18 pm18 cd18 ct18 oc19 kV19 dc19 pm19 cd19 ct19 oc20 kV20 dc20 pm20 cd20 ct20 oc21 kV21 dc21 pm21 cd21 ct21 oc22 kV22 dc22 pm22 cd22 ct22 oc23 kV23 dc23 pm23 cd23 ct23 oc24 kV24 dc24 pm24 cd24 ct24 oc25 kV25 dc25 pm25 cd25 ct25 oc26 kV26 dc26 pm26 cd26 ct26 oc27 kV27 dc27 pm27 cd27 ct27 oc28 kV28 dc28 pm28 cd28 ct28 oc29 kV29 dc29 pm29 cd29 ct29 oc30 kV30 dc30 pm30 cd30 ct30 oc31 kV31 dc31 pm31 cd31 ct31 oc32 kV32 dc32 pm32 cd32 ct32 oc33 kV33 dc33 pm33 cd33 ct33 oc34 kV34 dc34 pm34 cd34 ct34 oc35 kV35 dc35 pm35 cd35 ct35 oc36 kV36 dc36 pm36 cd36 ct36 oc37 kV37 dc37 pm37 cd37 ct37 oc38 kV38 dc38 pm38 cd38 ct38 oc39 kV39 dc39 pm39 cd39 ct39 oc40 kV40 dc40 pm40 cd40 ct40 oc41 kV41 dc41 pm41 cd41 ct41 oc42 kV42 dc42 pm42 cd42 ct42 oc43 kV43 dc43 pm43 cd43 ct43 oc44 kV44 dc44 pm44 cd44 ct44 oc45 kV45 dc45 pm45 cd45 ct45 oc_Undecided kV_Undecided dc_Undecided pm_Undecided ct_Undecided ccl_Undecided cel_Undecided : Value}
    {t_MOST_COST t_MOST_DEADLINE t_MOST_DISTANCE t_MOST_KINDS t_MOST_NAME_CHARS t_MOST_WAYS t_NAME_CHARS tf_Undecided : Tok}
    {r5 r6 bs_Undecided bm_Undecided sub_Undecided : List Value}
    {file_Undecided nm_Undecided qn_Undecided : Str}
    {ab_Undecided : Bool}
    {col_Undecided : Option Bool}
    {sn_Undecided : List Str}
    {vs_Undecided : Array Value}
    {k0_Undecided k1_Undecided k2_Undecided k3_Undecided k5_Undecided : Option Value}
    (g_Task : PySem.W.nsIn K mainGlobals "Task" = some (some (.ref c_Task)))
    (g_Part : PySem.W.nsIn K mainGlobals "Part" = some (some (.ref c_Part)))
    (g_Undecided : PySem.W.nsIn K mainGlobals "Undecided" = some (some (.ref c_Undecided)))
    (a0 : PySem.W.nsIn K mainGlobals "make_ratio" = some (some (.ref f0)))
    (l0 : K.lookup f0 = some ⟨oc0, od0, .func (PySem.W.fnOf "make_ratio" "make_ratio" (defArgs (topS 8)) (defBody (topS 8)) (defScope (topS 8)) .none kV0 dc0 pm0 an0 cd0 ct0), sl0⟩)
    (q0 : PySem.W.codeIn K cd0 "make_ratio" = true)
    (k0 : PySem.W.keepIn K (.ref f0) = true)
    (a1 : PySem.W.nsIn K mainGlobals "compare_ratios" = some (some (.ref f1)))
    (l1 : K.lookup f1 = some ⟨oc1, od1, .func (PySem.W.fnOf "compare_ratios" "compare_ratios" (defArgs (topS 9)) (defBody (topS 9)) (defScope (topS 9)) .none kV1 dc1 pm1 an1 cd1 ct1), sl1⟩)
    (q1 : PySem.W.codeIn K cd1 "compare_ratios" = true)
    (k1 : PySem.W.keepIn K (.ref f1) = true)
    (a2 : PySem.W.nsIn K mainGlobals "own_work" = some (some (.ref f2)))
    (l2 : K.lookup f2 = some ⟨oc2, od2, .func (PySem.W.fnOf "own_work" "own_work" (defArgs (topS 18)) (defBody (topS 18)) (defScope (topS 18)) .none kV2 dc2 pm2 an2 cd2 ct2), sl2⟩)
    (q2 : PySem.W.codeIn K cd2 "own_work" = true)
    (k2 : PySem.W.keepIn K (.ref f2) = true)
    (a3 : PySem.W.nsIn K mainGlobals "is_name" = some (some (.ref f3)))
    (l3 : K.lookup f3 = some ⟨oc3, od3, .func (PySem.W.fnOf "is_name" "is_name" (defArgs (topS 32)) (defBody (topS 32)) (defScope (topS 32)) .none kV3 dc3 pm3 an3 cd3 ct3), sl3⟩)
    (q3 : PySem.W.codeIn K cd3 "is_name" = true)
    (k3 : PySem.W.keepIn K (.ref f3) = true)
    (a4 : PySem.W.nsIn K mainGlobals "are_ways" = some (some (.ref f4)))
    (l4 : K.lookup f4 = some ⟨oc4, od4, .func (PySem.W.fnOf "are_ways" "are_ways" (defArgs (topS 34)) (defBody (topS 34)) (defScope (topS 34)) .none kV4 dc4 pm4 an4 cd4 ct4), sl4⟩)
    (q4 : PySem.W.codeIn K cd4 "are_ways" = true)
    (k4 : PySem.W.keepIn K (.ref f4) = true)
    (a5 : PySem.W.findIn K (.ref c_Task) "longest_distance" = some (some (.ref p5)))
    (pg5 : PySem.W.specialIn K (.ref p5) "__get__" = some (some (.builtin "property.__get__")))
    (pt5 : PySem.W.takesIn K (.ref p5) = some true)
    (pr5 : PySem.W.recIn K p5 "property" = some (.ref f5 :: r5))
    (l5 : K.lookup f5 = some ⟨oc5, od5, .func (PySem.W.fnOf "longest_distance" "Task.longest_distance" (defArgs (inClass (topS 35) 1)) (defBody (inClass (topS 35) 1)) (defScope (inClass (topS 35) 1)) .none kV5 dc5 pm5 an5 cd5 ct5), sl5⟩)
    (q5 : PySem.W.codeIn K cd5 "Task.longest_distance" = true)
    (k5 : PySem.W.keepIn K (.ref f5) = true)
    (a6 : PySem.W.findIn K (.ref c_Task) "latest_deadline" = some (some (.ref p6)))
    (pg6 : PySem.W.specialIn K (.ref p6) "__get__" = some (some (.builtin "property.__get__")))
    (pt6 : PySem.W.takesIn K (.ref p6) = some true)
    (pr6 : PySem.W.recIn K p6 "property" = some (.ref f6 :: r6))
    (l6 : K.lookup f6 = some ⟨oc6, od6, .func (PySem.W.fnOf "latest_deadline" "Task.latest_deadline" (defArgs (inClass (topS 35) 2)) (defBody (inClass (topS 35) 2)) (defScope (inClass (topS 35) 2)) .none kV6 dc6 pm6 an6 cd6 ct6), sl6⟩)
    (q6 : PySem.W.codeIn K cd6 "Task.latest_deadline" = true)
    (k6 : PySem.W.keepIn K (.ref f6) = true)
    (a7 : PySem.W.findIn K (.ref c_Task) "kind_number" = some (some (.ref f7)))
    (i7 : PySem.W.isFn K (.ref f7) = true)
    (l7 : K.lookup f7 = some ⟨oc7, od7, .func (PySem.W.fnOf "kind_number" "Task.kind_number" (defArgs (inClass (topS 35) 3)) (defBody (inClass (topS 35) 3)) (defScope (inClass (topS 35) 3)) .none kV7 dc7 pm7 an7 cd7 ct7), sl7⟩)
    (q7 : PySem.W.codeIn K cd7 "Task.kind_number" = true)
    (k7 : PySem.W.keepIn K (.ref f7) = true)
    (a8 : PySem.W.findIn K (.ref c_Part) "__init__" = some (some (.ref f8)))
    (i8 : PySem.W.isFn K (.ref f8) = true)
    (l8 : K.lookup f8 = some ⟨oc8, od8, .func (PySem.W.fnOf "__init__" "Part.__init__" (defArgs (inClass (topS 37) 0)) (defBody (inClass (topS 37) 0)) (defScope (inClass (topS 37) 0)) .none kV8 dc8 pm8 an8 cd8 ct8), sl8⟩)
    (q8 : PySem.W.codeIn K cd8 "Part.__init__" = true)
    (k8 : PySem.W.keepIn K (.ref f8) = true)
    (a9 : PySem.W.nsIn K mainGlobals "grows_alike" = some (some (.ref f9)))
    (l9 : K.lookup f9 = some ⟨oc9, od9, .func (PySem.W.fnOf "grows_alike" "grows_alike" (defArgs (topS 40)) (defBody (topS 40)) (defScope (topS 40)) .none kV9 dc9 pm9 an9 cd9 ct9), sl9⟩)
    (q9 : PySem.W.codeIn K cd9 "grows_alike" = true)
    (k9 : PySem.W.keepIn K (.ref f9) = true)
    (a10 : PySem.W.nsIn K mainGlobals "_law_row" = some (some (.ref f10)))
    (l10 : K.lookup f10 = some ⟨oc10, od10, .func (PySem.W.fnOf "_law_row" "_law_row" (defArgs (topS 48)) (defBody (topS 48)) (defScope (topS 48)) .none kV10 dc10 pm10 an10 cd10 ct10), sl10⟩)
    (q10 : PySem.W.codeIn K cd10 "_law_row" = true)
    (k10 : PySem.W.keepIn K (.ref f10) = true)
    (a11 : PySem.W.nsIn K mainGlobals "_law_pick" = some (some (.ref f11)))
    (l11 : K.lookup f11 = some ⟨oc11, od11, .func (PySem.W.fnOf "_law_pick" "_law_pick" (defArgs (topS 50)) (defBody (topS 50)) (defScope (topS 50)) .none kV11 dc11 pm11 an11 cd11 ct11), sl11⟩)
    (q11 : PySem.W.codeIn K cd11 "_law_pick" = true)
    (k11 : PySem.W.keepIn K (.ref f11) = true)
    (a12 : PySem.W.nsIn K mainGlobals "_law_scale" = some (some (.ref f12)))
    (l12 : K.lookup f12 = some ⟨oc12, od12, .func (PySem.W.fnOf "_law_scale" "_law_scale" (defArgs (topS 51)) (defBody (topS 51)) (defScope (topS 51)) .none kV12 dc12 pm12 an12 cd12 ct12), sl12⟩)
    (q12 : PySem.W.codeIn K cd12 "_law_scale" = true)
    (k12 : PySem.W.keepIn K (.ref f12) = true)
    (a13 : PySem.W.nsIn K mainGlobals "_law_name" = some (some (.ref f13)))
    (l13 : K.lookup f13 = some ⟨oc13, od13, .func (PySem.W.fnOf "_law_name" "_law_name" (defArgs (topS 52)) (defBody (topS 52)) (defScope (topS 52)) .none kV13 dc13 pm13 an13 cd13 ct13), sl13⟩)
    (q13 : PySem.W.codeIn K cd13 "_law_name" = true)
    (k13 : PySem.W.keepIn K (.ref f13) = true)
    (a14 : PySem.W.nsIn K mainGlobals "_law_number" = some (some (.ref f14)))
    (l14 : K.lookup f14 = some ⟨oc14, od14, .func (PySem.W.fnOf "_law_number" "_law_number" (defArgs (topS 55)) (defBody (topS 55)) (defScope (topS 55)) .none kV14 dc14 pm14 an14 cd14 ct14), sl14⟩)
    (q14 : PySem.W.codeIn K cd14 "_law_number" = true)
    (k14 : PySem.W.keepIn K (.ref f14) = true)
    (a15 : PySem.W.nsIn K mainGlobals "are_kinds" = some (some (.ref f15)))
    (l15 : K.lookup f15 = some ⟨oc15, od15, .func (PySem.W.fnOf "are_kinds" "are_kinds" (defArgs (topS 33)) (defBody (topS 33)) (defScope (topS 33)) .none kV15 dc15 pm15 an15 cd15 ct15), sl15⟩)
    (q15 : PySem.W.codeIn K cd15 "are_kinds" = true)
    (k15 : PySem.W.keepIn K (.ref f15) = true)
    (a16 : PySem.W.findIn K (.ref c_Task) "cost" = some (some (.ref f16)))
    (i16 : PySem.W.isFn K (.ref f16) = true)
    (l16 : K.lookup f16 = some ⟨oc16, od16, .func (PySem.W.fnOf "cost" "Task.cost" (defArgs (inClass (topS 35) 4)) (defBody (inClass (topS 35) 4)) (defScope (inClass (topS 35) 4)) .none kV16 dc16 pm16 an16 cd16 ct16), sl16⟩)
    (q16 : PySem.W.codeIn K cd16 "Task.cost" = true)
    (k16 : PySem.W.keepIn K (.ref f16) = true)
    (a17 : PySem.W.findIn K (.ref c_Task) "ways_from" = some (some (.ref f17)))
    (i17 : PySem.W.isFn K (.ref f17) = true)
    (l17 : K.lookup f17 = some ⟨oc17, od17, .func (PySem.W.fnOf "ways_from" "Task.ways_from" (defArgs (inClass (topS 35) 6)) (defBody (inClass (topS 35) 6)) (defScope (inClass (topS 35) 6)) .none kV17 dc17 pm17 an17 cd17 ct17), sl17⟩)
    (q17 : PySem.W.codeIn K cd17 "Task.ways_from" = true)
    (k17 : PySem.W.keepIn K (.ref f17) = true)
    (a18 : PySem.W.nsIn K mainGlobals "_law_numbers" = some (some (.ref f18)))
    (l18 : K.lookup f18 = some ⟨oc18, od18, .func (PySem.W.fnOf "_law_numbers" "_law_numbers" (defArgs (topS 49)) (defBody (topS 49)) (defScope (topS 49)) .none kV18 dc18 pm18 an18 cd18 ct18), sl18⟩)
    (q18 : PySem.W.codeIn K cd18 "_law_numbers" = true)
    (k18 : PySem.W.keepIn K (.ref f18) = true)
    (a19 : PySem.W.nsIn K mainGlobals "_law_kinds" = some (some (.ref f19)))
    (l19 : K.lookup f19 = some ⟨oc19, od19, .func (PySem.W.fnOf "_law_kinds" "_law_kinds" (defArgs (topS 53)) (defBody (topS 53)) (defScope (topS 53)) .none kV19 dc19 pm19 an19 cd19 ct19), sl19⟩)
    (q19 : PySem.W.codeIn K cd19 "_law_kinds" = true)
    (k19 : PySem.W.keepIn K (.ref f19) = true)
    (a20 : PySem.W.nsIn K mainGlobals "_law_ways" = some (some (.ref f20)))
    (l20 : K.lookup f20 = some ⟨oc20, od20, .func (PySem.W.fnOf "_law_ways" "_law_ways" (defArgs (topS 54)) (defBody (topS 54)) (defScope (topS 54)) .none kV20 dc20 pm20 an20 cd20 ct20), sl20⟩)
    (q20 : PySem.W.codeIn K cd20 "_law_ways" = true)
    (k20 : PySem.W.keepIn K (.ref f20) = true)
    (a21 : PySem.W.nsIn K mainGlobals "_law_course" = some (some (.ref f21)))
    (l21 : K.lookup f21 = some ⟨oc21, od21, .func (PySem.W.fnOf "_law_course" "_law_course" (defArgs (topS 56)) (defBody (topS 56)) (defScope (topS 56)) .none kV21 dc21 pm21 an21 cd21 ct21), sl21⟩)
    (q21 : PySem.W.codeIn K cd21 "_law_course" = true)
    (k21 : PySem.W.keepIn K (.ref f21) = true)
    (a22 : PySem.W.nsIn K mainGlobals "_law_late" = some (some (.ref f22)))
    (l22 : K.lookup f22 = some ⟨oc22, od22, .func (PySem.W.fnOf "_law_late" "_law_late" (defArgs (topS 59)) (defBody (topS 59)) (defScope (topS 59)) .none kV22 dc22 pm22 an22 cd22 ct22), sl22⟩)
    (q22 : PySem.W.codeIn K cd22 "_law_late" = true)
    (k22 : PySem.W.keepIn K (.ref f22) = true)
    (a23 : PySem.W.nsIn K mainGlobals "circuit_mean" = some (some (.ref f23)))
    (l23 : K.lookup f23 = some ⟨oc23, od23, .func (PySem.W.fnOf "circuit_mean" "circuit_mean" (defArgs (topS 13)) (defBody (topS 13)) (defScope (topS 13)) .none kV23 dc23 pm23 an23 cd23 ct23), sl23⟩)
    (q23 : PySem.W.codeIn K cd23 "circuit_mean" = true)
    (k23 : PySem.W.keepIn K (.ref f23) = true)
    (a24 : PySem.W.nsIn K mainGlobals "best_continuation" = some (some (.ref f24)))
    (l24 : K.lookup f24 = some ⟨oc24, od24, .func (PySem.W.fnOf "best_continuation" "best_continuation" (defArgs (topS 19)) (defBody (topS 19)) (defScope (topS 19)) .none kV24 dc24 pm24 an24 cd24 ct24), sl24⟩)
    (q24 : PySem.W.codeIn K cd24 "best_continuation" = true)
    (k24 : PySem.W.keepIn K (.ref f24) = true)
    (a25 : PySem.W.nsIn K mainGlobals "best_step" = some (some (.ref f25)))
    (l25 : K.lookup f25 = some ⟨oc25, od25, .func (PySem.W.fnOf "best_step" "best_step" (defArgs (topS 23)) (defBody (topS 23)) (defScope (topS 23)) .none kV25 dc25 pm25 an25 cd25 ct25), sl25⟩)
    (q25 : PySem.W.codeIn K cd25 "best_step" = true)
    (k25 : PySem.W.keepIn K (.ref f25) = true)
    (a26 : PySem.W.findIn K (.ref c_Task) "__init__" = some (some (.ref f26)))
    (i26 : PySem.W.isFn K (.ref f26) = true)
    (l26 : K.lookup f26 = some ⟨oc26, od26, .func (PySem.W.fnOf "__init__" "Task.__init__" (defArgs (inClass (topS 35) 0)) (defBody (inClass (topS 35) 0)) (defScope (inClass (topS 35) 0)) .none kV26 dc26 pm26 an26 cd26 ct26), sl26⟩)
    (q26 : PySem.W.codeIn K cd26 "Task.__init__" = true)
    (k26 : PySem.W.keepIn K (.ref f26) = true)
    (a27 : PySem.W.nsIn K mainGlobals "_law_two_tasks" = some (some (.ref f27)))
    (l27 : K.lookup f27 = some ⟨oc27, od27, .func (PySem.W.fnOf "_law_two_tasks" "_law_two_tasks" (defArgs (topS 57)) (defBody (topS 57)) (defScope (topS 57)) .none kV27 dc27 pm27 an27 cd27 ct27), sl27⟩)
    (q27 : PySem.W.codeIn K cd27 "_law_two_tasks" = true)
    (k27 : PySem.W.keepIn K (.ref f27) = true)
    (a28 : PySem.W.nsIn K mainGlobals "rows" = some (some (.ref f28)))
    (l28 : K.lookup f28 = some ⟨oc28, od28, .func (PySem.W.fnOf "rows" "rows" (defArgs (topS 17)) (defBody (topS 17)) (defScope (topS 17)) .none kV28 dc28 pm28 an28 cd28 ct28), sl28⟩)
    (q28 : PySem.W.codeIn K cd28 "rows" = true)
    (k28 : PySem.W.keepIn K (.ref f28) = true)
    (a29 : PySem.W.nsIn K mainGlobals "stays_within" = some (some (.ref f29)))
    (l29 : K.lookup f29 = some ⟨oc29, od29, .func (PySem.W.fnOf "stays_within" "stays_within" (defArgs (topS 41)) (defBody (topS 41)) (defScope (topS 41)) .none kV29 dc29 pm29 an29 cd29 ct29), sl29⟩)
    (q29 : PySem.W.codeIn K cd29 "stays_within" = true)
    (k29 : PySem.W.keepIn K (.ref f29) = true)
    (a30 : PySem.W.nsIn K mainGlobals "demand" = some (some (.ref f30)))
    (l30 : K.lookup f30 = some ⟨oc30, od30, .func (PySem.W.fnOf "demand" "demand" (defArgs (topS 20)) (defBody (topS 20)) (defScope (topS 20)) .none kV30 dc30 pm30 an30 cd30 ct30), sl30⟩)
    (q30 : PySem.W.codeIn K cd30 "demand" = true)
    (k30 : PySem.W.keepIn K (.ref f30) = true)
    (a31 : PySem.W.nsIn K mainGlobals "demands" = some (some (.ref f31)))
    (l31 : K.lookup f31 = some ⟨oc31, od31, .func (PySem.W.fnOf "demands" "demands" (defArgs (topS 21)) (defBody (topS 21)) (defScope (topS 21)) .none kV31 dc31 pm31 an31 cd31 ct31), sl31⟩)
    (q31 : PySem.W.codeIn K cd31 "demands" = true)
    (k31 : PySem.W.keepIn K (.ref f31) = true)
    (a32 : PySem.W.nsIn K mainGlobals "heaviest" = some (some (.ref f32)))
    (l32 : K.lookup f32 = some ⟨oc32, od32, .func (PySem.W.fnOf "heaviest" "heaviest" (defArgs (topS 22)) (defBody (topS 22)) (defScope (topS 22)) .none kV32 dc32 pm32 an32 cd32 ct32), sl32⟩)
    (q32 : PySem.W.codeIn K cd32 "heaviest" = true)
    (k32 : PySem.W.keepIn K (.ref f32) = true)
    (a33 : PySem.W.nsIn K mainGlobals "stands_by" = some (some (.ref f33)))
    (l33 : K.lookup f33 = some ⟨oc33, od33, .func (PySem.W.fnOf "stands_by" "stands_by" (defArgs (topS 42)) (defBody (topS 42)) (defScope (topS 42)) .none kV33 dc33 pm33 an33 cd33 ct33), sl33⟩)
    (q33 : PySem.W.codeIn K cd33 "stands_by" = true)
    (k33 : PySem.W.keepIn K (.ref f33) = true)
    (a34 : PySem.W.nsIn K mainGlobals "_law_task" = some (some (.ref f34)))
    (l34 : K.lookup f34 = some ⟨oc34, od34, .func (PySem.W.fnOf "_law_task" "_law_task" (defArgs (topS 58)) (defBody (topS 58)) (defScope (topS 58)) .none kV34 dc34 pm34 an34 cd34 ct34), sl34⟩)
    (q34 : PySem.W.codeIn K cd34 "_law_task" = true)
    (k34 : PySem.W.keepIn K (.ref f34) = true)
    (a35 : PySem.W.nsIn K mainGlobals "extend_path" = some (some (.ref f35)))
    (l35 : K.lookup f35 = some ⟨oc35, od35, .func (PySem.W.fnOf "extend_path" "extend_path" (defArgs (topS 12)) (defBody (topS 12)) (defScope (topS 12)) .none kV35 dc35 pm35 an35 cd35 ct35), sl35⟩)
    (q35 : PySem.W.codeIn K cd35 "extend_path" = true)
    (k35 : PySem.W.keepIn K (.ref f35) = true)
    (a36 : PySem.W.nsIn K mainGlobals "first_excess" = some (some (.ref f36)))
    (l36 : K.lookup f36 = some ⟨oc36, od36, .func (PySem.W.fnOf "first_excess" "first_excess" (defArgs (topS 38)) (defBody (topS 38)) (defScope (topS 38)) .none kV36 dc36 pm36 an36 cd36 ct36), sl36⟩)
    (q36 : PySem.W.codeIn K cd36 "first_excess" = true)
    (k36 : PySem.W.keepIn K (.ref f36) = true)
    (a37 : PySem.W.nsIn K mainGlobals "splittings" = some (some (.ref f37)))
    (l37 : K.lookup f37 = some ⟨oc37, od37, .func (PySem.W.fnOf "splittings" "splittings" (defArgs (topS 45)) (defBody (topS 45)) (defScope (topS 45)) .none kV37 dc37 pm37 an37 cd37 ct37), sl37⟩)
    (q37 : PySem.W.codeIn K cd37 "splittings" = true)
    (k37 : PySem.W.keepIn K (.ref f37) = true)
    (a38 : PySem.W.nsIn K mainGlobals "circuits" = some (some (.ref f38)))
    (l38 : K.lookup f38 = some ⟨oc38, od38, .func (PySem.W.fnOf "circuits" "circuits" (defArgs (topS 11)) (defBody (topS 11)) (defScope (topS 11)) .none kV38 dc38 pm38 an38 cd38 ct38), sl38⟩)
    (q38 : PySem.W.codeIn K cd38 "circuits" = true)
    (k38 : PySem.W.keepIn K (.ref f38) = true)
    (a39 : PySem.W.nsIn K mainGlobals "part_at" = some (some (.ref f39)))
    (l39 : K.lookup f39 = some ⟨oc39, od39, .func (PySem.W.fnOf "part_at" "part_at" (defArgs (topS 46)) (defBody (topS 46)) (defScope (topS 46)) .none kV39 dc39 pm39 an39 cd39 ct39), sl39⟩)
    (q39 : PySem.W.codeIn K cd39 "part_at" = true)
    (k39 : PySem.W.keepIn K (.ref f39) = true)
    (a40 : PySem.W.nsIn K mainGlobals "best_circuit" = some (some (.ref f40)))
    (l40 : K.lookup f40 = some ⟨oc40, od40, .func (PySem.W.fnOf "best_circuit" "best_circuit" (defArgs (topS 14)) (defBody (topS 14)) (defScope (topS 14)) .none kV40 dc40 pm40 an40 cd40 ct40), sl40⟩)
    (q40 : PySem.W.codeIn K cd40 "best_circuit" = true)
    (k40 : PySem.W.keepIn K (.ref f40) = true)
    (a41 : PySem.W.nsIn K mainGlobals "share" = some (some (.ref f41)))
    (l41 : K.lookup f41 = some ⟨oc41, od41, .func (PySem.W.fnOf "share" "share" (defArgs (topS 15)) (defBody (topS 15)) (defScope (topS 15)) .none kV41 dc41 pm41 an41 cd41 ct41), sl41⟩)
    (q41 : PySem.W.codeIn K cd41 "share" = true)
    (k41 : PySem.W.keepIn K (.ref f41) = true)
    (a42 : PySem.W.nsIn K mainGlobals "lasting_kinds" = some (some (.ref f42)))
    (l42 : K.lookup f42 = some ⟨oc42, od42, .func (PySem.W.fnOf "lasting_kinds" "lasting_kinds" (defArgs (topS 39)) (defBody (topS 39)) (defScope (topS 39)) .none kV42 dc42 pm42 an42 cd42 ct42), sl42⟩)
    (q42 : PySem.W.codeIn K cd42 "lasting_kinds" = true)
    (k42 : PySem.W.keepIn K (.ref f42) = true)
    (a43 : PySem.W.nsIn K mainGlobals "stand_in_step" = some (some (.ref f43)))
    (l43 : K.lookup f43 = some ⟨oc43, od43, .func (PySem.W.fnOf "stand_in_step" "stand_in_step" (defArgs (topS 43)) (defBody (topS 43)) (defScope (topS 43)) .none kV43 dc43 pm43 an43 cd43 ct43), sl43⟩)
    (q43 : PySem.W.codeIn K cd43 "stand_in_step" = true)
    (k43 : PySem.W.keepIn K (.ref f43) = true)
    (a44 : PySem.W.nsIn K mainGlobals "may_stand" = some (some (.ref f44)))
    (l44 : K.lookup f44 = some ⟨oc44, od44, .func (PySem.W.fnOf "may_stand" "may_stand" (defArgs (topS 44)) (defBody (topS 44)) (defScope (topS 44)) .none kV44 dc44 pm44 an44 cd44 ct44), sl44⟩)
    (q44 : PySem.W.codeIn K cd44 "may_stand" = true)
    (k44 : PySem.W.keepIn K (.ref f44) = true)
    (a45 : PySem.W.nsIn K mainGlobals "law" = some (some (.ref f45)))
    (l45 : K.lookup f45 = some ⟨oc45, od45, .func (PySem.W.fnOf "law" "law" (defArgs (topS 60)) (defBody (topS 60)) (defScope (topS 60)) .none kV45 dc45 pm45 an45 cd45 ct45), sl45⟩)
    (q45 : PySem.W.codeIn K cd45 "law" = true)
    (k45 : PySem.W.keepIn K (.ref f45) = true)
    (mk_Task : PySem.W.makesIn K c_Task = true)
    (kc_Task : PySem.W.keepIn K (.ref c_Task) = true)
    (pg_Task : PySem.W.plainGet K c_Task Str.empty = true)
    (hd_Task : PySem.W.hasDictIn K c_Task = true)
    (po_Task : PySem.W.plainOver K c_Task = true)
    (sa_Task : PySem.W.findIn K (.ref c_Task) "__setattr__" = some (some (.builtin "object.__setattr__")))
    (mk_Part : PySem.W.makesIn K c_Part = true)
    (kc_Part : PySem.W.keepIn K (.ref c_Part) = true)
    (pg_Part : PySem.W.plainGet K c_Part Str.empty = true)
    (hd_Part : PySem.W.hasDictIn K c_Part = true)
    (po_Part : PySem.W.plainOver K c_Part = true)
    (sa_Part : PySem.W.findIn K (.ref c_Part) "__setattr__" = some (some (.builtin "object.__setattr__")))
    (n_Part_cost : PySem.W.findIn K (.ref c_Part) "cost" = some none)
    (n_Part_length : PySem.W.findIn K (.ref c_Part) "length" = some none)
    (n_Part_table : PySem.W.findIn K (.ref c_Part) "table" = some none)
    (n_Task_kinds : PySem.W.findIn K (.ref c_Task) "kinds" = some none)
    (n_Task_name : PySem.W.findIn K (.ref c_Task) "name" = some none)
    (n_Task_ways : PySem.W.findIn K (.ref c_Task) "ways" = some none)
    (b_abs : PySem.W.nsIn K mainGlobals "abs" = some none)
    (b_all : PySem.W.nsIn K mainGlobals "all" = some none)
    (b_any : PySem.W.nsIn K mainGlobals "any" = some none)
    (b_enumerate : PySem.W.nsIn K mainGlobals "enumerate" = some none)
    (b_int : PySem.W.nsIn K mainGlobals "int" = some none)
    (b_len : PySem.W.nsIn K mainGlobals "len" = some none)
    (b_list : PySem.W.nsIn K mainGlobals "list" = some none)
    (b_max : PySem.W.nsIn K mainGlobals "max" = some none)
    (b_min : PySem.W.nsIn K mainGlobals "min" = some none)
    (b_range : PySem.W.nsIn K mainGlobals "range" = some none)
    (b_sorted : PySem.W.nsIn K mainGlobals "sorted" = some none)
    (b_super : PySem.W.nsIn K mainGlobals "super" = some none)
    (b_tuple : PySem.W.nsIn K mainGlobals "tuple" = some none)
    (b_gcd : PySem.W.nsIn K mainGlobals "gcd" = some (some (.builtin "math.gcd")))
    (v_MOST_COST : PySem.W.nsIn K mainGlobals "MOST_COST" = some (some (.int 1000 t_MOST_COST)))
    (v_MOST_DEADLINE : PySem.W.nsIn K mainGlobals "MOST_DEADLINE" = some (some (.int 1000 t_MOST_DEADLINE)))
    (v_MOST_DISTANCE : PySem.W.nsIn K mainGlobals "MOST_DISTANCE" = some (some (.int 1000 t_MOST_DISTANCE)))
    (v_MOST_KINDS : PySem.W.nsIn K mainGlobals "MOST_KINDS" = some (some (.int 8 t_MOST_KINDS)))
    (v_MOST_NAME_CHARS : PySem.W.nsIn K mainGlobals "MOST_NAME_CHARS" = some (some (.int 12 t_MOST_NAME_CHARS)))
    (v_MOST_WAYS : PySem.W.nsIn K mainGlobals "MOST_WAYS" = some (some (.int 16 t_MOST_WAYS)))
    (v_NAME_CHARS : PySem.W.nsIn K mainGlobals "NAME_CHARS" = some (some (.str "abcdefghijklmnopqrstuvwxyz0123456789" t_NAME_CHARS)))
    (xc_Undecided : K.lookup c_Undecided = some (excClassObj nm_Undecided qn_Undecided c_Undecided N_Undecided bs_Undecided bm_Undecided true sn_Undecided sub_Undecided ab_Undecided col_Undecided dd_Undecided k0_Undecided k1_Undecided k2_Undecided k3_Undecided k5_Undecided "ValueError.__new__"))
    (xr_Undecided : PySem.HandSPX.refsVE bm_Undecided = true)
    (sa_Undecided : PySem.W.findIn K (.ref c_Undecided) "__setattr__" = some (some (.builtin "object.__setattr__")))
    (xb_Undecided : PySem.W.subIn K (.ref c_Undecided) (.type "BaseException") = some true)
    (xt_Undecided : PySem.W.typeIn K (.ref c_Undecided) = some (.type "type"))
    (kc_Undecided : PySem.W.keepIn K (.ref c_Undecided) = true)
    (ia_Undecided : PySem.W.findIn K (.ref c_Undecided) "__init__" = some (some (.ref f_Undecided)))
    (l_Undecided : K.lookup f_Undecided = some ⟨oc_Undecided, od_Undecided, .func (PySem.W.fnX "__init__" "Undecided.__init__" (defArgs (inClass (topS 6) 0)) (defBody (inClass (topS 6) 0)) (defScope (inClass (topS 6) 0)) [("__class__", cc_Undecided)] .none kV_Undecided dc_Undecided pm_Undecided an_Undecided (.ref cda_Undecided) ct_Undecided), sl_Undecided⟩)
    (q_Undecided : PySem.W.codeIn K (.ref cda_Undecided) "Undecided.__init__" = true)
    (cl_Undecided : K.lookup cda_Undecided = some ⟨ccl_Undecided, cdd_Undecided, .fields vs_Undecided, ccs_Undecided⟩)
    (cv_Undecided : vs_Undecided[2]? = some (.str file_Undecided tf_Undecided))
    (cf_Undecided : ((l.prog.main.file : Str) == file_Undecided) = true)
    (ce_Undecided : K.lookup cc_Undecided = some ⟨cel_Undecided, cld_Undecided, .cell (some (.ref c_Undecided)), csl_Undecided⟩)
    (hs_Undecided : PySem.W.mroIn K c_Undecided (.ref c_Undecided) = some true)
    (hB_Undecided : PySem.W.subIn K (.ref c_Undecided) (.type "ValueError") = some true)
    (hm_Undecided : PySem.W.ks_superIn K c_Undecided c_Undecided "__init__" = some (some (.builtin "ValueError.__init__")))
    (ho_Undecided : PySem.W.nsIn K PySem.cStatics "thirdparty.any" = some none)
    (ht_Undecided : (l.prog.main.scope.names.lookup ("super" : Str)).isSome = false)
    (ti_Undecided : PySem.W.typeIn K (.ref f_Undecided) = some (.type "function"))
    (nf_Undecided : PySem.W.findIn K (.ref c_Undecided) "horizon" = some none)
    (xd_Undecided : PySem.W.hasDictIn K c_Undecided = true)
    (ex_Undecided : PySem.W.subIn K (.ref c_Undecided) (.ref c_Undecided) = some true)
    : ∃ fd : FuncData, (∀ (s : Shared) (v : Value), BindsTo s fd ⟨[v], []⟩ [("_law_script", v)]) ∧ ∀ base : Heap, K.In base → base.Ns mainGlobals mg → FnOk l.prog w K mg base CX0 13 fa fd ["_law_script"] (spLaw K) := by
  have e := hfa.symm.trans (PySem.W.mg_of X G a45)
  cases e
  let A : Ad := { c_Task := c_Task, c_Part := c_Part, c_Undecided := c_Undecided, f_make_ratio := f0, fd_make_ratio := (PySem.W.fnOf "make_ratio" "make_ratio" (defArgs (topS 8)) (defBody (topS 8)) (defScope (topS 8)) .none kV0 dc0 pm0 an0 cd0 ct0), f_compare_ratios := f1, fd_compare_ratios := (PySem.W.fnOf "compare_ratios" "compare_ratios" (defArgs (topS 9)) (defBody (topS 9)) (defScope (topS 9)) .none kV1 dc1 pm1 an1 cd1 ct1), f_own_work := f2, fd_own_work := (PySem.W.fnOf "own_work" "own_work" (defArgs (topS 18)) (defBody (topS 18)) (defScope (topS 18)) .none kV2 dc2 pm2 an2 cd2 ct2), f_is_name := f3, fd_is_name := (PySem.W.fnOf "is_name" "is_name" (defArgs (topS 32)) (defBody (topS 32)) (defScope (topS 32)) .none kV3 dc3 pm3 an3 cd3 ct3), f_are_ways := f4, fd_are_ways := (PySem.W.fnOf "are_ways" "are_ways" (defArgs (topS 34)) (defBody (topS 34)) (defScope (topS 34)) .none kV4 dc4 pm4 an4 cd4 ct4), f_Task_longest_distance := f5, fd_Task_longest_distance := (PySem.W.fnOf "longest_distance" "Task.longest_distance" (defArgs (inClass (topS 35) 1)) (defBody (inClass (topS 35) 1)) (defScope (inClass (topS 35) 1)) .none kV5 dc5 pm5 an5 cd5 ct5), p_Task_longest_distance := p5, f_Task_latest_deadline := f6, fd_Task_latest_deadline := (PySem.W.fnOf "latest_deadline" "Task.latest_deadline" (defArgs (inClass (topS 35) 2)) (defBody (inClass (topS 35) 2)) (defScope (inClass (topS 35) 2)) .none kV6 dc6 pm6 an6 cd6 ct6), p_Task_latest_deadline := p6, f_Task_kind_number := f7, fd_Task_kind_number := (PySem.W.fnOf "kind_number" "Task.kind_number" (defArgs (inClass (topS 35) 3)) (defBody (inClass (topS 35) 3)) (defScope (inClass (topS 35) 3)) .none kV7 dc7 pm7 an7 cd7 ct7), f_Part_init := f8, fd_Part_init := (PySem.W.fnOf "__init__" "Part.__init__" (defArgs (inClass (topS 37) 0)) (defBody (inClass (topS 37) 0)) (defScope (inClass (topS 37) 0)) .none kV8 dc8 pm8 an8 cd8 ct8), f_grows_alike := f9, fd_grows_alike := (PySem.W.fnOf "grows_alike" "grows_alike" (defArgs (topS 40)) (defBody (topS 40)) (defScope (topS 40)) .none kV9 dc9 pm9 an9 cd9 ct9), f_law_row := f10, fd_law_row := (PySem.W.fnOf "_law_row" "_law_row" (defArgs (topS 48)) (defBody (topS 48)) (defScope (topS 48)) .none kV10 dc10 pm10 an10 cd10 ct10), f_law_pick := f11, fd_law_pick := (PySem.W.fnOf "_law_pick" "_law_pick" (defArgs (topS 50)) (defBody (topS 50)) (defScope (topS 50)) .none kV11 dc11 pm11 an11 cd11 ct11), f_law_scale := f12, fd_law_scale := (PySem.W.fnOf "_law_scale" "_law_scale" (defArgs (topS 51)) (defBody (topS 51)) (defScope (topS 51)) .none kV12 dc12 pm12 an12 cd12 ct12), f_law_name := f13, fd_law_name := (PySem.W.fnOf "_law_name" "_law_name" (defArgs (topS 52)) (defBody (topS 52)) (defScope (topS 52)) .none kV13 dc13 pm13 an13 cd13 ct13), f_law_number := f14, fd_law_number := (PySem.W.fnOf "_law_number" "_law_number" (defArgs (topS 55)) (defBody (topS 55)) (defScope (topS 55)) .none kV14 dc14 pm14 an14 cd14 ct14), f_are_kinds := f15, fd_are_kinds := (PySem.W.fnOf "are_kinds" "are_kinds" (defArgs (topS 33)) (defBody (topS 33)) (defScope (topS 33)) .none kV15 dc15 pm15 an15 cd15 ct15), f_Task_cost := f16, fd_Task_cost := (PySem.W.fnOf "cost" "Task.cost" (defArgs (inClass (topS 35) 4)) (defBody (inClass (topS 35) 4)) (defScope (inClass (topS 35) 4)) .none kV16 dc16 pm16 an16 cd16 ct16), f_Task_ways_from := f17, fd_Task_ways_from := (PySem.W.fnOf "ways_from" "Task.ways_from" (defArgs (inClass (topS 35) 6)) (defBody (inClass (topS 35) 6)) (defScope (inClass (topS 35) 6)) .none kV17 dc17 pm17 an17 cd17 ct17), f_law_numbers := f18, fd_law_numbers := (PySem.W.fnOf "_law_numbers" "_law_numbers" (defArgs (topS 49)) (defBody (topS 49)) (defScope (topS 49)) .none kV18 dc18 pm18 an18 cd18 ct18), f_law_kinds := f19, fd_law_kinds := (PySem.W.fnOf "_law_kinds" "_law_kinds" (defArgs (topS 53)) (defBody (topS 53)) (defScope (topS 53)) .none kV19 dc19 pm19 an19 cd19 ct19), f_law_ways := f20, fd_law_ways := (PySem.W.fnOf "_law_ways" "_law_ways" (defArgs (topS 54)) (defBody (topS 54)) (defScope (topS 54)) .none kV20 dc20 pm20 an20 cd20 ct20), f_law_course := f21, fd_law_course := (PySem.W.fnOf "_law_course" "_law_course" (defArgs (topS 56)) (defBody (topS 56)) (defScope (topS 56)) .none kV21 dc21 pm21 an21 cd21 ct21), f_law_late := f22, fd_law_late := (PySem.W.fnOf "_law_late" "_law_late" (defArgs (topS 59)) (defBody (topS 59)) (defScope (topS 59)) .none kV22 dc22 pm22 an22 cd22 ct22), f_circuit_mean := f23, fd_circuit_mean := (PySem.W.fnOf "circuit_mean" "circuit_mean" (defArgs (topS 13)) (defBody (topS 13)) (defScope (topS 13)) .none kV23 dc23 pm23 an23 cd23 ct23), f_best_continuation := f24, fd_best_continuation := (PySem.W.fnOf "best_continuation" "best_continuation" (defArgs (topS 19)) (defBody (topS 19)) (defScope (topS 19)) .none kV24 dc24 pm24 an24 cd24 ct24), f_best_step := f25, fd_best_step := (PySem.W.fnOf "best_step" "best_step" (defArgs (topS 23)) (defBody (topS 23)) (defScope (topS 23)) .none kV25 dc25 pm25 an25 cd25 ct25), f_Task_init := f26, fd_Task_init := (PySem.W.fnOf "__init__" "Task.__init__" (defArgs (inClass (topS 35) 0)) (defBody (inClass (topS 35) 0)) (defScope (inClass (topS 35) 0)) .none kV26 dc26 pm26 an26 cd26 ct26), f_law_two_tasks := f27, fd_law_two_tasks := (PySem.W.fnOf "_law_two_tasks" "_law_two_tasks" (defArgs (topS 57)) (defBody (topS 57)) (defScope (topS 57)) .none kV27 dc27 pm27 an27 cd27 ct27), f_rows := f28, fd_rows := (PySem.W.fnOf "rows" "rows" (defArgs (topS 17)) (defBody (topS 17)) (defScope (topS 17)) .none kV28 dc28 pm28 an28 cd28 ct28), f_stays_within := f29, fd_stays_within := (PySem.W.fnOf "stays_within" "stays_within" (defArgs (topS 41)) (defBody (topS 41)) (defScope (topS 41)) .none kV29 dc29 pm29 an29 cd29 ct29), f_demand := f30, fd_demand := (PySem.W.fnOf "demand" "demand" (defArgs (topS 20)) (defBody (topS 20)) (defScope (topS 20)) .none kV30 dc30 pm30 an30 cd30 ct30), f_demands := f31, fd_demands := (PySem.W.fnOf "demands" "demands" (defArgs (topS 21)) (defBody (topS 21)) (defScope (topS 21)) .none kV31 dc31 pm31 an31 cd31 ct31), f_heaviest := f32, fd_heaviest := (PySem.W.fnOf "heaviest" "heaviest" (defArgs (topS 22)) (defBody (topS 22)) (defScope (topS 22)) .none kV32 dc32 pm32 an32 cd32 ct32), f_stands_by := f33, fd_stands_by := (PySem.W.fnOf "stands_by" "stands_by" (defArgs (topS 42)) (defBody (topS 42)) (defScope (topS 42)) .none kV33 dc33 pm33 an33 cd33 ct33), f_law_task := f34, fd_law_task := (PySem.W.fnOf "_law_task" "_law_task" (defArgs (topS 58)) (defBody (topS 58)) (defScope (topS 58)) .none kV34 dc34 pm34 an34 cd34 ct34), f_extend_path := f35, fd_extend_path := (PySem.W.fnOf "extend_path" "extend_path" (defArgs (topS 12)) (defBody (topS 12)) (defScope (topS 12)) .none kV35 dc35 pm35 an35 cd35 ct35), f_first_excess := f36, fd_first_excess := (PySem.W.fnOf "first_excess" "first_excess" (defArgs (topS 38)) (defBody (topS 38)) (defScope (topS 38)) .none kV36 dc36 pm36 an36 cd36 ct36), f_splittings := f37, fd_splittings := (PySem.W.fnOf "splittings" "splittings" (defArgs (topS 45)) (defBody (topS 45)) (defScope (topS 45)) .none kV37 dc37 pm37 an37 cd37 ct37), f_circuits := f38, fd_circuits := (PySem.W.fnOf "circuits" "circuits" (defArgs (topS 11)) (defBody (topS 11)) (defScope (topS 11)) .none kV38 dc38 pm38 an38 cd38 ct38), f_part_at := f39, fd_part_at := (PySem.W.fnOf "part_at" "part_at" (defArgs (topS 46)) (defBody (topS 46)) (defScope (topS 46)) .none kV39 dc39 pm39 an39 cd39 ct39), f_best_circuit := f40, fd_best_circuit := (PySem.W.fnOf "best_circuit" "best_circuit" (defArgs (topS 14)) (defBody (topS 14)) (defScope (topS 14)) .none kV40 dc40 pm40 an40 cd40 ct40), f_share := f41, fd_share := (PySem.W.fnOf "share" "share" (defArgs (topS 15)) (defBody (topS 15)) (defScope (topS 15)) .none kV41 dc41 pm41 an41 cd41 ct41), f_lasting_kinds := f42, fd_lasting_kinds := (PySem.W.fnOf "lasting_kinds" "lasting_kinds" (defArgs (topS 39)) (defBody (topS 39)) (defScope (topS 39)) .none kV42 dc42 pm42 an42 cd42 ct42), f_stand_in_step := f43, fd_stand_in_step := (PySem.W.fnOf "stand_in_step" "stand_in_step" (defArgs (topS 43)) (defBody (topS 43)) (defScope (topS 43)) .none kV43 dc43 pm43 an43 cd43 ct43), f_may_stand := f44, fd_may_stand := (PySem.W.fnOf "may_stand" "may_stand" (defArgs (topS 44)) (defBody (topS 44)) (defScope (topS 44)) .none kV44 dc44 pm44 an44 cd44 ct44), f_law := fa, fd_law := (PySem.W.fnOf "law" "law" (defArgs (topS 60)) (defBody (topS 60)) (defScope (topS 60)) .none kV45 dc45 pm45 an45 cd45 ct45), f_Undecided := f_Undecided, cc_Undecided := cc_Undecided, cda_Undecided := cda_Undecided, fd_Undecided := (PySem.W.fnX "__init__" "Undecided.__init__" (defArgs (inClass (topS 6) 0)) (defBody (inClass (topS 6) 0)) (defScope (inClass (topS 6) 0)) [("__class__", cc_Undecided)] .none kV_Undecided dc_Undecided pm_Undecided an_Undecided (.ref cda_Undecided) ct_Undecided) }
  have T : Fx l.prog K mg A := ⟨fun_mk l0 q0 k0,
    PySem.W.mg_of X G a0,
    fun_mk l1 q1 k1,
    PySem.W.mg_of X G a1,
    fun_mk l2 q2 k2,
    PySem.W.mg_of X G a2,
    fun_mk l3 q3 k3,
    PySem.W.mg_of X G a3,
    fun_mk l4 q4 k4,
    PySem.W.mg_of X G a4,
    fun_mk l5 q5 k5,
    ⟨a5, pg5, pt5, ⟨r5, pr5⟩⟩,
    fun_mk l6 q6 k6,
    ⟨a6, pg6, pt6, ⟨r6, pr6⟩⟩,
    fun_mk l7 q7 k7,
    ⟨a7, i7, k7⟩,
    fun_mk l8 q8 k8,
    ⟨mk_Part, a8, i8, kc_Part⟩,
    fun_mk l9 q9 k9,
    PySem.W.mg_of X G a9,
    fun_mk l10 q10 k10,
    PySem.W.mg_of X G a10,
    fun_mk l11 q11 k11,
    PySem.W.mg_of X G a11,
    fun_mk l12 q12 k12,
    PySem.W.mg_of X G a12,
    fun_mk l13 q13 k13,
    PySem.W.mg_of X G a13,
    fun_mk l14 q14 k14,
    PySem.W.mg_of X G a14,
    fun_mk l15 q15 k15,
    PySem.W.mg_of X G a15,
    fun_mk l16 q16 k16,
    ⟨a16, i16, k16⟩,
    fun_mk l17 q17 k17,
    ⟨a17, i17, k17⟩,
    fun_mk l18 q18 k18,
    PySem.W.mg_of X G a18,
    fun_mk l19 q19 k19,
    PySem.W.mg_of X G a19,
    fun_mk l20 q20 k20,
    PySem.W.mg_of X G a20,
    fun_mk l21 q21 k21,
    PySem.W.mg_of X G a21,
    fun_mk l22 q22 k22,
    PySem.W.mg_of X G a22,
    fun_mk l23 q23 k23,
    PySem.W.mg_of X G a23,
    fun_mk l24 q24 k24,
    PySem.W.mg_of X G a24,
    fun_mk l25 q25 k25,
    PySem.W.mg_of X G a25,
    fun_mk l26 q26 k26,
    ⟨mk_Task, a26, i26, kc_Task⟩,
    fun_mk l27 q27 k27,
    PySem.W.mg_of X G a27,
    fun_mk l28 q28 k28,
    PySem.W.mg_of X G a28,
    fun_mk l29 q29 k29,
    PySem.W.mg_of X G a29,
    fun_mk l30 q30 k30,
    PySem.W.mg_of X G a30,
    fun_mk l31 q31 k31,
    PySem.W.mg_of X G a31,
    fun_mk l32 q32 k32,
    PySem.W.mg_of X G a32,
    fun_mk l33 q33 k33,
    PySem.W.mg_of X G a33,
    fun_mk l34 q34 k34,
    PySem.W.mg_of X G a34,
    fun_mk l35 q35 k35,
    PySem.W.mg_of X G a35,
    fun_mk l36 q36 k36,
    PySem.W.mg_of X G a36,
    fun_mk l37 q37 k37,
    PySem.W.mg_of X G a37,
    fun_mk l38 q38 k38,
    PySem.W.mg_of X G a38,
    fun_mk l39 q39 k39,
    PySem.W.mg_of X G a39,
    fun_mk l40 q40 k40,
    PySem.W.mg_of X G a40,
    fun_mk l41 q41 k41,
    PySem.W.mg_of X G a41,
    fun_mk l42 q42 k42,
    PySem.W.mg_of X G a42,
    fun_mk l43 q43 k43,
    PySem.W.mg_of X G a43,
    fun_mk l44 q44 k44,
    PySem.W.mg_of X G a44,
    fun_mk l45 q45 k45,
    PySem.W.mg_of X G a45,
    ⟨pg_Task, hd_Task, po_Task, sa_Task⟩,
    PySem.W.mg_of X G g_Task,
    ⟨pg_Part, hd_Part, po_Part, sa_Part⟩,
    PySem.W.mg_of X G g_Part,
    n_Part_cost,
    n_Part_length,
    n_Part_table,
    n_Task_kinds,
    n_Task_name,
    n_Task_ways,
    PySem.W.mg_none_of X G b_abs,
    PySem.W.mg_none_of X G b_all,
    PySem.W.mg_none_of X G b_any,
    PySem.W.mg_none_of X G b_enumerate,
    PySem.W.mg_none_of X G b_int,
    PySem.W.mg_none_of X G b_len,
    PySem.W.mg_none_of X G b_list,
    PySem.W.mg_none_of X G b_max,
    PySem.W.mg_none_of X G b_min,
    PySem.W.mg_none_of X G b_range,
    PySem.W.mg_none_of X G b_sorted,
    PySem.W.mg_none_of X G b_super,
    PySem.W.mg_none_of X G b_tuple,
    PySem.W.mg_of X G b_gcd,
    ⟨_, PySem.W.mg_of X G v_MOST_COST⟩,
    ⟨_, PySem.W.mg_of X G v_MOST_DEADLINE⟩,
    ⟨_, PySem.W.mg_of X G v_MOST_DISTANCE⟩,
    ⟨_, PySem.W.mg_of X G v_MOST_KINDS⟩,
    ⟨_, PySem.W.mg_of X G v_MOST_NAME_CHARS⟩,
    ⟨_, PySem.W.mg_of X G v_MOST_WAYS⟩,
    ⟨_, PySem.W.mg_of X G v_NAME_CHARS⟩,
    ⟨⟨_, _, _, _, _, _, _, _, _, _, _, _, _, _, _, xc_Undecided, xr_Undecided⟩, sa_Undecided, xb_Undecided, xt_Undecided, kc_Undecided⟩,
    ⟨⟨_, _, _, _, _, _, _, _, rfl, l_Undecided, q_Undecided⟩, ⟨_, _, _, _, _, _, cl_Undecided, cv_Undecided, cf_Undecided⟩, ⟨_, _, _, ce_Undecided⟩, hs_Undecided, hB_Undecided, hm_Undecided, ho_Undecided, ht_Undecided⟩,
    ia_Undecided,
    ti_Undecided,
    PySem.W.mg_of X G g_Undecided,
    nf_Undecided,
    PySem.W.exm_ref xb_Undecided xd_Undecided xt_Undecided ex_Undecided⟩
  refine ⟨(PySem.W.fnOf "law" "law" (defArgs (topS 60)) (defBody (topS 60)) (defScope (topS 60)) .none kV45 dc45 pm45 an45 cd45 ct45), fun s v => .of_eq rfl, fun base _ _ => ?_⟩
  refine (ok_law (P := l.prog) (w := w) (base := base) A T).imp ?_
  rintro vs H Q E ⟨a, ns, rfl, hS, hl, q⟩
  refine ⟨H, [.scr ns], .bl true, Same.refl H, .cons (.scr hS) .nil, law_true ns hl, fun v H' F' _ r => ?_⟩
  cases r
  exact q H'
end G90

open PySem PySem.W PyProof.Rows L2
set_option maxRecDepth 100000 in
set_option maxHeartbeats 0 in
theorem PySem.Challenge.cw_neverlate_k90_whole_parts_tell_tasks_apa_holds : PySem.Challenge.rw_neverlate_k90_whole_parts_tell_tasks_apa.Holds := by
  w_on; o_law; k_head; (case hw => w_witness2)
  k_fill
  refine L2.walk_of (l := PySem.Challenge.rw_neverlate_k90_whole_parts_tell_tasks_apa) (n := 63) (k := 13) (x := "_law_script") (CX := fun _ => L2.CX0) (sp := fun w => G90.spLaw _) rfl (by decide) rfl ⟨rfl, by decide, by decide⟩ (fun w h Y => PySem.W.kIn_of Y) ?F (fun _ _ a ns hl _ hS => ⟨a, ns, rfl, hS, hl, fun _ => rfl⟩) (fun _ _ _ _ _ h => h)
  case F =>
    intro w mg fa h KX G hmg
    refine' G90.all_mk G90.law_true KX G hmg ?g_Task ?g_Part ?g_Undecided ?a0 ?l0 ?q0 ?k0 ?a1 ?l1 ?q1 ?k1 ?a2 ?l2 ?q2 ?k2 ?a3 ?l3 ?q3 ?k3 ?a4 ?l4 ?q4 ?k4 ?a5 ?pg5 ?pt5 ?pr5 ?l5 ?q5 ?k5 ?a6 ?pg6 ?pt6 ?pr6 ?l6 ?q6 ?k6 ?a7 ?i7 ?l7 ?q7 ?k7 ?a8 ?i8 ?l8 ?q8 ?k8 ?a9 ?l9 ?q9 ?k9 ?a10 ?l10 ?q10 ?k10 ?a11 ?l11 ?q11 ?k11 ?a12 ?l12 ?q12 ?k12 ?a13 ?l13 ?q13 ?k13 ?a14 ?l14 ?q14 ?k14 ?a15 ?l15 ?q15 ?k15 ?a16 ?i16 ?l16 ?q16 ?k16 ?a17 ?i17 ?l17 ?q17 ?k17 ?a18 ?l18 ?q18 ?k18 ?a19 ?l19 ?q19 ?k19 ?a20 ?l20 ?q20 ?k20 ?a21 ?l21 ?q21 ?k21 ?a22 ?l22 ?q22 ?k22 ?a23 ?l23 ?q23 ?k23 ?a24 ?l24 ?q24 ?k24 ?a25 ?l25 ?q25 ?k25 ?a26 ?i26 ?l26 ?q26 ?k26 ?a27 ?l27 ?q27 ?k27 ?a28 ?l28 ?q28 ?k28 ?a29 ?l29 ?q29 ?k29 ?a30 ?l30 ?q30 ?k30 ?a31 ?l31 ?q31 ?k31 ?a32 ?l32 ?q32 ?k32 ?a33 ?l33 ?q33 ?k33 ?a34 ?l34 ?q34 ?k34 ?a35 ?l35 ?q35 ?k35 ?a36 ?l36 ?q36 ?k36 ?a37 ?l37 ?q37 ?k37 ?a38 ?l38 ?q38 ?k38 ?a39 ?l39 ?q39 ?k39 ?a40 ?l40 ?q40 ?k40 ?a41 ?l41 ?q41 ?k41 ?a42 ?l42 ?q42 ?k42 ?a43 ?l43 ?q43 ?k43 ?a44 ?l44 ?q44 ?k44 ?a45 ?l45 ?q45 ?k45 ?mk_Task ?kc_Task ?pg_Task ?hd_Task ?po_Task ?sa_Task ?mk_Part ?kc_Part ?pg_Part ?hd_Part ?po_Part ?sa_Part ?n_Part_cost ?n_Part_length ?n_Part_table ?n_Task_kinds ?n_Task_name ?n_Task_ways ?b_abs ?b_all ?b_any ?b_enumerate ?b_int ?b_len ?b_list ?b_max ?b_min ?b_range ?b_sorted ?b_super ?b_tuple ?b_gcd ?v_MOST_COST ?v_MOST_DEADLINE ?v_MOST_DISTANCE ?v_MOST_KINDS ?v_MOST_NAME_CHARS ?v_MOST_WAYS ?v_NAME_CHARS ?xc_Undecided ?xr_Undecided ?sa_Undecided ?xb_Undecided ?xt_Undecided ?kc_Undecided ?ia_Undecided ?l_Undecided ?q_Undecided ?cl_Undecided ?cv_Undecided ?cf_Undecided ?ce_Undecided ?hs_Undecided ?hB_Undecided ?hm_Undecided ?ho_Undecided ?ht_Undecided ?ti_Undecided ?nf_Undecided ?xd_Undecided ?ex_Undecided
    (case g_Task => k_is)
    (case g_Part => k_is)
    (case g_Undecided => k_is)
    (case a0 => k_is)
    (case l0 => k_is)
    (case q0 => k_is)
    (case k0 => k_is)
    (case a1 => k_is)
    (case l1 => k_is)
    (case q1 => k_is)
    (case k1 => k_is)
    (case a2 => k_is)
    (case l2 => k_is)
    (case q2 => k_is)
    (case k2 => k_is)
    (case a3 => k_is)
    (case l3 => k_is)
    (case q3 => k_is)
    (case k3 => k_is)
    (case a4 => k_is)
    (case l4 => k_is)
    (case q4 => k_is)
    (case k4 => k_is)
    (case a5 => k_is)
    (case pg5 => k_is)
    (case pt5 => k_is)
    (case pr5 => k_is)
    (case l5 => k_is)
    (case q5 => k_is)
    (case k5 => k_is)
    (case a6 => k_is)
    (case pg6 => k_is)
    (case pt6 => k_is)
    (case pr6 => k_is)
    (case l6 => k_is)
    (case q6 => k_is)
    (case k6 => k_is)
    (case a7 => k_is)
    (case i7 => k_is)
    (case l7 => k_is)
    (case q7 => k_is)
    (case k7 => k_is)
    (case a8 => k_is)
    (case i8 => k_is)
    (case l8 => k_is)
    (case q8 => k_is)
    (case k8 => k_is)
    (case a9 => k_is)
    (case l9 => k_is)
    (case q9 => k_is)
    (case k9 => k_is)
    (case a10 => k_is)
    (case l10 => k_is)
    (case q10 => k_is)
    (case k10 => k_is)
    (case a11 => k_is)
    (case l11 => k_is)
    (case q11 => k_is)
    (case k11 => k_is)
    (case a12 => k_is)
    (case l12 => k_is)
    (case q12 => k_is)
    (case k12 => k_is)
    (case a13 => k_is)
    (case l13 => k_is)
    (case q13 => k_is)
    (case k13 => k_is)
    (case a14 => k_is)
    (case l14 => k_is)
    (case q14 => k_is)
    (case k14 => k_is)
    (case a15 => k_is)
    (case l15 => k_is)
    (case q15 => k_is)
    (case k15 => k_is)
    (case a16 => k_is)
    (case i16 => k_is)
    (case l16 => k_is)
    (case q16 => k_is)
    (case k16 => k_is)
    (case a17 => k_is)
    (case i17 => k_is)
    (case l17 => k_is)
    (case q17 => k_is)
    (case k17 => k_is)
    (case a18 => k_is)
    (case l18 => k_is)
    (case q18 => k_is)
    (case k18 => k_is)
    (case a19 => k_is)
    (case l19 => k_is)
    (case q19 => k_is)
    (case k19 => k_is)
    (case a20 => k_is)
    (case l20 => k_is)
    (case q20 => k_is)
    (case k20 => k_is)
    (case a21 => k_is)
    (case l21 => k_is)
    (case q21 => k_is)
    (case k21 => k_is)
    (case a22 => k_is)
    (case l22 => k_is)
    (case q22 => k_is)
    (case k22 => k_is)
    (case a23 => k_is)
    (case l23 => k_is)
    (case q23 => k_is)
    (case k23 => k_is)
    (case a24 => k_is)
    (case l24 => k_is)
    (case q24 => k_is)
    (case k24 => k_is)
    (case a25 => k_is)
    (case l25 => k_is)
    (case q25 => k_is)
    (case k25 => k_is)
    (case a26 => k_is)
    (case i26 => k_is)
    (case l26 => k_is)
    (case q26 => k_is)
    (case k26 => k_is)
    (case a27 => k_is)
    (case l27 => k_is)
    (case q27 => k_is)
    (case k27 => k_is)
    (case a28 => k_is)
    (case l28 => k_is)
    (case q28 => k_is)
    (case k28 => k_is)
    (case a29 => k_is)
    (case l29 => k_is)
    (case q29 => k_is)
    (case k29 => k_is)
    (case a30 => k_is)
    (case l30 => k_is)
    (case q30 => k_is)
    (case k30 => k_is)
    (case a31 => k_is)
    (case l31 => k_is)
    (case q31 => k_is)
    (case k31 => k_is)
    (case a32 => k_is)
    (case l32 => k_is)
    (case q32 => k_is)
    (case k32 => k_is)
    (case a33 => k_is)
    (case l33 => k_is)
    (case q33 => k_is)
    (case k33 => k_is)
    (case a34 => k_is)
    (case l34 => k_is)
    (case q34 => k_is)
    (case k34 => k_is)
    (case a35 => k_is)
    (case l35 => k_is)
    (case q35 => k_is)
    (case k35 => k_is)
    (case a36 => k_is)
    (case l36 => k_is)
    (case q36 => k_is)
    (case k36 => k_is)
    (case a37 => k_is)
    (case l37 => k_is)
    (case q37 => k_is)
    (case k37 => k_is)
    (case a38 => k_is)
    (case l38 => k_is)
    (case q38 => k_is)
    (case k38 => k_is)
    (case a39 => k_is)
    (case l39 => k_is)
    (case q39 => k_is)
    (case k39 => k_is)
    (case a40 => k_is)
    (case l40 => k_is)
    (case q40 => k_is)
    (case k40 => k_is)
    (case a41 => k_is)
    (case l41 => k_is)
    (case q41 => k_is)
    (case k41 => k_is)
    (case a42 => k_is)
    (case l42 => k_is)
    (case q42 => k_is)
    (case k42 => k_is)
    (case a43 => k_is)
    (case l43 => k_is)
    (case q43 => k_is)
    (case k43 => k_is)
    (case a44 => k_is)
    (case l44 => k_is)
    (case q44 => k_is)
    (case k44 => k_is)
    (case a45 => k_is)
    (case l45 => k_is)
    (case q45 => k_is)
    (case k45 => k_is)
    (case mk_Task => k_is)
    (case kc_Task => k_is)
    (case pg_Task => k_is)
    (case hd_Task => k_is)
    (case po_Task => k_is)
    (case sa_Task => k_is)
    (case mk_Part => k_is)
    (case kc_Part => k_is)
    (case pg_Part => k_is)
    (case hd_Part => k_is)
    (case po_Part => k_is)
    (case sa_Part => k_is)
    (case n_Part_cost => k_is)
    (case n_Part_length => k_is)
    (case n_Part_table => k_is)
    (case n_Task_kinds => k_is)
    (case n_Task_name => k_is)
    (case n_Task_ways => k_is)
    (case b_abs => k_is)
    (case b_all => k_is)
    (case b_any => k_is)
    (case b_enumerate => k_is)
    (case b_int => k_is)
    (case b_len => k_is)
    (case b_list => k_is)
    (case b_max => k_is)
    (case b_min => k_is)
    (case b_range => k_is)
    (case b_sorted => k_is)
    (case b_super => k_is)
    (case b_tuple => k_is)
    (case b_gcd => k_is)
    (case v_MOST_COST => k_is)
    (case v_MOST_DEADLINE => k_is)
    (case v_MOST_DISTANCE => k_is)
    (case v_MOST_KINDS => k_is)
    (case v_MOST_NAME_CHARS => k_is)
    (case v_MOST_WAYS => k_is)
    (case v_NAME_CHARS => k_is)
    (case xc_Undecided => k_is)
    (case xr_Undecided => first | k_is | rfl | kernel_rfl | decide +kernel)
    (case sa_Undecided => k_is)
    (case xb_Undecided => k_is)
    (case xt_Undecided => k_is)
    (case kc_Undecided => k_is)
    (case ia_Undecided => k_is)
    (case l_Undecided => k_is)
    (case q_Undecided => k_is)
    (case cl_Undecided => k_is)
    (case cv_Undecided => first | k_is | rfl | kernel_rfl | decide +kernel)
    (case cf_Undecided => first | k_is | rfl | kernel_rfl | decide +kernel)
    (case ce_Undecided => k_is)
    (case hs_Undecided => k_is)
    (case hB_Undecided => k_is)
    (case hm_Undecided => first | k_is | rfl | kernel_rfl | decide +kernel)
    (case ho_Undecided => k_is)
    (case ht_Undecided => first | k_is | rfl | kernel_rfl | decide +kernel)
    (case ti_Undecided => k_is)
    (case nf_Undecided => k_is)
    (case xd_Undecided => k_is)
    (case ex_Undecided => k_is)
