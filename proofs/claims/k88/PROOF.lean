import PyProof.Rows.All
import Wide.All
import OpenK.AllK
import Wide.FinOn
import HandS.ForMost
import HandS.ForExc
import HandS.Gcd
import HandS.Property
import HandS.MakeKwOnly
import HandS.MakeKw
import HandS.SortKw
import HandS.Walk
import KE.DataMinMax
import KE.GoesEnum
import HandS.Conv
import HandS.WordsExc
import HandS.ExcInit
import HandS.Nested
import HandS.TryOnly
import KE.KExcSuper
import HandS.ExcIs
import KE.SortData
import HandS.SortInts
import HandS.IsInst
import HandS.Codes
import PyProof.P3Eq
import PySem.Challenge.RW_neverlate_k88_whole_no_policy_keeps_more
set_option Elab.async false
set_option linter.all false
set_option maxRecDepth 100000
set_option maxHeartbeats 4000000
namespace Pu
open PySem PySem.Spec PyProof.Rows L2

/-! ### data -/
/-- a value as data: a tree -/
inductive D where
  | non | bl (b : Bool) | int (i : Int) | str (s : Str) | lst (xs : List D) | tup (xs : List D) | obj (C : Nat) (fs : List (Str × D)) | scr (ns : List Int)
/-- the written part, and where the program's own classes stand, by number -/
structure Kc where
  K : PySem.W.Frag
  cm : Nat → Addr

mutual
/-- v stands for d, by the part F of the heap that never changes -/
inductive Rep (K : Kc) (F : Hp) : V → D → Prop
  | non : Rep K F .non .non
  | bl (b : Bool) : Rep K F (.bl b) (.bl b)
  | int (i : Int) : Rep K F (.int i) (.int i)
  | str (x : Str) : Rep K F (.str x) (.str x)
  | lst {a : Addr} {vs : List V} {ds : List D} : F a = some (.lst vs) → Reps K F vs ds → Rep K F (.ref a) (.lst ds)
  | tup {a : Addr} {vs : List V} {ds : List D} : SqT K.K F a vs → Reps K F vs ds → Rep K F (.ref a) (.tup ds)
  | obj {a dx : Addr} {C : Nat} {fv : List (Str × V)} {fs : List (Str × D)} : F a = some (.ins (K.cm C) dx fv) → RepF K F fv fs → Rep K F (.ref a) (.obj C fs)
  | scr {a : Addr} {ns : List Int} : SqL K.K F a (ns.map V.int) → Rep K F (.ref a) (.scr ns)
inductive Reps (K : Kc) (F : Hp) : List V → List D → Prop
  | nil : Reps K F [] []
  | cons {v : V} {vs : List V} {d : D} {ds : List D} : Rep K F v d → Reps K F vs ds → Reps K F (v :: vs) (d :: ds)
inductive RepF (K : Kc) (F : Hp) : List (Str × V) → List (Str × D) → Prop
  | nil : RepF K F [] []
  | cons {n : Str} {v : V} {vs : List (Str × V)} {d : D} {ds : List (Str × D)} : Rep K F v d → RepF K F vs ds → RepF K F ((n, v) :: vs) ((n, d) :: ds)
end

theorem same_seqT {K : PySem.W.Frag} {H H' : Hp} {a : Addr} {xs : List V} (e : Same H H') (h : SqT K H a xs) : SqT K H' a xs := by
  rcases h with (h | ⟨o, h⟩) | h
  · exact .inl (.inl (e _ _ h))
  · exact .inl (.inr ⟨o, e _ _ h⟩)
  · exact .inr h

section
variable {K : Kc} {F F' : Hp}
mutual
theorem Rep.mono (m : Same F F') : ∀ {v : V} {d : D}, Rep K F v d → Rep K F' v d
  | _, _, .non => .non
  | _, _, .bl b => .bl b
  | _, _, .int i => .int i
  | _, _, .str x => .str x
  | _, _, .lst h r => .lst (m _ _ h) (Reps.mono m r)
  | _, _, .tup h r => .tup (same_seqT m h) (Reps.mono m r)
  | _, _, .obj h r => .obj (m _ _ h) (RepF.mono m r)
  | _, _, .scr h => .scr (m.seq h)
theorem Reps.mono (m : Same F F') : ∀ {vs : List V} {ds : List D}, Reps K F vs ds → Reps K F' vs ds
  | _, _, .nil => .nil
  | _, _, .cons h r => .cons (Rep.mono m h) (Reps.mono m r)
theorem RepF.mono (m : Same F F') : ∀ {vs : List (Str × V)} {ds : List (Str × D)}, RepF K F vs ds → RepF K F' vs ds
  | _, _, .nil => .nil
  | _, _, .cons h r => .cons (Rep.mono m h) (RepF.mono m r)
end
theorem Reps.length : ∀ {vs : List V} {ds : List D}, Reps K F vs ds → vs.length = ds.length
  | _, _, .nil => rfl
  | _, _, .cons _ r => congrArg Nat.succ (Reps.length r)
theorem Reps.get : ∀ {vs : List V} {ds : List D} {i : Nat} {d : D}, Reps K F vs ds → ds[i]? = some d → ∃ v, vs[i]? = some v ∧ Rep K F v d
  | _, _, _, _, .nil, h => by simp at h
  | _, _, 0, _, .cons h _, e => by simp at e; subst e; exact ⟨_, rfl, h⟩
  | _, _, i + 1, _, .cons _ r, e => by
    obtain ⟨v, h1, h2⟩ := Reps.get (i := i) r (by simpa using e)
    exact ⟨v, by simpa using h1, h2⟩
theorem Reps.getV : ∀ {vs : List V} {ds : List D} {i : Nat} {v : V}, Reps K F vs ds → vs[i]? = some v → ∃ d, ds[i]? = some d ∧ Rep K F v d
  | _, _, _, _, .nil, h => by simp at h
  | _, _, 0, _, .cons h _, e => by simp at e; subst e; exact ⟨_, rfl, h⟩
  | _, _, i + 1, _, .cons _ r, e => by
    obtain ⟨v, h1, h2⟩ := Reps.getV (i := i) r (by simpa using e)
    exact ⟨v, by simpa using h1, h2⟩
theorem Reps.append : ∀ {vs ws : List V} {ds es : List D}, Reps K F vs ds → Reps K F ws es → Reps K F (vs ++ ws) (ds ++ es)
  | _, _, _, _, .nil, s => s
  | _, _, _, _, .cons h r, s => .cons h (Reps.append r s)
theorem Reps.set {v : V} {d : D} (h : Rep K F v d) : ∀ {vs : List V} {ds : List D} (i : Nat), Reps K F vs ds → Reps K F (vs.set i v) (ds.set i d)
  | _, _, _, .nil => .nil
  | _, _, 0, .cons _ r => .cons h r
  | _, _, i + 1, .cons q r => .cons q (Reps.set h i r)
theorem Reps.take : ∀ {vs : List V} {ds : List D} (n : Nat), Reps K F vs ds → Reps K F (vs.take n) (ds.take n)
  | _, _, 0, _ => .nil
  | _, _, _ + 1, .nil => .nil
  | _, _, n + 1, .cons h r => .cons h (Reps.take n r)
theorem Reps.drop : ∀ {vs : List V} {ds : List D} (n : Nat), Reps K F vs ds → Reps K F (vs.drop n) (ds.drop n)
  | _, _, 0, r => r
  | _, _, _ + 1, .nil => .nil
  | _, _, n + 1, .cons _ r => Reps.drop n r
theorem Reps.ints : ∀ {vs : List V} {ns : List Int}, Reps K F vs (ns.map D.int) → vs = ns.map V.int
  | _, [], h => by cases h; rfl
  | _, n :: ns, h => by
    cases h with
    | cons a b => cases a; exact congrArg (V.int n :: ·) (Reps.ints b)
theorem Reps.of_ints : ∀ (ns : List Int), Reps K F (ns.map V.int) (ns.map D.int)
  | [] => .nil
  | n :: ns => .cons (.int n) (Reps.of_ints ns)
theorem Reps.bls : ∀ {vs : List V} {ns : List Bool}, Reps K F vs (ns.map D.bl) → vs = ns.map V.bl
  | _, [], h => by cases h; rfl
  | _, n :: ns, h => by
    cases h with
    | cons a b => cases a; exact congrArg (V.bl n :: ·) (Reps.bls b)
theorem Reps.strs : ∀ {vs : List V} {ns : List Str}, Reps K F vs (ns.map D.str) → vs = ns.map V.str
  | _, [], h => by cases h; rfl
  | _, n :: ns, h => by
    cases h with
    | cons a b => cases a; exact congrArg (V.str n :: ·) (Reps.strs b)
theorem RepF.keys : ∀ {vs : List (Str × V)} {ds : List (Str × D)}, RepF K F vs ds → vs.map (·.1) = ds.map (·.1)
  | _, _, .nil => rfl
  | _, _, .cons _ r => congrArg (_ :: ·) (RepF.keys r)
theorem RepF.look {f : Str} : ∀ {vs : List (Str × V)} {ds : List (Str × D)} {d : D}, RepF K F vs ds → ds.lookup f = some d → ∃ v, vs.lookup f = some v ∧ Rep K F v d
  | _, _, _, .nil, h => by cases h
  | _, _, _, .cons (n := n) h r, e => by
    rw [List.lookup_cons] at e ⊢
    cases q : f == n with
    | true => rw [q] at e; cases e; exact ⟨_, rfl, h⟩
    | false => rw [q] at e; exact RepF.look r e
theorem RepF.lookN {f : Str} : ∀ {vs : List (Str × V)} {ds : List (Str × D)}, RepF K F vs ds → ds.lookup f = none → vs.lookup f = none
  | _, _, .nil, _ => rfl
  | _, _, .cons (n := n) h r, e => by
    rw [List.lookup_cons] at e ⊢
    cases q : f == n with
    | true => rw [q] at e; cases e
    | false => rw [q] at e; exact RepF.lookN r e
end

/-! ### growth -/
/-- new things that never change are laid -/
structure Grow (F H F' H' : Hp) : Prop where
  f : Same F F'
  h : Same H H'
  le : Same F' H'
  nw : ∀ a o, F' a = some o → F a = some o ∨ H a = none
theorem Grow.refl {F H : Hp} (le : Same F H) : Grow F H F H := ⟨Same.refl F, Same.refl H, le, fun _ _ e => .inl e⟩
theorem Grow.trans {F H F1 H1 F2 H2 : Hp} (a : Grow F H F1 H1) (b : Grow F1 H1 F2 H2) : Grow F H F2 H2 :=
  ⟨a.f.trans b.f, a.h.trans b.h, b.le, fun x o e => (b.nw x o e).elim (fun e => a.nw x o e) fun n => .inr (a.h.free n)⟩
theorem same_upd {H : Hp} {p : Addr} {o : HO} (h : H p = none) : Same H (upd H p o) := fun b x e => by
  rw [upd_ne (ne_of_none e h)]
  exact e
theorem Grow.laid {F H : Hp} {p : Addr} {o : HO} (le : Same F H) (n : H p = none) : Grow F H (upd F p o) (upd H p o) := by
  have nF : F p = none := le.free n
  refine ⟨same_upd nF, same_upd n, fun b x e => ?_, fun b x e => ?_⟩
  · by_cases q : b = p
    · subst q; rw [upd_same] at e ⊢; exact e
    · rw [upd_ne q] at e ⊢; exact le _ _ e
  · by_cases q : b = p
    · subst q; exact .inr n
    · rw [upd_ne q] at e; exact .inl e

/-! ### the state -/
/-- a value that never changes, or one of our cells -/
inductive Rv where
  | v (d : D) | c (k : Nat)
inductive Slot where
  | un | val (d : D) | own (ds : List D) | ob (C : Nat) (fs : List (Str × D))
  /-- a list of the cells ks (cells stand behind the names) -/
  | own2 (ks : List Nat)
  /-- a name of the cell k -/
  | al (k : Nat)
  /-- an instance that changes: its fields are values or cells -/
  | ins (C : Nat) (fs : List (Str × Rv))
abbrev PEnv := List Slot
abbrev Sg := L2.St

/-- what is fixed through a def's body: the heap at the entry, what never changes of it, the wish about exceptions, a slot whose object is the caller's -/
structure Cc where
  cm : Nat → Addr
  B : Hp
  F0 : Hp
  E : XK
  io : Option (Nat × Addr)
  /-- how many names -/
  n : Nat
  /-- cells that are the caller's -/
  pins : Nat → Option Addr
/-- where slot i stands all the time -/
def Cc.Pin (c : Cc) (i : Nat) (a : Addr) : Prop := c.io = some (i, a) ∨ ∃ k, i = k + c.n ∧ c.pins k = some a
theorem Cc.pin_ne {c : Cc} {i : Nat} {a : Addr} (h : ∀ a, c.io ≠ some (i, a)) (hl : i < c.n) : ¬ c.Pin i a := fun p => by
  rcases p with p | ⟨k, rfl, _⟩
  · exact h a p
  · omega
/-- the fields of an instance that changes -/
inductive RepFR (K : Kc) (F : Hp) (oc : Nat → Option Addr) : List (Str × V) → List (Str × Rv) → Prop
  | nil : RepFR K F oc [] []
  | val {n : Str} {v : V} {vs : List (Str × V)} {d : D} {fs : List (Str × Rv)} : Rep K F v d → RepFR K F oc vs fs → RepFR K F oc ((n, v) :: vs) ((n, .v d) :: fs)
  | cel {n : Str} {p : Addr} {vs : List (Str × V)} {k : Nat} {fs : List (Str × Rv)} : oc k = some p → RepFR K F oc vs fs → RepFR K F oc ((n, .ref p) :: vs) ((n, .c k) :: fs)
theorem RepFR.mono {K : Kc} {F F' : Hp} {oc oc' : Nat → Option Addr} (m : Same F F') (g : ∀ k p, oc k = some p → oc' k = some p) : ∀ {vs : List (Str × V)} {fs : List (Str × Rv)}, RepFR K F oc vs fs → RepFR K F' oc' vs fs
  | _, _, .nil => .nil
  | _, _, .val h r => .val (h.mono m) (RepFR.mono m g r)
  | _, _, .cel h r => .cel (g _ _ h) (RepFR.mono m g r)

def SlotOk (K : Kc) (n : Nat) (F H : Hp) (oa : Nat → Option Addr) (x : Option (Option V)) (o : Option Addr) : Slot → Prop
  | .un => o = none
  | .val d => o = none ∧ ∃ v, x = some (some v) ∧ Rep K F v d
  | .own ds => ∃ a vs, o = some a ∧ (x = none ∨ x = some (some (.ref a))) ∧ H a = some (.lst vs) ∧ Reps K F vs ds
  | .ob C fs => ∃ a dx fv, o = some a ∧ x = some (some (.ref a)) ∧ H a = some (.ins (K.cm C) dx fv) ∧ RepF K F fv fs
  | .own2 ks => ∃ (a : Addr) (ps : List Addr), o = some a ∧ (x = none ∨ x = some (some (.ref a))) ∧ H a = some (.lst (ps.map V.ref)) ∧ ps.map some = ks.map fun k => oa (k + n)
  | .al k => o = none ∧ ∃ p, oa (k + n) = some p ∧ x = some (some (.ref p))
  | .ins C fs => ∃ a dx fv, o = some a ∧ x = none ∧ H a = some (.ins (K.cm C) dx fv) ∧ RepFR K F (fun k => oa (k + n)) fv fs

structure Rel (K : Kc) (c : Cc) (F : Hp) (ρ : PEnv) (σ : Sg) (H : Hp) : Prop where
  b : Same c.B H
  f0 : Same c.F0 F
  le : Same F H
  nw : ∀ a o, F a = some o → c.F0 a = some o ∨ c.B a = none
  len : σ.length = c.n
  len2 : c.n ≤ ρ.length
  sl : ∃ oa : Nat → Option Addr, (∀ i s, ρ[i]? = some s → SlotOk K c.n F H oa σ[i]? (oa i) s) ∧ (∀ i j a, oa i = some a → oa j = some a → i = j) ∧
    (∀ i a, oa i = some a → F a = none ∧ c.B a = none ∧ i < ρ.length) ∧ ∀ i a, c.Pin i a → oa i = some a

/-- the same, with the places -/
structure RelO (K : Kc) (c : Cc) (F : Hp) (ρ : PEnv) (σ : Sg) (H : Hp) (oa : Nat → Option Addr) : Prop where
  b : Same c.B H
  f0 : Same c.F0 F
  le : Same F H
  nw : ∀ a o, F a = some o → c.F0 a = some o ∨ c.B a = none
  len : σ.length = c.n
  len2 : c.n ≤ ρ.length
  s1 : ∀ i s, ρ[i]? = some s → SlotOk K c.n F H oa σ[i]? (oa i) s
  s2 : ∀ i j a, oa i = some a → oa j = some a → i = j
  s3 : ∀ i a, oa i = some a → F a = none ∧ c.B a = none ∧ i < ρ.length
  s4 : ∀ i a, c.Pin i a → oa i = some a
theorem Rel.o {K : Kc} {c : Cc} {F : Hp} {ρ : PEnv} {σ : Sg} {H : Hp} (r : Rel K c F ρ σ H) : ∃ oa, RelO K c F ρ σ H oa := by
  obtain ⟨oa, h1, h2, h3, h4⟩ := r.sl
  exact ⟨oa, r.b, r.f0, r.le, r.nw, r.len, r.len2, h1, h2, h3, h4⟩
theorem RelO.r {K : Kc} {c : Cc} {F : Hp} {ρ : PEnv} {σ : Sg} {H : Hp} {oa : Nat → Option Addr} (r : RelO K c F ρ σ H oa) : Rel K c F ρ σ H :=
  ⟨r.b, r.f0, r.le, r.nw, r.len, r.len2, oa, r.s1, r.s2, r.s3, r.s4⟩
/-- .. and a value v that s tells -/
def RelR (K : Kc) (c : Cc) (F : Hp) (ρ : PEnv) (σ : Sg) (H : Hp) (v : V) (s : Slot) : Prop := ∃ oa, RelO K c F ρ σ H oa ∧ SlotOk K c.n F H oa (some (some v)) none s

section
variable {K : Kc} {c : Cc} {F F' H H' : Hp} {ρ : PEnv} {σ : Sg}
theorem SlotOk.grow {n : Nat} {oa : Nat → Option Addr} {x : Option (Option V)} {o : Option Addr} (g : Grow F H F' H') : ∀ {s : Slot}, SlotOk K n F H oa x o s → SlotOk K n F' H' oa x o s
  | .un, h => h
  | .val d, ⟨h, v, e, r⟩ => ⟨h, v, e, r.mono g.f⟩
  | .own ds, ⟨a, vs, h1, h2, h3, h4⟩ => ⟨a, vs, h1, h2, g.h _ _ h3, h4.mono g.f⟩
  | .ob C fs, ⟨a, dx, fv, h1, h2, h3, h4⟩ => ⟨a, dx, fv, h1, h2, g.h _ _ h3, h4.mono g.f⟩
  | .own2 js, ⟨a, ps, h1, h2, h3, h4⟩ => ⟨a, ps, h1, h2, g.h _ _ h3, h4⟩
  | .al j, h => h
  | .ins C fs, ⟨a, dx, fv, h1, h2, h3, h4⟩ => ⟨a, dx, fv, h1, h2, g.h _ _ h3, h4.mono g.f fun _ _ e => e⟩
theorem SlotOk.there {n : Nat} {oa : Nat → Option Addr} {x : Option (Option V)} {o : Option Addr} {a : Addr} (e : o = some a) : ∀ {s : Slot}, SlotOk K n F H oa x o s → ∃ u, H a = some u
  | .un, h => by rw [show o = none from h] at e; cases e
  | .val d, ⟨h, _⟩ => by rw [h] at e; cases e
  | .own ds, ⟨b, vs, h1, h2, h3, h4⟩ => by rw [h1] at e; cases e; exact ⟨_, h3⟩
  | .ob C fs, ⟨b, dx, fv, h1, h2, h3, h4⟩ => by rw [h1] at e; cases e; exact ⟨_, h3⟩
  | .own2 js, ⟨b, ps, h1, h2, h3, h4⟩ => by rw [h1] at e; cases e; exact ⟨_, h3⟩
  | .al j, ⟨h, _⟩ => by rw [h] at e; cases e
  | .ins C fs, ⟨b, dx, fv, h1, h2, h3, h4⟩ => by rw [h1] at e; cases e; exact ⟨_, h3⟩
/-- another name's list has changed its place -/
theorem SlotOk.oaNe {n : Nat} {oa oa' : Nat → Option Addr} {x : Option (Option V)} {o : Option Addr} (g : ∀ j, n ≤ j → (oa j).isSome = true → oa' j = oa j) : ∀ {s : Slot}, SlotOk K n F H oa x o s → SlotOk K n F H oa' x o s
  | .un, h => h
  | .val d, h => h
  | .own ds, h => h
  | .ob C fs, h => h
  | .own2 js, ⟨a, ps, h1, h2, h3, h4⟩ => by
    refine ⟨a, ps, h1, h2, h3, ?_⟩
    rw [h4]
    apply List.map_congr_left
    intro j hj
    have hm : oa (j + n) ∈ ps.map some := by rw [h4]; exact List.mem_map_of_mem (f := fun k => oa (k + n)) hj
    obtain ⟨p, _, e⟩ := List.mem_map.mp hm
    exact (g (j + n) (by omega) (by rw [← e]; rfl)).symm
  | .al j, ⟨h, p, h3, h4⟩ => ⟨h, p, by rw [g (j + n) (by omega) (by rw [h3]; rfl)]; exact h3, h4⟩
  | .ins C fs, ⟨a, dx, fv, h1, h2, h3, h4⟩ => ⟨a, dx, fv, h1, h2, h3, h4.mono (Same.refl F) fun k p e => by rw [g (k + n) (by omega) (by rw [e]; rfl)]; exact e⟩
theorem Rel.grow (r : Rel K c F ρ σ H) (g : Grow F H F' H') : Rel K c F' ρ σ H' := by
  obtain ⟨oa, h1, h2, h3, h4⟩ := r.sl
  refine ⟨r.b.trans g.h, r.f0.trans g.f, g.le, fun a o e => ?_, r.len, r.len2, oa, fun i s e => (h1 i s e).grow g, h2, fun i a e => ?_, h4⟩
  · rcases g.nw a o e with q | q
    · exact r.nw a o q
    · exact .inr (r.b.free q)
  · obtain ⟨f, b, l⟩ := h3 i a e
    refine ⟨?_, b, l⟩
    cases q : F' a with
    | none => rfl
    | some o =>
      rcases g.nw a o q with z | z
      · rw [f] at z; cases z
      · obtain ⟨u, hu⟩ := (h1 i _ (List.getElem?_eq_getElem l)).there e
        rw [z] at hu; cases hu
theorem Rel.refl (r : Rel K c F ρ σ H) : Grow F H F H := Grow.refl r.le
end

/-! ### what an expression answers -/
inductive Res (α : Type) where
  | ok (a : α) | exc (C : Nat) (fs : List (Str × D)) | stuck
def Res.bind {α β : Type} (r : Res α) (f : α → Res β) : Res β := match r with
  | .ok a => f a
  | .exc C fs => .exc C fs
  | .stuck => .stuck
def Res.of {α : Type} : Option α → Res α
  | some a => .ok a
  | none => .stuck
@[simp] theorem Res.bind_ok {α β : Type} (a : α) (f : α → Res β) : (Res.ok a).bind f = f a := rfl
@[simp] theorem Res.bind_exc {α β : Type} (C : Nat) (fs : List (Str × D)) (f : α → Res β) : (Res.exc C fs).bind f = .exc C fs := rfl
@[simp] theorem Res.bind_stuck {α β : Type} (f : α → Res β) : (Res.stuck : Res α).bind f = .stuck := rfl
@[simp] theorem Res.of_some {α : Type} (a : α) : Res.of (some a) = .ok a := rfl
@[simp] theorem Res.of_none {α : Type} : Res.of (none : Option α) = .stuck := rfl
theorem Res.bind_assoc {α β γ : Type} (r : Res α) (f : α → Res β) (g : β → Res γ) : (r.bind f).bind g = r.bind fun a => (f a).bind g := by cases r <;> rfl

abbrev Ev := PEnv → Res D
abbrev Tv := PEnv → Res Bool
abbrev Av := PEnv → Res (List D)

/-- an exception with these fields is wanted -/
def ExcW (K : Kc) (c : Cc) (C : Nat) (fs : List (Str × D)) : Prop :=
  ∀ H' d F' fv, Same c.B H' → H' d = some (.xd fv) → Same F' H' → RepF K F' fv fs → c.E (.ref (K.cm C)) (some d) H'
/-- the answer r, and what is wanted of it -/
def FinG {α β : Type} (K : Kc) (c : Cc) (R : Hp → Hp → α → β → Prop) (F H : Hp) (r : Res β) (Q : α → Hp → Prop) : Prop := match r with
  | .ok d => ∀ v H' F', Grow F H F' H' → R F' H' v d → Q v H'
  | .exc C fs => ExcW K c C fs
  | .stuck => False
def tG {α β : Type} (K : Kc) (c : Cc) (R : Hp → Hp → α → β → Prop) (ev : PEnv → Res β) : Sg → Hp → (α → Hp → Prop) → Prop :=
  fun σ H Q => ∃ F ρ, Rel K c F ρ σ H ∧ FinG K c R F H (ev ρ) Q
theorem FinG.grow {α β : Type} {K : Kc} {c : Cc} {R : Hp → Hp → α → β → Prop} {F H F' H' : Hp} {r : Res β} {Q : α → Hp → Prop} (g : Grow F H F' H') (h : FinG K c R F H r Q) : FinG K c R F' H' r Q := by
  cases r with
  | ok d => exact fun v H2 F2 g2 q => h v H2 F2 (g.trans g2) q
  | exc C fs => exact h
  | stuck => exact h
/-- first ev, then k: what is wanted of both is wanted of ev with what follows -/
theorem tG_bind {α β α' β' : Type} {K : Kc} {c : Cc} {R : Hp → Hp → α → β → Prop} {R' : Hp → Hp → α' → β' → Prop} {F H : Hp} {ρ : PEnv} {σ : Sg} {ev : PEnv → Res β} {k : β → Res β'} {Q : α' → Hp → Prop} {T : α → Hp → Prop}
    (r : Rel K c F ρ σ H) (h : FinG K c R' F H ((ev ρ).bind k) Q) (ht : ∀ v d H1 F1, Grow F H F1 H1 → Rel K c F1 ρ σ H1 → R F1 H1 v d → FinG K c R' F1 H1 (k d) Q → T v H1) : tG K c R ev σ H T := by
  refine ⟨F, ρ, r, ?_⟩
  cases q : ev ρ with
  | ok d =>
    rw [q] at h
    exact fun v H1 F1 g rp => ht v d H1 F1 g (r.grow g) rp (FinG.grow g h)
  | exc C fs => rw [q] at h; exact h
  | stuck => rw [q] at h; exact h
theorem tG_map {α β : Type} {K : Kc} {c : Cc} {R R' : Hp → Hp → α → β → Prop} {H : Hp} {σ : Sg} {ev : PEnv → Res β} {Q : α → Hp → Prop}
    (h : tG K c R ev σ H Q) (i : ∀ F H v d, R' F H v d → R F H v d) : tG K c R' ev σ H Q := by
  obtain ⟨F, ρ, r, h⟩ := h
  refine ⟨F, ρ, r, ?_⟩
  cases q : ev ρ with
  | ok d => rw [q] at h; exact fun v H1 F1 g rp => h v H1 F1 g (i _ _ _ _ rp)
  | exc C fs => rw [q] at h; exact h
  | stuck => rw [q] at h; exact h

/-- v stands for d; a list of one's own is read too -/
def RepB (K : Kc) (F H : Hp) (v : V) (d : D) : Prop := Rep K F v d ∨ ∃ a vs ds, v = .ref a ∧ d = .lst ds ∧ H a = some (.lst vs) ∧ Reps K F vs ds
inductive RepsB (K : Kc) (F H : Hp) : List V → List D → Prop
  | nil : RepsB K F H [] []
  | cons {v : V} {vs : List V} {d : D} {ds : List D} : RepB K F H v d → RepsB K F H vs ds → RepsB K F H (v :: vs) (d :: ds)
theorem RepB.grow {K : Kc} {F H F' H' : Hp} {v : V} {d : D} (g : Grow F H F' H') (h : RepB K F H v d) : RepB K F' H' v d := by
  rcases h with h | ⟨a, vs, ds, h1, h2, h3, h4⟩
  · exact .inl (h.mono g.f)
  · exact .inr ⟨a, vs, ds, h1, h2, g.h _ _ h3, h4.mono g.f⟩
theorem RepsB.grow {K : Kc} {F H F' H' : Hp} (g : Grow F H F' H') : ∀ {vs : List V} {ds : List D}, RepsB K F H vs ds → RepsB K F' H' vs ds
  | _, _, .nil => .nil
  | _, _, .cons h r => .cons (h.grow g) (RepsB.grow g r)
theorem Reps.toB {K : Kc} {F H : Hp} : ∀ {vs : List V} {ds : List D}, Reps K F vs ds → RepsB K F H vs ds
  | _, _, .nil => .nil
  | _, _, .cons h r => .cons (.inl h) (Reps.toB r)
/-- a list, read -/
theorem RepB.lst {K : Kc} {F H : Hp} {v : V} {ds : List D} (le : Same F H) (h : RepB K F H v (.lst ds)) : ∃ a vs, v = .ref a ∧ H a = some (.lst vs) ∧ Reps K F vs ds := by
  rcases h with h | ⟨a, vs, ds', h1, h2, h3, h4⟩
  · cases h with
    | lst h r => exact ⟨_, _, rfl, le _ _ h, r⟩
  · cases h2; exact ⟨a, vs, h1, h3, h4⟩
theorem RepB.tup {K : Kc} {F H : Hp} {v : V} {ds : List D} (le : Same F H) (h : RepB K F H v (.tup ds)) : ∃ a vs, v = .ref a ∧ SqT K.K H a vs ∧ Reps K F vs ds := by
  rcases h with h | ⟨a, vs, ds', h1, h2, h3, h4⟩
  · cases h with
    | tup h r => exact ⟨_, _, rfl, same_seqT le h, r⟩
  · cases h2
theorem RepB.int {K : Kc} {F H : Hp} {v : V} {i : Int} (h : RepB K F H v (.int i)) : v = .int i := by
  rcases h with h | ⟨a, vs, ds', h1, h2, h3, h4⟩
  · cases h; rfl
  · cases h2
theorem RepB.str {K : Kc} {F H : Hp} {v : V} {i : Str} (h : RepB K F H v (.str i)) : v = .str i := by
  rcases h with h | ⟨a, vs, ds', h1, h2, h3, h4⟩
  · cases h; rfl
  · cases h2
theorem RepB.bl {K : Kc} {F H : Hp} {v : V} {i : Bool} (h : RepB K F H v (.bl i)) : v = .bl i := by
  rcases h with h | ⟨a, vs, ds', h1, h2, h3, h4⟩
  · cases h; rfl
  · cases h2
theorem RepB.non {K : Kc} {F H : Hp} {v : V} (h : RepB K F H v .non) : v = .non := by
  rcases h with h | ⟨a, vs, ds', h1, h2, h3, h4⟩
  · cases h; rfl
  · cases h2

abbrev rE (K : Kc) : Hp → Hp → V → D → Prop := fun F _ v d => Rep K F v d
abbrev rB (K : Kc) : Hp → Hp → V → D → Prop := fun F H v d => RepB K F H v d
abbrev rT : Hp → Hp → Bool → Bool → Prop := fun _ _ v d => v = d
abbrev rA (K : Kc) : Hp → Hp → List V → List D → Prop := fun F _ v d => Reps K F v d
abbrev rAB (K : Kc) : Hp → Hp → List V → List D → Prop := fun F H v d => RepsB K F H v d
abbrev tE (K : Kc) (c : Cc) (ev : Ev) : TE := tG K c (rE K) ev
abbrev tBo (K : Kc) (c : Cc) (ev : Ev) : TE := tG K c (rB K) ev
abbrev tT (K : Kc) (c : Cc) (tv : Tv) : TT := tG K c rT tv
abbrev tA (K : Kc) (c : Cc) (av : Av) : TA := tG K c (rA K) av
abbrev tAB (K : Kc) (c : Cc) (av : Av) : TA := tG K c (rAB K) av
/-- a new list, nobody's yet -/
def FinN (K : Kc) (c : Cc) (F H : Hp) (r : Res (List D)) (Q : VK) : Prop := match r with
  | .ok ds => ∀ p vs H1 F1, Grow F H F1 H1 → H1 p = none → Reps K F1 vs ds → vs.length ≤ sizeLine → Q (.ref p) (upd H1 p (.lst vs))
  | .exc C fs => ExcW K c C fs
  | .stuck => False
def tNw (K : Kc) (c : Cc) (lv : Av) : TE := fun σ H Q => ∃ F ρ, Rel K c F ρ σ H ∧ FinN K c F H (lv ρ) Q

abbrev _root_.L2.Cx.kc (X : Cx) (c : Cc) : Kc := ⟨X.K, c.cm⟩
structure SE (c : Cc) (X : Cx) (e : Expr) (ev : Ev) : Prop where
  pe : PE X e (tE (X.kc c) c ev)
structure SB (c : Cc) (X : Cx) (e : Expr) (ev : Ev) : Prop where
  pe : PE X e (tBo (X.kc c) c ev)
structure SN (c : Cc) (X : Cx) (e : Expr) (lv : Av) : Prop where
  pe : PE X e (tNw (X.kc c) c lv)
structure ST (c : Cc) (X : Cx) (e : Expr) (tv : Tv) : Prop where
  pt : PT X e (tT (X.kc c) c tv)
structure SW (c : Cc) (X : Cx) (e : Expr) (tv : Tv) : Prop where
  pw : PW X e (tT (X.kc c) c tv)
structure SA (c : Cc) (X : Cx) (es : List Expr) (av : Av) : Prop where
  pa : PA X es (tA (X.kc c) c av)
structure SAB (c : Cc) (X : Cx) (es : List Expr) (av : Av) : Prop where
  pa : PA X es (tAB (X.kc c) c av)

theorem pe_imp {X : Cx} {e : Expr} {t t' : TE} (h : PE X e t) (i : ∀ σ H Q, t' σ H Q → t σ H Q) : PE X e t' := ⟨fun pins s σ H Q I q => h.run pins s σ H Q I (i σ H Q q)⟩
theorem pt_imp {X : Cx} {e : Expr} {t t' : TT} (h : PT X e t) (i : ∀ σ H Q, t' σ H Q → t σ H Q) : PT X e t' := ⟨fun pins s σ H Q I q => h.run pins s σ H Q I (i σ H Q q)⟩
theorem pw_imp {X : Cx} {e : Expr} {t t' : TT} (h : PW X e t) (i : ∀ σ H Q, t' σ H Q → t σ H Q) : PW X e t' := ⟨fun wh pins s σ H Q I q => h.run wh pins s σ H Q I (i σ H Q q)⟩
theorem pa_imp {X : Cx} {e : List Expr} {t t' : TA} (h : PA X e t) (i : ∀ σ H Q, t' σ H Q → t σ H Q) : PA X e t' := ⟨fun pos pins s σ H Q I q => h.run pos pins s σ H Q I (i σ H Q q)⟩
theorem pk_imp {X : Cx} {e : List Keyword} {t t' : TA} (h : PK X e t) (i : ∀ σ H Q, t' σ H Q → t σ H Q) : PK X e t' := ⟨fun pos pins s σ H Q I q => h.run pos pins s σ H Q I (i σ H Q q)⟩
theorem ps_imp {X : Cx} {e : Stmt} {t t' : TS} (h : PS X e t) (i : ∀ D σ H, t' D σ H → t D σ H) : PS X e t' := ⟨fun pins s σ H Q I q => h.run pins s σ H Q I (i Q σ H q)⟩
theorem pss_imp {X : Cx} {e : List Stmt} {t t' : TS} (h : PSs X e t) (i : ∀ D σ H, t' D σ H → t D σ H) : PSs X e t' := ⟨fun pins s σ H Q I q => h.run pins s σ H Q I (i Q σ H q)⟩

/-! ### combinators -/
def eC (d : D) : Ev := fun _ => .ok d
/-- a name that holds a value -/
def eN (i : Nat) : Ev := fun ρ => match ρ[i]? with
  | some (.val d) => .ok d
  | _ => .stuck
/-- a name that is read here alone: a list of one's own, too -/
def eB (i : Nat) : Ev := fun ρ => match ρ[i]? with
  | some (.val d) => .ok d
  | some (.own ds) => .ok (.lst ds)
  | _ => .stuck
def e1 (g : D → Option D) (a : Ev) : Ev := fun ρ => (a ρ).bind fun x => Res.of (g x)
def e2 (g : D → D → Option D) (a b : Ev) : Ev := fun ρ => (a ρ).bind fun x => (b ρ).bind fun y => Res.of (g x y)
def aN : Av := fun _ => .ok []
def aC (a : Ev) (as : Av) : Av := fun ρ => (a ρ).bind fun x => (as ρ).bind fun xs => .ok (x :: xs)
def eF (g : List D → Option D) (as : Av) : Ev := fun ρ => (as ρ).bind fun xs => Res.of (g xs)
/-- of a new list -/
def lF (g : List D → Option (List D)) (as : Av) : Av := fun ρ => (as ρ).bind fun xs => Res.of (g xs)
def eL (l : Av) : Ev := fun ρ => (l ρ).bind fun ds => .ok (.lst ds)
def asB : D → Res Bool
  | .bl b => .ok b
  | _ => .stuck
def tV (a : Ev) : Tv := fun ρ => (a ρ).bind asB
def tAnd' (a b : Tv) : Tv := fun ρ => (a ρ).bind fun x => if x = true then b ρ else .ok false
def tOr' (a b : Tv) : Tv := fun ρ => (a ρ).bind fun x => if x = true then .ok true else b ρ
def tNot' (a : Tv) : Tv := fun ρ => (a ρ).bind fun x => .ok (!x)
def eIf (t : Tv) (a b : Ev) : Ev := fun ρ => (t ρ).bind fun x => if x = true then a ρ else b ρ

/-! ### what an operation on values does, on data -/
def Lift1 (K : Kc) (r : V → Hp → VK → Prop) (g : D → Option D) : Prop := ∀ {F H : Hp} {x : V} {dx dz : D} {Q : VK}, Same F H → RepB K F H x dx → g dx = some dz →
  (∀ v H' F', Grow F H F' H' → Rep K F' v dz → Q v H') → r x H Q
def Lift2 (K : Kc) (r : R2) (g : D → D → Option D) : Prop := ∀ {F H : Hp} {x y : V} {dx dy dz : D} {Q : VK}, Same F H → RepB K F H x dx → RepB K F H y dy → g dx dy = some dz →
  (∀ v H' F', Grow F H F' H' → Rep K F' v dz → Q v H') → r x y H Q
def LiftN (K : Kc) (r : List V → Hp → VK → Prop) (g : List D → Option D) : Prop := ∀ {F H : Hp} {xs : List V} {ds : List D} {dz : D} {Q : VK}, Same F H → RepsB K F H xs ds → g ds = some dz →
  (∀ v H' F', Grow F H F' H' → Rep K F' v dz → Q v H') → r xs H Q
def LiftL (K : Kc) (r : List V → Hp → VK → Prop) (g : List D → Option (List D)) : Prop := ∀ {F H : Hp} {xs : List V} {ds dz : List D} {Q : VK}, Same F H → RepsB K F H xs ds → g ds = some dz →
  (∀ p vs, H p = none → Reps K F vs dz → vs.length ≤ sizeLine → Q (.ref p) (upd H p (.lst vs))) → r xs H Q

section
variable {c : Cc} {X : Cx} {e a b : Expr} {es : List Expr} {ea eb : Ev} {av : Av} {lv : Av} {ta tb : Tv} {pos p : Pos}
theorem sb_of (h : SE c X e ea) : SB c X e ea := ⟨pe_imp h.pe fun σ H Q q => tG_map q fun _ _ _ _ z => .inl z⟩
theorem sab_of (h : SA c X es av) : SAB c X es av := ⟨pa_imp h.pa fun σ H Q q => tG_map q fun _ _ _ _ z => z.toB⟩
/-- a new list is a value -/
theorem se_new (h : SN c X e lv) : SE c X e (eL lv) := by
  refine ⟨pe_imp h.pe fun σ H Q ⟨F, ρ, r, q⟩ => ⟨F, ρ, r, ?_⟩⟩
  unfold eL at q
  cases z : lv ρ with
  | ok ds =>
    rw [z] at q
    intro p vs H1 F1 g n rp hz
    exact q (.ref p) _ _ (g.trans (Grow.laid g.le n)) (.lst upd_same (rp.mono (same_upd (g.le.free n))))
  | exc C fs => rw [z] at q; exact q
  | stuck => rw [z] at q; exact q
/-! names, constants -/
theorem Rel.val {K : Kc} {F H : Hp} {ρ : PEnv} {σ : Sg} {i : Nat} {d : D} (r : Rel K c F ρ σ H) (h : ρ[i]? = some (.val d)) : ∃ v, σ[i]? = some (some v) ∧ Rep K F v d := by
  obtain ⟨oa, h1, _⟩ := r.sl
  obtain ⟨_, v, e, q⟩ := h1 i _ h
  exact ⟨v, e, q⟩
theorem Rel.own {K : Kc} {F H : Hp} {ρ : PEnv} {σ : Sg} {i : Nat} {ds : List D} (r : Rel K c F ρ σ H) (h : ρ[i]? = some (.own ds)) (hi : i < c.n) : ∃ a vs, σ[i]? = some (some (.ref a)) ∧ H a = some (.lst vs) ∧ Reps K F vs ds := by
  obtain ⟨oa, h1, _⟩ := r.sl
  obtain ⟨a, vs, _, e, q1, q2⟩ := h1 i _ h
  rcases e with e | e
  · rw [List.getElem?_eq_none_iff, r.len] at e; omega
  · exact ⟨a, vs, e, q1, q2⟩
theorem se_nm (i : Nat) {x : Str} (hN : X.N[i]? = some x := by rfl) (hv : Vis X.env.scope x := by first | exact Or.inl rfl | exact Or.inr (Or.inl rfl) | exact Or.inr (Or.inr rfl)) (hd : (x == ("__debug__" : Str)) = false := by decide)
    (hcd : (x == ("__classdict__" : Str)) = false := by decide) : SE c X (.Name x p) (eN i) := by
  refine ⟨pe_imp (pe_var hN hv hd hcd) fun σ H Q ⟨F, ρ, r, q⟩ => ?_⟩
  unfold eN at q
  split at q
  · rename_i d h
    obtain ⟨v, e, rp⟩ := r.val h
    exact ⟨v, e, q v H F r.refl rp⟩
  · exact q.elim
theorem lt_n {N : List Str} {n i : Nat} {x : Str} (hn : n = N.length) (hN : N[i]? = some x) : i < n := by rw [hn]; exact (List.getElem?_eq_some_iff.mp hN).1
theorem sb_nm (i : Nat) {x : Str} (hN : X.N[i]? = some x := by rfl) (hn : c.n = X.N.length := by rfl) (hv : Vis X.env.scope x := by first | exact Or.inl rfl | exact Or.inr (Or.inl rfl) | exact Or.inr (Or.inr rfl)) (hd : (x == ("__debug__" : Str)) = false := by decide)
    (hcd : (x == ("__classdict__" : Str)) = false := by decide) : SB c X (.Name x p) (eB i) := by
  refine ⟨pe_imp (pe_var hN hv hd hcd) fun σ H Q ⟨F, ρ, r, q⟩ => ?_⟩
  unfold eB at q
  split at q
  · rename_i d h
    obtain ⟨v, e, rp⟩ := r.val h
    exact ⟨v, e, q v H F r.refl (.inl rp)⟩
  · rename_i d h
    obtain ⟨v, vs, e, h1, h2⟩ := r.own h (lt_n hn hN)
    exact ⟨.ref v, e, q _ H F r.refl (.inr ⟨v, vs, _, rfl, rfl, h1, h2⟩)⟩
  · exact q.elim
theorem se_cst {v : V} {d : D} (h : PE X e (tC v)) (r : ∀ F, Rep (X.kc c) F v d) : SE c X e (eC d) := ⟨pe_imp h fun σ H Q ⟨F, ρ, rl, q⟩ => q v H F rl.refl (r F)⟩
theorem se_int {i j} : SE c X (.Constant (.int i) j pos) (eC (.int i)) := se_cst pe_int fun _ => .int i
theorem se_bl {i j} : SE c X (.Constant (.bool i) j pos) (eC (.bl i)) := se_cst pe_bl fun _ => .bl i
theorem se_non {j} : SE c X (.Constant .none j pos) (eC .non) := se_cst pe_non fun _ => .non
theorem se_str {i j} : SE c X (.Constant (.str i) j pos) (eC (.str i)) := se_cst pe_str fun _ => .str i
theorem se_gint {x : Str} {i : Int} (hg : Gl X x) (hm : ∃ t, X.mg x = some (.int i t)) (hd : (x == ("__debug__" : Str)) = false := by decide) : SE c X (.Name x p) (eC (.int i)) := by
  obtain ⟨t, hm⟩ := hm
  exact se_cst (pe_glob (v := .int i) hg hm ⟨t, rfl⟩ hd) fun _ => .int i
theorem se_gstr {x i : Str} (hg : Gl X x) (hm : ∃ t, X.mg x = some (.str i t)) (hd : (x == ("__debug__" : Str)) = false := by decide) : SE c X (.Name x p) (eC (.str i)) := by
  obtain ⟨t, hm⟩ := hm
  exact se_cst (pe_glob (v := .str i) hg hm ⟨t, rfl⟩ hd) fun _ => .str i
/-! operators -/
theorem finOf {K : Kc} {R : Hp → Hp → V → D → Prop} {F H : Hp} {o : Option D} {Q : VK} (h : FinG K c R F H (Res.of o) Q) : ∃ d, o = some d ∧ ∀ v H' F', Grow F H F' H' → R F' H' v d → Q v H' := by
  cases o with
  | none => exact h.elim
  | some d => exact ⟨d, rfl, h⟩
theorem tOp_of {r : R2} {g : D → D → Option D} {ta tb : TE} (l : Lift2 (X.kc c) r g) {R : V → Hp → Prop} {σ : Sg} {H : Hp} (h : tG (X.kc c) c (rE (X.kc c)) (e2 g ea eb) σ H R) : tOp r (tBo (X.kc c) c ea) (tBo (X.kc c) c eb) σ H R := by
  obtain ⟨F, ρ, rl, q⟩ := h
  refine tG_bind rl q fun x dx H1 F1 g1 rl1 rx q1 => ?_
  refine tG_bind rl1 q1 fun y dy H2 F2 g2 rl2 ry q2 => ?_
  obtain ⟨dz, e, q3⟩ := finOf q2
  exact l rl2.le (rx.grow g2) ry e q3
theorem se_op {op : Operator} {r : R2} {g : D → D → Option D} (ho : OpR X (binaryOp op) r) (l : Lift2 (X.kc c) r g) (ha : SB c X a ea) (hb : SB c X b eb) : SE c X (.BinOp a op b pos) (e2 g ea eb) :=
  ⟨pe_imp (pe_op ho ha.pe hb.pe) fun σ H Q h => tOp_of (ta := fun _ _ _ => False) (tb := fun _ _ _ => False) l h⟩
theorem se_un {op : UnaryOp} {r : V → Hp → VK → Prop} {g : D → Option D} (ho : UnR X (unaryOp op) r) (l : Lift1 (X.kc c) r g) (ha : SB c X a ea) : SE c X (.UnaryOp op a pos) (e1 g ea) := by
  refine ⟨pe_imp (pe_un ho ha.pe) fun σ H Q ⟨F, ρ, rl, q⟩ => ?_⟩
  refine tG_bind rl q fun x dx H1 F1 g1 rl1 rx q1 => ?_
  obtain ⟨dz, e, q3⟩ := finOf q1
  exact l rl1.le rx e q3
theorem se_cmp {op : CmpOp} {r : R2} {g : D → D → Option D} (ho : OpR X (compareOp op) r) (l : Lift2 (X.kc c) r g) (ha : SB c X a ea) (hb : SB c X b eb) (hm : behindInMarks op b = false) : SE c X (.Compare a [op] [b] pos) (e2 g ea eb) :=
  ⟨pe_imp (pe_cmpR ho ha.pe hb.pe hm) fun σ H Q h => tOp_of (ta := fun _ _ _ => False) (tb := fun _ _ _ => False) l h⟩
/-- an expression's answer as a test -/
theorem tTest_of {K : Kc} {t : TE} {σ : Sg} {H : Hp} {Q : Bool → Hp → Prop} (h : tT K c (tV ea) σ H Q) (i : ∀ Q', tE K c ea σ H Q' → t σ H Q') : tTest t σ H Q := by
  obtain ⟨F, ρ, rl, q⟩ := h
  refine i _ (tG_bind rl q fun x dx H1 F1 g1 rl1 rx q1 => ?_)
  cases dx with
  | bl k => cases rx; exact ⟨k, rfl, q1 k H1 F1 rl1.refl rfl⟩
  | _ => exact q1.elim
theorem st_cmp {op : CmpOp} {r : R2} {g : D → D → Option D} (ho : OpR X (compareOp op) r) (l : Lift2 (X.kc c) r g) (ha : SB c X a ea) (hb : SB c X b eb) (hm : behindInMarks op b = false) : ST c X (.Compare a [op] [b] pos) (tV (e2 g ea eb)) :=
  ⟨pt_imp (pt_cmpR ho ha.pe hb.pe hm) fun σ H Q h => tTest_of h fun Q' z => tOp_of (ta := fun _ _ _ => False) (tb := fun _ _ _ => False) l z⟩
/-- a op b op' d -/
def eCh (g g' : D → D → Option D) (a b d : Ev) : Ev := fun ρ => (a ρ).bind fun x => (b ρ).bind fun y => (Res.of (g x y)).bind fun z => (asB z).bind fun k => if k = true then (d ρ).bind fun w => Res.of (g' y w) else .ok (.bl false)
theorem tChain_of {r r' : R2} {g g' : D → D → Option D} {ed : Ev} (l : Lift2 (X.kc c) r g) (l' : Lift2 (X.kc c) r' g') {R : V → Hp → Prop} {σ : Sg} {H : Hp} (h : tG (X.kc c) c (rE (X.kc c)) (eCh g g' ea eb ed) σ H R) : tChain r r' (tBo (X.kc c) c ea) (tBo (X.kc c) c eb) (tBo (X.kc c) c ed) σ H R := by
  obtain ⟨F, ρ, rl, q⟩ := h
  refine tG_bind rl q fun x dx H1 F1 g1 rl1 rx q1 => ?_
  refine tG_bind rl1 q1 fun y dy H2 F2 g2 rl2 ry q2 => ?_
  cases e : g dx dy with
  | none => rw [e] at q2; exact q2.elim
  | some dz =>
    rw [e] at q2
    refine l rl2.le (rx.grow g2) ry e fun v H3 F3 g3 rv => ?_
    have rl3 := rl2.grow g3
    cases dz with
    | bl k =>
      cases rv
      refine ⟨k, rfl, ?_⟩
      cases k with
      | false =>
        have q3 : FinG (X.kc c) c (rE (X.kc c)) F2 H2 (.ok (.bl false)) R := q2
        exact iteF (q3 _ _ _ g3 (.bl false))
      | true =>
        have q3 : FinG (X.kc c) c (rE (X.kc c)) F2 H2 ((ed ρ).bind fun w => Res.of (g' dy w)) R := q2
        refine iteT (tG_bind rl3 (q3.grow g3) fun w dw H4 F4 g4 rl4 rw' q4 => ?_)
        obtain ⟨dz, e, q5⟩ := finOf q4
        exact l' rl4.le (ry.grow (g3.trans g4)) rw' e q5
    | _ => exact (show False from q2).elim
theorem st_chain {op op' : CmpOp} {r r' : R2} {g g' : D → D → Option D} {d : Expr} {ed : Ev} (ho : OpR X (compareOp op) r) (ho' : OpR X (compareOp op') r') (l : Lift2 (X.kc c) r g) (l' : Lift2 (X.kc c) r' g') (ha : SB c X a ea) (hb : SB c X b eb) (hd : SB c X d ed)
    (hm : lastMarks [op, op'] [b, d] = false := by with_unfolding_all rfl) : ST c X (.Compare a [op, op'] [b, d] pos) (tV (eCh g g' ea eb ed)) :=
  ⟨pt_imp (pt_chain ho ho' ha.pe hb.pe hd.pe hm) fun σ H Q h => tTest_of h fun Q' z => tChain_of l l' z⟩
/-! tests -/
theorem st_val (h : SE c X e ea) (he : ∀ whole, isTrue e X.env whole = (do let v ← whole; standAt e.pos; holding [v] (truthy v)) := by intro _; rfl) : ST c X e (tV ea) :=
  ⟨pt_imp (pt_val h.pe he) fun σ H Q h => tTest_of h fun Q' z => z⟩
theorem st_w (h : SW c X e ta) : ST c X e ta := ⟨h.pw.pt⟩
theorem sw_and1 (h : ST c X a ta) : SW c X (.BoolOp .And [a] pos) ta := ⟨pw_and1 h.pt⟩
theorem sw_or1 (h : ST c X a ta) : SW c X (.BoolOp .Or [a] pos) ta := ⟨pw_or1 h.pt⟩
theorem sw_and {rest : List Expr} (h : ST c X a ta) (h2 : SW c X (.BoolOp .And (b :: rest) pos) tb) : SW c X (.BoolOp .And (a :: b :: rest) pos) (tAnd' ta tb) := by
  refine ⟨pw_imp (pw_and h.pt h2.pw) fun σ H Q ⟨F, ρ, rl, q⟩ => ?_⟩
  refine tG_bind rl q fun x dx H1 F1 g1 rl1 rx q1 => ?_
  cases (show x = dx from rx)
  cases x with
  | true => exact iteT ⟨F1, ρ, rl1, q1⟩
  | false => exact iteF ((show FinG (X.kc c) c rT F1 H1 (.ok false) Q from q1) _ _ _ rl1.refl rfl)
theorem sw_or {rest : List Expr} (h : ST c X a ta) (h2 : SW c X (.BoolOp .Or (b :: rest) pos) tb) : SW c X (.BoolOp .Or (a :: b :: rest) pos) (tOr' ta tb) := by
  refine ⟨pw_imp (pw_or h.pt h2.pw) fun σ H Q ⟨F, ρ, rl, q⟩ => ?_⟩
  refine tG_bind rl q fun x dx H1 F1 g1 rl1 rx q1 => ?_
  cases (show x = dx from rx)
  cases x with
  | false => exact iteF ⟨F1, ρ, rl1, q1⟩
  | true => exact iteT ((show FinG (X.kc c) c rT F1 H1 (.ok true) Q from q1) _ _ _ rl1.refl rfl)
theorem st_not (h : ST c X a ta) : ST c X (.UnaryOp .Not a pos) (tNot' ta) := by
  refine ⟨pt_imp (pt_not h.pt) fun σ H Q ⟨F, ρ, rl, q⟩ => ?_⟩
  refine tG_bind rl q fun x dx H1 F1 g1 rl1 rx q1 => ?_
  cases (show x = dx from rx)
  exact q1 _ _ _ rl1.refl rfl
theorem se_ifx {d : Expr} (h : ST c X d ta) (ha : SE c X a ea) (hb : SE c X b eb) : SE c X (.IfExp d a b pos) (eIf ta ea eb) := by
  refine ⟨pe_imp (pe_ifExp h.pt ha.pe hb.pe) fun σ H Q ⟨F, ρ, rl, q⟩ => ?_⟩
  refine tG_bind rl q fun x dx H1 F1 g1 rl1 rx q1 => ?_
  cases (show x = dx from rx)
  cases x with
  | true => exact iteT ⟨F1, ρ, rl1, q1⟩
  | false => exact iteF ⟨F1, ρ, rl1, q1⟩
/-! argument lists -/
theorem sa_nil : SA c X [] aN := ⟨pa_imp pa_nil fun σ H Q ⟨F, ρ, rl, q⟩ => q [] H F rl.refl .nil⟩
theorem sab_nil : SAB c X [] aN := sab_of sa_nil
theorem sa_cons (ha : SE c X e ea) (hr : SA c X es av) (hs : starEach (e :: es) X.env = (false, eval e X.env) :: starEach es X.env := by rfl) : SA c X (e :: es) (aC ea av) := by
  refine ⟨pa_imp (pa_cons ha.pe hr.pa hs) fun σ H Q ⟨F, ρ, rl, q⟩ => ?_⟩
  refine tG_bind rl q fun x dx H1 F1 g1 rl1 rx q1 => ?_
  refine tG_bind rl1 q1 fun xs ds H2 F2 g2 rl2 rs q2 => ?_
  exact q2 _ _ _ rl2.refl (.cons (rx.mono g2.f) rs)
theorem sab_cons (ha : SB c X e ea) (hr : SAB c X es av) (hs : starEach (e :: es) X.env = (false, eval e X.env) :: starEach es X.env := by rfl) : SAB c X (e :: es) (aC ea av) := by
  refine ⟨pa_imp (pa_cons ha.pe hr.pa hs) fun σ H Q ⟨F, ρ, rl, q⟩ => ?_⟩
  refine tG_bind rl q fun x dx H1 F1 g1 rl1 rx q1 => ?_
  refine tG_bind rl1 q1 fun xs ds H2 F2 g2 rl2 rs q2 => ?_
  exact q2 _ _ _ rl2.refl (.cons (rx.grow g2) rs)
/-! displays -/
theorem sn_lst (h : SA c X es av) (hz : es.length ≤ sizeLine := by decide) (hl : ∀ ρ ds, av ρ = .ok ds → ds.length ≤ sizeLine) : SN c X (.List es pos) av := by
  refine ⟨pe_imp (pe_lst h.pa) fun σ H Q ⟨F, ρ, rl, q⟩ => ⟨F, ρ, rl, ?_⟩⟩
  cases z : av ρ with
  | ok ds =>
    rw [z] at q
    intro vs H1 F1 g rs
    have e := rs.length
    have hz' : vs.length ≤ sizeLine := by rw [e]; exact hl ρ ds z
    exact ⟨hz', fun p n => q p vs H1 F1 g n rs hz'⟩
  | exc C fs => rw [z] at q; exact q
  | stuck => rw [z] at q; exact q
/-- a tuple of these -/
def eT (as : Av) : Ev := fun ρ => (as ρ).bind fun ds => .ok (.tup ds)
theorem se_tup {x1} (h : SA c X es av) (hl : ∀ ρ ds, av ρ = .ok ds → ds.length ≤ sizeLine) : SE c X (.Tuple es x1 pos) (eT av) := by
  refine ⟨pe_imp (pe_tup h.pa) fun σ H Q ⟨F, ρ, rl, q⟩ => ⟨F, ρ, rl, ?_⟩⟩
  unfold eT at q
  cases z : av ρ with
  | ok ds =>
    rw [z] at q
    intro vs H1 F1 g rs
    have e := rs.length
    refine ⟨by rw [e]; exact hl ρ ds z, fun p n => ?_⟩
    exact q (.ref p) _ _ (g.trans (Grow.laid g.le n)) (.tup (.inl (.inl upd_same)) (rs.mono (same_upd (g.le.free n))))
  | exc C fs => rw [z] at q; exact q
  | stuck => rw [z] at q; exact q
theorem aN_len : ∀ ρ ds, aN ρ = .ok ds → ds.length = 0 := fun ρ ds h => by cases h; rfl
theorem aC_len {n : Nat} (h : ∀ ρ ds, av ρ = .ok ds → ds.length = n) : ∀ ρ ds, aC ea av ρ = .ok ds → ds.length = n + 1 := fun ρ ds e => by
  unfold aC at e
  cases z : ea ρ with
  | ok d =>
    rw [z] at e
    cases w : av ρ with
    | ok xs => rw [w] at e; cases e; exact congrArg Nat.succ (h ρ xs w)
    | exc C fs => rw [w] at e; cases e
    | stuck => rw [w] at e; cases e
  | exc C fs => rw [z] at e; cases e
  | stuck => rw [z] at e; cases e
theorem len_le {n : Nat} (h : ∀ ρ ds, av ρ = .ok ds → ds.length = n) (hn : n ≤ 1000) : ∀ ρ ds, av ρ = .ok ds → ds.length ≤ sizeLine := fun ρ ds e => by rw [h ρ ds e]; exact Nat.le_of_lt (small1000 hn)
end
end Pu

namespace Pu
open PySem PySem.Spec PyProof.Rows L2

/-! ### operations on data -/
def opAdd : D → D → Option D
  | .int i, .int j => some (.int (i + j))
  | .str i, .str j => if i.length + j.length ≤ sizeLine then some (.str (i ++ j)) else none
  | _, _ => none
def opSub : D → D → Option D
  | .int i, .int j => some (.int (i - j))
  | _, _ => none
def small64 (i : Int) : Bool := decide (-(2 ^ 64) < i) && decide (i < 2 ^ 64)
def opMul : D → D → Option D
  | .int i, .int j => if (small64 j || small64 i) = true then some (.int (i * j)) else none
  | _, _ => none
def divOk (j : Int) : Bool := decide (0 < j) && decide (j < 1073741824)
def opDiv : D → D → Option D
  | .int i, .int j => if divOk j = true then some (.int (i / j)) else none
  | _, _ => none
def opMod : D → D → Option D
  | .int i, .int j => if decide (0 < j) = true then some (.int (i % j)) else none
  | _, _ => none
def opPow : D → D → Option D
  | .int i, .int j => if (decide (0 ≤ j) && decide (j ≤ 1000000) && decide (i.natAbs < 2 ^ 64)) = true then some (.int (i ^ j.toNat)) else none
  | _, _ => none
def opNeg : D → Option D
  | .int i => some (.int (-i))
  | _ => none
def opLt : D → D → Option D
  | .int i, .int j => some (.bl (decide (i < j)))
  | _, _ => none
def opLe : D → D → Option D
  | .int i, .int j => some (.bl (decide (i ≤ j)))
  | _, _ => none
def opGt : D → D → Option D
  | .int i, .int j => some (.bl (decide (j < i)))
  | _, _ => none
def opGe : D → D → Option D
  | .int i, .int j => some (.bl (decide (j ≤ i)))
  | _, _ => none
mutual
def D.toPy : D → Option PyData
  | .non => some .none
  | .bl b => some (.bool b)
  | .int i => some (.int i)
  | .str s => some (.str s)
  | .lst ds => (D.toPys ds).map .list
  | .tup ds => (D.toPys ds).map .tuple
  | _ => none
def D.toPys : List D → Option (List PyData)
  | [] => some []
  | d :: ds => (D.toPy d).bind fun x => (D.toPys ds).map (x :: ·)
end
def eqPy (x y : D) : Option Bool := (D.toPy x).bind fun a => (D.toPy y).bind fun b => if (SeqAt.shaped a && SeqAt.shaped b) = true then some (PyData.eqv a b) else none
/-- == -/
def eqD : D → D → Option Bool
  | .int i, .int j => some (decide (i = j))
  | .str i, .str j => some (decide (i = j))
  | .bl i, .bl j => some (decide (i = j))
  | .non, .non => some true
  | .non, .int _ => some false
  | .int _, .non => some false
  | .non, .str _ => some false
  | .str _, .non => some false
  | .non, .bl _ => some false
  | .bl _, .non => some false
  | .lst a, .lst b => eqPy (.lst a) (.lst b)
  | .tup a, .tup b => eqPy (.tup a) (.tup b)
  | _, _ => none
def opEq (x y : D) : Option D := (eqD x y).map .bl
def opNe (x y : D) : Option D := (eqD x y).map fun b => .bl (!b)
/-- is None -/
def isN : D → Bool
  | .non => true
  | _ => false
def opIsN : D → D → Option D
  | x, .non => some (.bl (isN x))
  | _, _ => none
def opNotN : D → D → Option D
  | x, .non => some (.bl (!isN x))
  | _, _ => none
def flat : D → Bool
  | .non => true
  | .bl _ => true
  | .int _ => true
  | .str _ => true
  | _ => false
def eqF : D → D → Bool
  | .non, .non => true
  | .bl a, .bl b => a == b
  | .bl a, .int b => (if a then 1 else 0) == b
  | .int a, .bl b => a == (if b then 1 else 0)
  | .int a, .int b => a == b
  | .str a, .str b => a == b
  | _, _ => false
def inF (x : D) (ds : List D) : Option Bool := if (flat x && ds.all flat) = true then some (ds.any fun y => eqF y x) else none
def inD : D → D → Option Bool
  | .str s, .str z => match s.cps.toList with
    | [c] => some (decide (c ∈ z.cps.toList))
    | _ => none
  | x, .lst ds => inF x ds
  | x, .tup ds => inF x ds
  | _, _ => none
def opIn (x y : D) : Option D := (inD x y).map .bl
def opNotIn (x y : D) : Option D := (inD x y).map fun b => .bl (!b)
def opIx : D → D → Option D
  | .lst ds, .int i => atI ds i
  | .tup ds, .int i => atI ds i
  | .str z, .int i => if z.length ≤ sizeLine then (atI z.cps.toList i).map fun c => .str ⟨#[c]⟩ else none
  | _, _ => none

section
variable {K : Kc}
theorem lift_int {C : Int → Int → Prop} {f : Int → Int → Int} {g : D → D → Option D} (h : ∀ x y z, g x y = some z → ∃ i j, x = .int i ∧ y = .int j ∧ C i j ∧ z = .int (f i j)) : Lift2 K (rI C fun i j => .int (f i j)) g := by
  intro F H x y dx dy dz Q le hx hy e q
  obtain ⟨i, j, rfl, rfl, hc, rfl⟩ := h _ _ _ e
  exact ⟨i, j, hx.int, hy.int, hc, q _ H F (Grow.refl le) (.int _)⟩
theorem lift_int0 {f : Int → Int → Int} {g : D → D → Option D} (h : ∀ x y z, g x y = some z → ∃ i j, x = .int i ∧ y = .int j ∧ z = .int (f i j)) : Lift2 K (rI0 fun i j => .int (f i j)) g := by
  intro F H x y dx dy dz Q le hx hy e q
  obtain ⟨i, j, rfl, rfl, rfl⟩ := h _ _ _ e
  exact ⟨i, j, hx.int, hy.int, q _ H F (Grow.refl le) (.int _)⟩
theorem lift_bl0 {f : Int → Int → Bool} {g : D → D → Option D} (h : ∀ x y z, g x y = some z → ∃ i j, x = .int i ∧ y = .int j ∧ z = .bl (f i j)) : Lift2 K (rI0 fun i j => .bl (f i j)) g := by
  intro F H x y dx dy dz Q le hx hy e q
  obtain ⟨i, j, rfl, rfl, rfl⟩ := h _ _ _ e
  exact ⟨i, j, hx.int, hy.int, q _ H F (Grow.refl le) (.bl _)⟩
theorem l_lt : Lift2 K (rI0 fun i j => .bl (decide (i < j))) opLt := lift_bl0 fun x y z e => by
  unfold opLt at e; split at e
  · cases e; exact ⟨_, _, rfl, rfl, rfl⟩
  · cases e
theorem l_le : Lift2 K (rI0 fun i j => .bl (decide (i ≤ j))) opLe := lift_bl0 fun x y z e => by
  unfold opLe at e; split at e
  · cases e; exact ⟨_, _, rfl, rfl, rfl⟩
  · cases e
theorem l_gt : Lift2 K (rI0 fun i j => .bl (decide (j < i))) opGt := lift_bl0 fun x y z e => by
  unfold opGt at e; split at e
  · cases e; exact ⟨_, _, rfl, rfl, rfl⟩
  · cases e
theorem l_ge : Lift2 K (rI0 fun i j => .bl (decide (j ≤ i))) opGe := lift_bl0 fun x y z e => by
  unfold opGe at e; split at e
  · cases e; exact ⟨_, _, rfl, rfl, rfl⟩
  · cases e
theorem l_sub : Lift2 K (rI0 fun i j => .int (i - j)) opSub := lift_int0 fun x y z e => by
  unfold opSub at e; split at e
  · cases e; exact ⟨_, _, rfl, rfl, rfl⟩
  · cases e
theorem l_mul : Lift2 K (rI CMul fun i j => .int (i * j)) opMul := lift_int fun x y z e => by
  unfold opMul at e; split at e
  · rename_i i j
    split at e
    · rename_i hc
      cases e
      refine ⟨_, _, rfl, rfl, ?_, rfl⟩
      simp only [small64, Bool.or_eq_true, Bool.and_eq_true, decide_eq_true_eq] at hc
      exact hc.elim (fun z => .inr z) fun z => .inl z
    · cases e
  · cases e
theorem l_div : Lift2 K (rI CDiv fun i j => .int (i / j)) opDiv := lift_int fun x y z e => by
  unfold opDiv at e; split at e
  · split at e
    · rename_i hc
      cases e
      simp only [divOk, Bool.and_eq_true, decide_eq_true_eq] at hc
      exact ⟨_, _, rfl, rfl, hc, rfl⟩
    · cases e
  · cases e
theorem l_mod : Lift2 K (rI (fun _ j => 0 < j) fun i j => .int (i % j)) opMod := lift_int fun x y z e => by
  unfold opMod at e; split at e
  · split at e
    · rename_i hc
      cases e
      exact ⟨_, _, rfl, rfl, of_decide_eq_true hc, rfl⟩
    · cases e
  · cases e
theorem l_pow : Lift2 K (rI CPow fun i j => .int (i ^ j.toNat)) opPow := lift_int fun x y z e => by
  unfold opPow at e; split at e
  · split at e
    · rename_i hc
      cases e
      simp only [Bool.and_eq_true, decide_eq_true_eq] at hc
      exact ⟨_, _, rfl, rfl, ⟨hc.1.1, hc.1.2, hc.2⟩, rfl⟩
    · cases e
  · cases e
theorem l_neg : Lift1 K (rU fun i => .int (-i)) opNeg := by
  intro F H x dx dz Q le hx e q
  unfold opNeg at e; split at e
  · cases e; exact ⟨_, hx.int, q _ H F (Grow.refl le) (.int _)⟩
  · cases e
abbrev rAddU : R2 := fun x y H Q => rI0 (fun i j => .int (i + j)) x y H Q ∨ ∃ i j, x = .str i ∧ y = .str j ∧ i.length + j.length ≤ sizeLine ∧ Q (.str (i ++ j)) H
theorem op_addU {X : Cx} : OpR X (binaryOp .Add) rAddU := op_add.or op_add_str
theorem l_add : Lift2 K rAddU opAdd := by
  intro F H x y dx dy dz Q le hx hy e q
  unfold opAdd at e; split at e
  · cases e; exact .inl ⟨_, _, hx.int, hy.int, q _ H F (Grow.refl le) (.int _)⟩
  · split at e
    · rename_i hc
      cases e; exact .inr ⟨_, _, hx.str, hy.str, hc, q _ H F (Grow.refl le) (.str _)⟩
    · cases e
  · cases e
mutual
theorem rep_dp {F H : Hp} (le : Same F H) : ∀ {d : D} {v : V} {p : PyData}, Rep K F v d → D.toPy d = some p → Dp K.K H v p
  | .non, _, _, .non, e => by unfold D.toPy at e; cases e; exact .non
  | .bl b, _, _, .bl _, e => by unfold D.toPy at e; cases e; exact .bl _
  | .int b, _, _, .int _, e => by unfold D.toPy at e; cases e; exact .int _
  | .str b, _, _, .str _, e => by unfold D.toPy at e; cases e; exact .str _
  | .lst ds, _, _, .lst h r, e => by
    unfold D.toPy at e
    obtain ⟨ps, e1, e2⟩ := Option.map_eq_some_iff.mp e
    subst e2
    exact .lst (.inl (.inl (le _ _ h))) (reps_dp le r e1)
  | .tup ds, _, _, .tup h r, e => by
    unfold D.toPy at e
    obtain ⟨ps, e1, e2⟩ := Option.map_eq_some_iff.mp e
    subst e2
    exact .tup (same_seqT le h) (reps_dp le r e1)
  | .obj C fs, _, _, _, e => by unfold D.toPy at e; cases e
  | .scr ns, _, _, _, e => by unfold D.toPy at e; cases e
theorem reps_dp {F H : Hp} (le : Same F H) : ∀ {ds : List D} {vs : List V} {ps : List PyData}, Reps K F vs ds → D.toPys ds = some ps → DpAll K.K H vs ps
  | [], _, _, .nil, e => by unfold D.toPys at e; cases e; exact .nil
  | d :: ds, _, _, .cons h r, e => by
    unfold D.toPys at e
    obtain ⟨x, e1, e2⟩ := Option.bind_eq_some_iff.mp e
    obtain ⟨xs, e3, e4⟩ := Option.map_eq_some_iff.mp e2
    subst e4
    exact .cons (rep_dp le h e1) (reps_dp le r e3)
end
theorem repB_dp {F H : Hp} (le : Same F H) {d : D} {v : V} {p : PyData} (h : RepB K F H v d) (e : D.toPy d = some p) : Dp K.K H v p := by
  rcases h with h | ⟨a, vs, ds, rfl, rfl, h1, h2⟩
  · exact rep_dp le h e
  · unfold D.toPy at e
    obtain ⟨ps, e1, e2⟩ := Option.map_eq_some_iff.mp e
    subst e2
    exact .lst (.inl (.inl h1)) (reps_dp le h2 e1)
abbrev rEqU (K : PySem.W.Frag) : R2 := fun x y H Q => rEq x y H Q ∨ rEqD K x y H Q
abbrev rNeU (K : PySem.W.Frag) : R2 := fun x y H Q => rNe x y H Q ∨ rNeD K x y H Q
theorem op_eqU {X : Cx} (hu : X.A.units + 64 < cLine) : OpR X (compareOp .Eq) (rEqU X.K) := op_eq.or (op_eqD hu)
theorem op_neU {X : Cx} (hu : X.A.units + 64 < cLine) : OpR X (compareOp .NotEq) (rNeU X.K) := op_ne.or (op_neD hu)
theorem eq_lift {F H : Hp} {x y : V} {dx dy : D} {b : Bool} (le : Same F H) (hx : RepB K F H x dx) (hy : RepB K F H y dy) (e : eqD dx dy = some b) :
    (scal x y = true ∧ b = decide (x = y)) ∨ ∃ d e, Dp K.K H x d ∧ Dp K.K H y e ∧ SeqAt.shaped d = true ∧ SeqAt.shaped e = true ∧ b = PyData.eqv d e := by
  have dat : ∀ {dx dy : D}, RepB K F H x dx → RepB K F H y dy → eqPy dx dy = some b → (scal x y = true ∧ b = decide (x = y)) ∨ ∃ d e, Dp K.K H x d ∧ Dp K.K H y e ∧ SeqAt.shaped d = true ∧ SeqAt.shaped e = true ∧ b = PyData.eqv d e := fun hx hy e => by
    unfold eqPy at e
    obtain ⟨p, e1, e2⟩ := Option.bind_eq_some_iff.mp e
    obtain ⟨p', e3, e4⟩ := Option.bind_eq_some_iff.mp e2
    split at e4
    · rename_i hs
      cases e4
      rw [Bool.and_eq_true] at hs
      exact .inr ⟨p, p', repB_dp le hx e1, repB_dp le hy e3, hs.1, hs.2, rfl⟩
    · cases e4
  unfold eqD at e
  split at e
  · rw [hx.int, hy.int]; cases e; exact .inl ⟨rfl, by simp⟩
  · rw [hx.str, hy.str]; cases e; exact .inl ⟨rfl, by simp⟩
  · rw [hx.bl, hy.bl]; cases e; exact .inl ⟨rfl, by simp⟩
  · rw [hx.non, hy.non]; cases e; exact .inl ⟨rfl, by simp⟩
  · rw [hx.non, hy.int]; cases e; exact .inl ⟨rfl, by simp⟩
  · rw [hx.int, hy.non]; cases e; exact .inl ⟨rfl, by simp⟩
  · rw [hx.non, hy.str]; cases e; exact .inl ⟨rfl, by simp⟩
  · rw [hx.str, hy.non]; cases e; exact .inl ⟨rfl, by simp⟩
  · rw [hx.non, hy.bl]; cases e; exact .inl ⟨rfl, by simp⟩
  · rw [hx.bl, hy.non]; cases e; exact .inl ⟨rfl, by simp⟩
  · exact dat hx hy e
  · exact dat hx hy e
  · cases e
theorem l_eq : Lift2 K (rEqU K.K) opEq := by
  intro F H x y dx dy dz Q le hx hy e q
  obtain ⟨b, e1, rfl⟩ := Option.map_eq_some_iff.mp e
  have q' := q (.bl b) H F (Grow.refl le) (.bl b)
  rcases eq_lift le hx hy e1 with ⟨h1, rfl⟩ | ⟨p1, p2, h1, h2, h3, h4, rfl⟩
  · exact .inl ⟨h1, q'⟩
  · exact .inr ⟨p1, p2, h1, h2, h3, h4, q'⟩
theorem l_ne : Lift2 K (rNeU K.K) opNe := by
  intro F H x y dx dy dz Q le hx hy e q
  obtain ⟨b, e1, rfl⟩ := Option.map_eq_some_iff.mp e
  have q' := q (.bl (!b)) H F (Grow.refl le) (.bl (!b))
  rcases eq_lift le hx hy e1 with ⟨h1, rfl⟩ | ⟨p1, p2, h1, h2, h3, h4, rfl⟩
  · exact .inl ⟨h1, q'⟩
  · exact .inr ⟨p1, p2, h1, h2, h3, h4, q'⟩
theorem isN_rep {F H : Hp} {x : V} {d : D} (h : RepB K F H x d) : decide (x = .non) = isN d := by
  rcases h with h | ⟨a, vs, ds, rfl, rfl, _, _⟩
  · cases h <;> simp [isN]
  · simp [isN]
theorem l_isN : Lift2 K (fun x y H Q => y = .non ∧ Q (.bl (decide (x = .non))) H) opIsN := by
  intro F H x y dx dy dz Q le hx hy e q
  unfold opIsN at e; split at e
  · cases e; exact ⟨hy.non, by rw [isN_rep hx]; exact q _ H F (Grow.refl le) (.bl _)⟩
  · cases e
theorem l_notN : Lift2 K (fun x y H Q => y = .non ∧ Q (.bl (!decide (x = .non))) H) opNotN := by
  intro F H x y dx dy dz Q le hx hy e q
  unfold opNotN at e; split at e
  · cases e; exact ⟨hy.non, by rw [isN_rep hx]; exact q _ H F (Grow.refl le) (.bl _)⟩
  · cases e
theorem flat_rep {F : Hp} {x : V} {d : D} (h : Rep K F x d) (f : flat d = true) : flatV x = true := by
  cases h <;> first | rfl | cases f
theorem eqF_rep {F : Hp} {x y : V} {d e : D} (h : Rep K F x d) (h' : Rep K F y e) (f : flat d = true) (f' : flat e = true) : eqV x y = eqF d e := by
  cases h <;> (first | cases f | skip) <;> cases h' <;> first | rfl | cases f'
theorem flats_rep {F : Hp} : ∀ {xs : List V} {ds : List D}, Reps K F xs ds → ds.all flat = true → xs.all flatV = true
  | _, _, .nil, _ => rfl
  | _, _, .cons h r, f => by
    rw [List.all_cons, Bool.and_eq_true] at f ⊢
    exact ⟨flat_rep h f.1, flats_rep r f.2⟩
theorem inF_rep {F : Hp} {x : V} {d : D} (h : Rep K F x d) (f : flat d = true) : ∀ {xs : List V} {ds : List D}, Reps K F xs ds → ds.all flat = true → inV x xs = ds.any fun y => eqF y d
  | _, _, .nil, _ => rfl
  | _, _, .cons h' r, f' => by
    rw [List.all_cons, Bool.and_eq_true] at f'
    unfold inV
    rw [List.any_cons, List.any_cons, eqF_rep h' h f'.1 f]
    exact congrArg (_ || ·) (inF_rep h f r f'.2)
theorem flatB {F H : Hp} {x : V} {d : D} (h : RepB K F H x d) (f : flat d = true) : Rep K F x d := by
  rcases h with h | ⟨a, vs, ds, rfl, rfl, _, _⟩
  · exact h
  · cases f
def rSign (neg : Bool) : R2 := fun x y H Q => ∃ (c : Nat) (z : Str), x = .str ⟨#[c]⟩ ∧ y = .str z ∧ Q (.bl (if neg then !decide (c ∈ z.cps.toList) else decide (c ∈ z.cps.toList))) H
abbrev rInU (K : PySem.W.Frag) (neg : Bool) : R2 := fun x y H Q => rIn K neg x y H Q ∨ rSign neg x y H Q
theorem op_inU {X : Cx} : OpR X (compareOp .In) (rInU X.K false) := op_in_seq.or op_in_sign
theorem op_notInU {X : Cx} : OpR X (compareOp .NotIn) (rInU X.K true) := op_notIn_seq.or op_notIn_sign
theorem in_lift {F H : Hp} {x y : V} {dx dy : D} {b : Bool} (neg : Bool) {Q : VK} (le : Same F H) (hx : RepB K F H x dx) (hy : RepB K F H y dy) (e : inD dx dy = some b) (q : Q (.bl (if neg then !b else b)) H) : rInU K.K neg x y H Q := by
  have seq : ∀ {ds : List D} {p : Addr} {vs : List V}, y = .ref p → (SqL K.K H p vs ∨ SqT K.K H p vs) → Reps K F vs ds → inF dx ds = some b → rInU K.K neg x y H Q := fun {ds p vs} ey hp hr e => by
    unfold inF at e
    split at e
    · rename_i hc
      cases e
      rw [Bool.and_eq_true] at hc
      have hx' := flatB hx hc.1
      refine .inl ⟨p, vs, ey, hp, flat_rep hx' hc.1, flats_rep hr hc.2, ?_⟩
      rw [inF_rep hx' hc.1 hr hc.2]
      exact q
    · cases e
  unfold inD at e
  split at e
  · rename_i s z
    split at e
    · rename_i ch hs
      cases e
      refine .inr ⟨ch, z, ?_, hy.str, q⟩
      rw [hx.str]
      obtain ⟨⟨l⟩⟩ := s
      have hs' : l = [ch] := hs
      rw [hs']
    · cases e
  · obtain ⟨a, vs, rfl, h1, h2⟩ := hy.lst le
    exact seq rfl (.inl (.inl (.inl h1))) h2 e
  · obtain ⟨a, vs, rfl, h1, h2⟩ := hy.tup le
    exact seq rfl (.inr h1) h2 e
  · cases e
theorem l_in : Lift2 K (rInU K.K false) opIn := by
  intro F H x y dx dy dz Q le hx hy e q
  obtain ⟨b, e1, rfl⟩ := Option.map_eq_some_iff.mp e
  exact in_lift false le hx hy e1 (q (.bl b) H F (Grow.refl le) (.bl b))
theorem l_notIn : Lift2 K (rInU K.K true) opNotIn := by
  intro F H x y dx dy dz Q le hx hy e q
  obtain ⟨b, e1, rfl⟩ := Option.map_eq_some_iff.mp e
  exact in_lift true le hx hy e1 (q (.bl (!b)) H F (Grow.refl le) (.bl (!b)))
theorem atI_rep {F : Hp} {vs : List V} {ds : List D} {i : Int} {d : D} (r : Reps K F vs ds) (e : atI ds i = some d) : ∃ v, atI vs i = some v ∧ Rep K F v d := by
  unfold atI at e ⊢
  obtain ⟨j, h1, h2⟩ := Option.bind_eq_some_iff.mp e
  obtain ⟨v, h3, h4⟩ := r.get h2
  exact ⟨v, by rw [r.length, h1]; exact h3, h4⟩
theorem l_ix : Lift2 K (rIx K.K) opIx := by
  intro F H x y dx dy dz Q le hx hy e q
  unfold opIx at e; split at e
  · obtain ⟨a, vs, rfl, h1, h2⟩ := hx.lst le
    obtain ⟨v, h3, h4⟩ := atI_rep h2 e
    exact .inl ⟨a, vs, _, v, rfl, hy.int, .inl (.inl h1), h3, q v H F (Grow.refl le) h4⟩
  · obtain ⟨a, vs, rfl, h1, h2⟩ := hx.tup le
    obtain ⟨v, h3, h4⟩ := atI_rep h2 e
    exact .inr (.inl ⟨a, vs, _, v, rfl, hy.int, h1, h3, q v H F (Grow.refl le) h4⟩)
  · split at e
    · rename_i hz
      obtain ⟨ch, e1, rfl⟩ := Option.map_eq_some_iff.mp e
      exact .inr (.inr ⟨_, _, ch, hx.str, hy.int, hz, e1, q _ H F (Grow.refl le) (.str _)⟩)
    · cases e
  · cases e
end

section
variable {c : Cc} {X : Cx} {e a b d : Expr} {es : List Expr} {ea eb ed : Ev} {av : Av} {lv : Av} {pos p : Pos}
theorem se_add (ha : SB c X a ea) (hb : SB c X b eb) : SE c X (.BinOp a .Add b pos) (e2 opAdd ea eb) := se_op op_addU l_add ha hb
theorem se_sub (ha : SB c X a ea) (hb : SB c X b eb) : SE c X (.BinOp a .Sub b pos) (e2 opSub ea eb) := se_op op_sub l_sub ha hb
theorem se_mul (ha : SB c X a ea) (hb : SB c X b eb) : SE c X (.BinOp a .Mult b pos) (e2 opMul ea eb) := se_op op_mul l_mul ha hb
theorem se_div (ha : SB c X a ea) (hb : SB c X b eb) : SE c X (.BinOp a .FloorDiv b pos) (e2 opDiv ea eb) := se_op op_fdiv l_div ha hb
theorem se_mod (ha : SB c X a ea) (hb : SB c X b eb) : SE c X (.BinOp a .Mod b pos) (e2 opMod ea eb) := se_op op_mod l_mod ha hb
theorem se_pow (ha : SB c X a ea) (hb : SB c X b eb) : SE c X (.BinOp a .Pow b pos) (e2 opPow ea eb) := se_op op_pow l_pow ha hb
theorem se_neg (ha : SB c X a ea) : SE c X (.UnaryOp .USub a pos) (e1 opNeg ea) := se_un un_neg l_neg ha
theorem se_ix (ha : SB c X a ea) (hb : SB c X b eb) (hs : PlainIx b := by exact fun _ _ => rfl) : SE c X (.Subscript a b pos) (e2 opIx ea eb) :=
  ⟨pe_imp (pe_ix ix_seq ha.pe hb.pe hs) fun σ H Q h => tOp_of (ta := fun _ _ _ => False) (tb := fun _ _ _ => False) l_ix h⟩
theorem se_ltc (ha : SB c X a ea) (hb : SB c X b eb) : SE c X (.Compare a [.Lt] [b] pos) (e2 opLt ea eb) := se_cmp op_lt l_lt ha hb (nomark _)
theorem se_lec (ha : SB c X a ea) (hb : SB c X b eb) : SE c X (.Compare a [.LtE] [b] pos) (e2 opLe ea eb) := se_cmp op_le l_le ha hb (nomark _)
theorem se_gtc (ha : SB c X a ea) (hb : SB c X b eb) : SE c X (.Compare a [.Gt] [b] pos) (e2 opGt ea eb) := se_cmp op_gt l_gt ha hb (nomark _)
theorem se_gec (ha : SB c X a ea) (hb : SB c X b eb) : SE c X (.Compare a [.GtE] [b] pos) (e2 opGe ea eb) := se_cmp op_ge l_ge ha hb (nomark _)
theorem se_eqc (hu : X.A.units + 64 < cLine) (ha : SB c X a ea) (hb : SB c X b eb) : SE c X (.Compare a [.Eq] [b] pos) (e2 opEq ea eb) := se_cmp (op_eqU hu) l_eq ha hb (nomark _)
theorem se_nec (hu : X.A.units + 64 < cLine) (ha : SB c X a ea) (hb : SB c X b eb) : SE c X (.Compare a [.NotEq] [b] pos) (e2 opNe ea eb) := se_cmp (op_neU hu) l_ne ha hb (nomark _)
theorem se_isN (ha : SB c X a ea) (hb : SB c X b eb) : SE c X (.Compare a [.Is] [b] pos) (e2 opIsN ea eb) := se_cmp op_isN l_isN ha hb (nomark _)
theorem se_notN (ha : SB c X a ea) (hb : SB c X b eb) : SE c X (.Compare a [.IsNot] [b] pos) (e2 opNotN ea eb) := se_cmp op_notN l_notN ha hb (nomark _)
theorem se_in (ha : SB c X a ea) (hb : SB c X b eb) (hm : behindInMarks .In b = false := by rfl) : SE c X (.Compare a [.In] [b] pos) (e2 opIn ea eb) := se_cmp op_inU l_in ha hb hm
theorem se_notIn (ha : SB c X a ea) (hb : SB c X b eb) (hm : behindInMarks .NotIn b = false := by rfl) : SE c X (.Compare a [.NotIn] [b] pos) (e2 opNotIn ea eb) := se_cmp op_notInU l_notIn ha hb hm
theorem st_lt (ha : SB c X a ea) (hb : SB c X b eb) : ST c X (.Compare a [.Lt] [b] pos) (tV (e2 opLt ea eb)) := st_cmp op_lt l_lt ha hb (nomark _)
theorem st_le (ha : SB c X a ea) (hb : SB c X b eb) : ST c X (.Compare a [.LtE] [b] pos) (tV (e2 opLe ea eb)) := st_cmp op_le l_le ha hb (nomark _)
theorem st_gt (ha : SB c X a ea) (hb : SB c X b eb) : ST c X (.Compare a [.Gt] [b] pos) (tV (e2 opGt ea eb)) := st_cmp op_gt l_gt ha hb (nomark _)
theorem st_ge (ha : SB c X a ea) (hb : SB c X b eb) : ST c X (.Compare a [.GtE] [b] pos) (tV (e2 opGe ea eb)) := st_cmp op_ge l_ge ha hb (nomark _)
theorem st_eq (hu : X.A.units + 64 < cLine) (ha : SB c X a ea) (hb : SB c X b eb) : ST c X (.Compare a [.Eq] [b] pos) (tV (e2 opEq ea eb)) := st_cmp (op_eqU hu) l_eq ha hb (nomark _)
theorem st_ne (hu : X.A.units + 64 < cLine) (ha : SB c X a ea) (hb : SB c X b eb) : ST c X (.Compare a [.NotEq] [b] pos) (tV (e2 opNe ea eb)) := st_cmp (op_neU hu) l_ne ha hb (nomark _)
theorem st_isN (ha : SB c X a ea) (hb : SB c X b eb) : ST c X (.Compare a [.Is] [b] pos) (tV (e2 opIsN ea eb)) := st_cmp op_isN l_isN ha hb (nomark _)
theorem st_notN (ha : SB c X a ea) (hb : SB c X b eb) : ST c X (.Compare a [.IsNot] [b] pos) (tV (e2 opNotN ea eb)) := st_cmp op_notN l_notN ha hb (nomark _)
theorem st_in (ha : SB c X a ea) (hb : SB c X b eb) (hm : behindInMarks .In b = false := by rfl) : ST c X (.Compare a [.In] [b] pos) (tV (e2 opIn ea eb)) := st_cmp op_inU l_in ha hb hm
theorem st_notIn (ha : SB c X a ea) (hb : SB c X b eb) (hm : behindInMarks .NotIn b = false := by rfl) : ST c X (.Compare a [.NotIn] [b] pos) (tV (e2 opNotIn ea eb)) := st_cmp op_notInU l_notIn ha hb hm
/-- a <= b <= d -/
theorem st_lele (ha : SB c X a ea) (hb : SB c X b eb) (hd : SB c X d ed) (hm : lastMarks [CmpOp.LtE, .LtE] [b, d] = false := by with_unfolding_all rfl) : ST c X (.Compare a [.LtE, .LtE] [b, d] pos) (tV (eCh opLe opLe ea eb ed)) := st_chain op_le op_le l_le l_le ha hb hd hm
theorem st_lelt (ha : SB c X a ea) (hb : SB c X b eb) (hd : SB c X d ed) (hm : lastMarks [CmpOp.LtE, .Lt] [b, d] = false := by with_unfolding_all rfl) : ST c X (.Compare a [.LtE, .Lt] [b, d] pos) (tV (eCh opLe opLt ea eb ed)) := st_chain op_le op_lt l_le l_lt ha hb hd hm
end
end Pu

namespace Pu
open PySem PySem.Spec PyProof.Rows L2

/-! ### built-in functions on data -/
def ints? : List D → Option (List Int)
  | [] => some []
  | .int i :: r => (ints? r).map (i :: ·)
  | _ :: _ => none
@[simp] theorem ints?_map : ∀ ns : List Int, ints? (ns.map D.int) = some ns
  | [] => rfl
  | n :: ns => by show (ints? (ns.map D.int)).map (n :: ·) = _; rw [ints?_map ns]; rfl
theorem ints?_eq : ∀ {ds : List D} {ns : List Int}, ints? ds = some ns → ds = ns.map D.int
  | [], ns, e => by cases e; rfl
  | d :: ds, ns, e => by
    unfold ints? at e
    split at e
    · cases e; rename_i h; cases h
    · rename_i h
      cases h
      obtain ⟨r, e1, e2⟩ := Option.map_eq_some_iff.mp e
      subst e2
      rw [ints?_eq e1]; rfl
    · cases e
def bls? : List D → Option (List Bool)
  | [] => some []
  | .bl i :: r => (bls? r).map (i :: ·)
  | _ :: _ => none
@[simp] theorem bls?_map : ∀ ns : List Bool, bls? (ns.map D.bl) = some ns
  | [] => rfl
  | n :: ns => by show (bls? (ns.map D.bl)).map (n :: ·) = _; rw [bls?_map ns]; rfl
theorem bls?_eq : ∀ {ds : List D} {ns : List Bool}, bls? ds = some ns → ds = ns.map D.bl
  | [], ns, e => by cases e; rfl
  | d :: ds, ns, e => by
    unfold bls? at e
    split at e
    · cases e; rename_i h; cases h
    · rename_i h
      cases h
      obtain ⟨r, e1, e2⟩ := Option.map_eq_some_iff.mp e
      subst e2
      rw [bls?_eq e1]; rfl
    · cases e
def strs? : List D → Option (List Str)
  | [] => some []
  | .str i :: r => (strs? r).map (i :: ·)
  | _ :: _ => none
@[simp] theorem strs?_map : ∀ ns : List Str, strs? (ns.map D.str) = some ns
  | [] => rfl
  | n :: ns => by show (strs? (ns.map D.str)).map (n :: ·) = _; rw [strs?_map ns]; rfl
theorem strs?_eq : ∀ {ds : List D} {ns : List Str}, strs? ds = some ns → ds = ns.map D.str
  | [], ns, e => by cases e; rfl
  | d :: ds, ns, e => by
    unfold strs? at e
    split at e
    · cases e; rename_i h; cases h
    · rename_i h
      cases h
      obtain ⟨r, e1, e2⟩ := Option.map_eq_some_iff.mp e
      subst e2
      rw [strs?_eq e1]; rfl
    · cases e
/-- the greatest, the least -/
def maxL : List Int → Int
  | [] => 0
  | [x] => x
  | x :: y :: r => max x (maxL (y :: r))
def minL : List Int → Int
  | [] => 0
  | [x] => x
  | x :: y :: r => min x (minL (y :: r))
theorem maxL_mem : ∀ {l : List Int}, l ≠ [] → maxL l ∈ l
  | [], h => absurd rfl h
  | [x], _ => by simp [maxL]
  | x :: y :: r, _ => by
    have := maxL_mem (l := y :: r) (by simp)
    unfold maxL
    by_cases h : x ≤ maxL (y :: r)
    · rw [Int.max_eq_right h]; exact List.mem_cons_of_mem _ this
    · rw [Int.max_eq_left (by omega)]; exact List.mem_cons_self
theorem maxL_ge : ∀ {l : List Int} {a : Int}, a ∈ l → a ≤ maxL l
  | [], _, h => by cases h
  | [x], a, h => by rw [List.mem_singleton.mp h]; exact Int.le_refl _
  | x :: y :: r, a, h => by
    unfold maxL
    rcases List.mem_cons.mp h with rfl | h
    · exact Int.le_max_left _ _
    · exact Int.le_trans (maxL_ge h) (Int.le_max_right _ _)
theorem minL_mem : ∀ {l : List Int}, l ≠ [] → minL l ∈ l
  | [], h => absurd rfl h
  | [x], _ => by simp [minL]
  | x :: y :: r, _ => by
    have := minL_mem (l := y :: r) (by simp)
    unfold minL
    by_cases h : x ≤ minL (y :: r)
    · rw [Int.min_eq_left h]; exact List.mem_cons_self
    · rw [Int.min_eq_right (by omega)]; exact List.mem_cons_of_mem _ this
theorem minL_le : ∀ {l : List Int} {a : Int}, a ∈ l → minL l ≤ a
  | [], _, h => by cases h
  | [x], a, h => by rw [List.mem_singleton.mp h]; exact Int.le_refl _
  | x :: y :: r, a, h => by
    unfold minL
    rcases List.mem_cons.mp h with rfl | h
    · exact Int.min_le_left _ _
    · exact Int.le_trans (Int.min_le_right _ _) (minL_le h)
theorem maxL_uniq {l : List Int} {m : Int} (h1 : m ∈ l) (h2 : ∀ a ∈ l, a ≤ m) : m = maxL l := by
  have h3 := maxL_mem (l := l) (fun z => by rw [z] at h1; cases h1)
  have h4 := h2 _ h3
  have h5 := maxL_ge h1
  omega
theorem minL_uniq {l : List Int} {m : Int} (h1 : m ∈ l) (h2 : ∀ a ∈ l, m ≤ a) : m = minL l := by
  have h3 := minL_mem (l := l) (fun z => by rw [z] at h1; cases h1)
  have h4 := h2 _ h3
  have h5 := minL_le h1
  omega
def fLen : List D → Option D
  | [.lst ds] => some (.int ds.length)
  | [.tup ds] => some (.int ds.length)
  | [.scr ns] => some (.int ns.length)
  | [.str s] => if s.length ≤ sizeLine then some (.int s.length) else none
  | _ => none
def fAbs : List D → Option D
  | [.int i] => some (.int (if i < 0 then -i else i))
  | _ => none
def fMax2 : List D → Option D
  | [.int i, .int j] => some (.int (max i j))
  | _ => none
def fMin2 : List D → Option D
  | [.int i, .int j] => some (.int (min i j))
  | _ => none
def fInt : List D → Option D
  | [.int i] => some (.int i)
  | [.bl b] => some (.int (if b then 1 else 0))
  | _ => none
def fSum : List D → Option D
  | [.lst ds] => (ints? ds).map fun ns => .int ns.sum
  | _ => none
def fMaxL : List D → Option D
  | [.lst ds] => (ints? ds).bind fun ns => if ns.isEmpty = true then none else some (.int (maxL ns))
  | _ => none
def fMinL : List D → Option D
  | [.lst ds] => (ints? ds).bind fun ns => if ns.isEmpty = true then none else some (.int (minL ns))
  | _ => none
def fAll : List D → Option D
  | [.lst ds] => (bls? ds).map fun bs => .bl (bs.all id)
  | _ => none
def fAny : List D → Option D
  | [.lst ds] => (bls? ds).map fun bs => .bl (bs.any id)
  | _ => none
def fGcd : List D → Option D
  | [.int i, .int j] => some (.int ((Nat.gcd i.natAbs j.natAbs : Nat) : Int))
  | _ => none
def fJoin : D → List D → Option D
  | .str a, [.lst ds] => (strs? ds).bind fun ys => if (ys.map (·.length)).sum + ys.length * a.length ≤ 16777216 then some (.str (Txt.join a ys)) else none
  | _, _ => none
/-- list(x): a new one -/
def fList : List D → Option (List D)
  | [.lst ds] => some ds
  | [.tup ds] => some ds
  | _ => none
section
variable {K : Kc}
theorem repsB1 {F H : Hp} {xs : List V} {d : D} (h : RepsB K F H xs [d]) : ∃ v, xs = [v] ∧ RepB K F H v d := by
  cases h with
  | cons h r => cases r; exact ⟨_, rfl, h⟩
theorem repsB2 {F H : Hp} {xs : List V} {d e : D} (h : RepsB K F H xs [d, e]) : ∃ v w, xs = [v, w] ∧ RepB K F H v d ∧ RepB K F H w e := by
  cases h with
  | cons h r =>
    obtain ⟨w, rfl, h'⟩ := repsB1 r
    exact ⟨_, _, rfl, h, h'⟩
theorem RepB.scr {F H : Hp} {v : V} {ns : List Int} (le : Same F H) (h : RepB K F H v (.scr ns)) : ∃ a, v = .ref a ∧ SqL K.K H a (ns.map V.int) := by
  rcases h with h | ⟨a, vs, ds', h1, h2, h3, h4⟩
  · cases h with
    | scr h => exact ⟨_, rfl, le.seq h⟩
  · cases h2
theorem l_len : LiftN K (fun xs H Q => ∃ x n, xs = [x] ∧ LenV K.K x H n ∧ Q (.int n) H) fLen := by
  intro F H xs ds dz Q le h e q
  unfold fLen at e; split at e
  · obtain ⟨v, rfl, hv⟩ := repsB1 h
    obtain ⟨a, vs, rfl, h1, h2⟩ := hv.lst le
    cases e
    exact ⟨_, _, rfl, .inl ⟨vs, .inl (.inl h1), h2.length.symm⟩, q _ H F (Grow.refl le) (.int _)⟩
  · obtain ⟨v, rfl, hv⟩ := repsB1 h
    obtain ⟨a, vs, rfl, h1, h2⟩ := hv.tup le
    cases e
    exact ⟨_, _, rfl, .inr ⟨vs, h1, h2.length.symm⟩, q _ H F (Grow.refl le) (.int _)⟩
  · obtain ⟨v, rfl, hv⟩ := repsB1 h
    obtain ⟨a, rfl, h1⟩ := hv.scr le
    cases e
    exact ⟨_, _, rfl, .inl ⟨_, h1, (List.length_map ..).symm⟩, q _ H F (Grow.refl le) (.int _)⟩
  · obtain ⟨v, rfl, hv⟩ := repsB1 h
    split at e
    · rename_i hz
      cases e
      exact ⟨_, _, rfl, by rw [hv.str]; exact ⟨hz, rfl⟩, q _ H F (Grow.refl le) (.int _)⟩
    · cases e
  · cases e
theorem l_abs : LiftN K (fun xs H Q => ∃ i, xs = [.int i] ∧ Q (.int (if i < 0 then -i else i)) H) fAbs := by
  intro F H xs ds dz Q le h e q
  unfold fAbs at e; split at e
  · obtain ⟨v, rfl, hv⟩ := repsB1 h
    cases e
    exact ⟨_, by rw [hv.int], q _ H F (Grow.refl le) (.int _)⟩
  · cases e
theorem l_max2 : LiftN K (fun xs H Q => ∃ i j, xs = [.int i, .int j] ∧ Q (.int (if j > i then j else i)) H) fMax2 := by
  intro F H xs ds dz Q le h e q
  unfold fMax2 at e; split at e
  · rename_i i j
    obtain ⟨v, w, rfl, hv, hw⟩ := repsB2 h
    cases e
    have z : max i j = if j > i then j else i := by
      by_cases hh : j > i
      · rw [if_pos hh]; omega
      · rw [if_neg hh]; omega
    exact ⟨_, _, by rw [hv.int, hw.int], q _ H F (Grow.refl le) (by rw [z]; exact .int _)⟩
  · cases e
theorem l_min2 : LiftN K (fun xs H Q => ∃ i j, xs = [.int i, .int j] ∧ Q (.int (if j < i then j else i)) H) fMin2 := by
  intro F H xs ds dz Q le h e q
  unfold fMin2 at e; split at e
  · rename_i i j
    obtain ⟨v, w, rfl, hv, hw⟩ := repsB2 h
    cases e
    have z : min i j = if j < i then j else i := by
      by_cases hh : j < i
      · rw [if_pos hh]; omega
      · rw [if_neg hh]; omega
    exact ⟨_, _, by rw [hv.int, hw.int], q _ H F (Grow.refl le) (by rw [z]; exact .int _)⟩
  · cases e
theorem l_int : LiftN K (fun xs H Q => (∃ i, xs = [.int i] ∧ Q (.int i) H) ∨ ∃ k, xs = [.bl k] ∧ Q (.int (if k then 1 else 0)) H) fInt := by
  intro F H xs ds dz Q le h e q
  unfold fInt at e; split at e
  · obtain ⟨v, rfl, hv⟩ := repsB1 h
    cases e
    exact .inl ⟨_, by rw [hv.int], q _ H F (Grow.refl le) (.int _)⟩
  · obtain ⟨v, rfl, hv⟩ := repsB1 h
    cases e
    exact .inr ⟨_, by rw [hv.bl], q _ H F (Grow.refl le) (.int _)⟩
  · cases e
theorem l_sum : LiftN K (rSum K.K) fSum := by
  intro F H xs ds dz Q le h e q
  unfold fSum at e; split at e
  · obtain ⟨v, rfl, hv⟩ := repsB1 h
    obtain ⟨a, vs, rfl, h1, h2⟩ := hv.lst le
    obtain ⟨ns, e1, rfl⟩ := Option.map_eq_some_iff.mp e
    have e2 := ints?_eq e1; subst e2
    have e3 := h2.ints; subst e3
    exact ⟨a, ns, rfl, .inl (.inl h1), q _ H F (Grow.refl le) (.int _)⟩
  · cases e
theorem l_maxL : LiftN K (rMax K.K) fMaxL := by
  intro F H xs ds dz Q le h e q
  unfold fMaxL at e; split at e
  · obtain ⟨v, rfl, hv⟩ := repsB1 h
    obtain ⟨a, vs, rfl, h1, h2⟩ := hv.lst le
    obtain ⟨ns, e1, e4⟩ := Option.bind_eq_some_iff.mp e
    have e2 := ints?_eq e1; subst e2
    have e3 := h2.ints; subst e3
    split at e4
    · cases e4
    · rename_i hne
      cases e4
      refine ⟨a, ns, rfl, .inl (.inl h1), ?_, fun m hm hg => ?_⟩
      · cases ns with
        | nil => exact absurd rfl hne
        | cons x r => exact Nat.succ_pos _
      · rw [maxL_uniq hm hg]
        exact q _ H F (Grow.refl le) (.int _)
  · cases e
theorem l_minL : LiftN K (rMin K.K) fMinL := by
  intro F H xs ds dz Q le h e q
  unfold fMinL at e; split at e
  · obtain ⟨v, rfl, hv⟩ := repsB1 h
    obtain ⟨a, vs, rfl, h1, h2⟩ := hv.lst le
    obtain ⟨ns, e1, e4⟩ := Option.bind_eq_some_iff.mp e
    have e2 := ints?_eq e1; subst e2
    have e3 := h2.ints; subst e3
    split at e4
    · cases e4
    · rename_i hne
      cases e4
      refine ⟨a, ns, rfl, .inl (.inl h1), ?_, fun m hm hg => ?_⟩
      · cases ns with
        | nil => exact absurd rfl hne
        | cons x r => exact Nat.succ_pos _
      · rw [minL_uniq hm hg]
        exact q _ H F (Grow.refl le) (.int _)
  · cases e
theorem l_all : LiftN K (rAll K.K) fAll := by
  intro F H xs ds dz Q le h e q
  unfold fAll at e; split at e
  · obtain ⟨v, rfl, hv⟩ := repsB1 h
    obtain ⟨a, vs, rfl, h1, h2⟩ := hv.lst le
    obtain ⟨ns, e1, rfl⟩ := Option.map_eq_some_iff.mp e
    have e2 := bls?_eq e1; subst e2
    have e3 := h2.bls; subst e3
    exact ⟨a, ns, rfl, .inl (.inl h1), q _ H F (Grow.refl le) (.bl _)⟩
  · cases e
theorem l_any : LiftN K (rAny K.K) fAny := by
  intro F H xs ds dz Q le h e q
  unfold fAny at e; split at e
  · obtain ⟨v, rfl, hv⟩ := repsB1 h
    obtain ⟨a, vs, rfl, h1, h2⟩ := hv.lst le
    obtain ⟨ns, e1, rfl⟩ := Option.map_eq_some_iff.mp e
    have e2 := bls?_eq e1; subst e2
    have e3 := h2.bls; subst e3
    exact ⟨a, ns, rfl, .inl (.inl h1), q _ H F (Grow.refl le) (.bl _)⟩
  · cases e
theorem l_gcd : LiftN K rGcd fGcd := by
  intro F H xs ds dz Q le h e q
  unfold fGcd at e; split at e
  · obtain ⟨v, w, rfl, hv, hw⟩ := repsB2 h
    cases e
    exact ⟨_, _, by rw [hv.int, hw.int], q _ H F (Grow.refl le) (.int _)⟩
  · cases e

end

section
variable {c : Cc} {X : Cx} {e a b d : Expr} {es : List Expr} {ea eb ed : Ev} {av : Av} {lv : Av} {pos p : Pos} {x : Str} {id T : String} {r : List V → Hp → VK → Prop} {g : List D → Option D}
theorem tCB_of (l : LiftN (X.kc c) r g) {σ : Sg} {H : Hp} {Q : VK} (h : tE (X.kc c) c (eF g av) σ H Q) : tCB r (tAB (X.kc c) c av) σ H Q := by
  obtain ⟨F, ρ, rl, q⟩ := h
  refine tG_bind rl q fun xs ds H1 F1 g1 rl1 rx q1 => ?_
  obtain ⟨dz, e, q3⟩ := finOf q1
  exact l rl1.le rx e q3
theorem se_callB (hc : CallR X (.builtin id) r) (l : LiftN (X.kc c) r g) (hg : Gl X x) (hm : X.mg x = none) (hv : bootBuiltins x = some (.builtin id)) (ha : SAB c X (e :: es) av) (hn : x ≠ "__name__" := by decide) (hdb : (x == ("__debug__" : Str)) = false := by decide)
    (he : starEach (e :: es) X.env = (false, eval e X.env) :: starEach es X.env := by rfl) (hpl : (backTo pos (starEach es X.env)).any (·.1) = false := by rfl) : SE c X (.Call (.Name x p) (e :: es) [] pos) (eF g av) :=
  ⟨pe_imp (pe_callB hc hg hm hv ha.pa hn hdb he hpl) fun σ H Q h => tCB_of l h⟩
theorem se_callTy (hc : CallR X (.type T) r) (l : LiftN (X.kc c) r g) (hg : Gl X x) (hm : X.mg x = none) (hv : bootBuiltins x = some (.type T)) (ha : SAB c X (e :: es) av) (hn : x ≠ "__name__" := by decide) (hdb : (x == ("__debug__" : Str)) = false := by decide)
    (he : starEach (e :: es) X.env = (false, eval e X.env) :: starEach es X.env := by rfl) (hpl : (backTo pos (starEach es X.env)).any (·.1) = false := by rfl) : SE c X (.Call (.Name x p) (e :: es) [] pos) (eF g av) :=
  ⟨pe_imp (pe_callTy hc hg hm hv ha.pa hn hdb he hpl) fun σ H Q h => tCB_of l h⟩
theorem se_callBf (hc : CallR X (.builtin id) r) (l : LiftN (X.kc c) r g) (hg : Gl X x) (hm : X.mg x = some (.builtin id)) (ha : SAB c X (e :: es) av) (hdb : (x == ("__debug__" : Str)) = false := by decide)
    (he : starEach (e :: es) X.env = (false, eval e X.env) :: starEach es X.env := by rfl) (hpl : (backTo pos (starEach es X.env)).any (·.1) = false := by rfl) : SE c X (.Call (.Name x p) (e :: es) [] pos) (eF g av) :=
  ⟨pe_imp (pe_callBfun hc hg hm ha.pa hdb he hpl) fun σ H Q h => tCB_of l h⟩
theorem se_len (hg : Gl X "len") (hm : X.mg "len" = none) (ha : SAB c X (e :: es) av) (he : starEach (e :: es) X.env = (false, eval e X.env) :: starEach es X.env := by rfl) (hpl : (backTo pos (starEach es X.env)).any (·.1) = false := by rfl) :
    SE c X (.Call (.Name "len" p) (e :: es) [] pos) (eF fLen av) := se_callB call_len l_len hg hm (by decide +kernel) ha (by decide) (by decide) he hpl
end
end Pu

namespace Pu
open PySem PySem.Spec PyProof.Rows L2

/-! ### a new object added to the heap alone -/
theorem SlotOk.hmono {K : Kc} {n : Nat} {oa : Nat → Option Addr} {F H H' : Hp} {x : Option (Option V)} {o : Option Addr} (g : Same H H') : ∀ {s : Slot}, SlotOk K n F H oa x o s → SlotOk K n F H' oa x o s
  | .un, h => h
  | .val d, h => h
  | .own ds, ⟨a, vs, h1, h2, h3, h4⟩ => ⟨a, vs, h1, h2, g _ _ h3, h4⟩
  | .ob C fs, ⟨a, dx, fv, h1, h2, h3, h4⟩ => ⟨a, dx, fv, h1, h2, g _ _ h3, h4⟩
  | .own2 js, ⟨a, ps, h1, h2, h3, h4⟩ => ⟨a, ps, h1, h2, g _ _ h3, h4⟩
  | .al j, h => h
  | .ins C fs, ⟨a, dx, fv, h1, h2, h3, h4⟩ => ⟨a, dx, fv, h1, h2, g _ _ h3, h4⟩
theorem Rel.hmono {K : Kc} {c : Cc} {F H H' : Hp} {ρ : PEnv} {σ : Sg} (r : Rel K c F ρ σ H) (g : Same H H') : Rel K c F ρ σ H' := by
  obtain ⟨oa, h1, h2, h3, h4⟩ := r.sl
  exact ⟨r.b.trans g, r.f0, r.le.trans g, r.nw, r.len, r.len2, oa, fun i s e => (h1 i s e).hmono g, h2, h3, h4⟩
def oaSet (oa : Nat → Option Addr) (i : Nat) (o : Option Addr) : Nat → Option Addr := fun j => if j = i then o else oa j
theorem oaSet_same {oa : Nat → Option Addr} {i : Nat} {o : Option Addr} : oaSet oa i o i = o := if_pos rfl
theorem oaSet_ne {oa : Nat → Option Addr} {i j : Nat} {o : Option Addr} (h : ¬ j = i) : oaSet oa i o j = oa j := if_neg h
theorem oaSet_far {oa : Nat → Option Addr} {n i : Nat} {o : Option Addr} (h : i < n) : ∀ j, n ≤ j → (oa j).isSome = true → oaSet oa i o j = oa j := fun j l _ => oaSet_ne (by omega)
/-- slots set to a value that never changes, or to nothing -/
theorem Rel.setV {K : Kc} {c : Cc} {F H : Hp} {ρ : PEnv} {σ : Sg} {i : Nat} {s : Slot} {x : Option V} (r : Rel K c F ρ σ H) (hi : ∀ a, c.io ≠ some (i, a)) (hl : i < c.n)
    (hs : ∀ oa, (∀ i s, ρ[i]? = some s → SlotOk K c.n F H oa σ[i]? (oa i) s) → SlotOk K c.n F H oa (some x) none s) : Rel K c F (ρ.set i s) (σ.set i x) H := by
  obtain ⟨oa, h1, h2, h3, h4⟩ := r.sl
  refine ⟨r.b, r.f0, r.le, r.nw, by simp [r.len], by simp [r.len2], oaSet oa i none, fun j t e => ?_, fun j k a e1 e2 => ?_, fun j a e => ?_, fun j a e => ?_⟩
  · by_cases q : j = i
    · subst q
      rw [List.getElem?_set_self (Nat.lt_of_lt_of_le hl r.len2)] at e
      cases e
      rw [oaSet_same, List.getElem?_set_self (by rw [r.len]; exact hl)]
      exact (hs oa h1).oaNe (oaSet_far hl)
    · rw [List.getElem?_set_ne (Ne.symm q)] at e
      rw [oaSet_ne q, List.getElem?_set_ne (Ne.symm q)]
      exact (h1 j t e).oaNe (oaSet_far hl)
  · by_cases q : j = i
    · rw [q, oaSet_same] at e1; cases e1
    · by_cases q' : k = i
      · rw [q', oaSet_same] at e2; cases e2
      · rw [oaSet_ne q] at e1; rw [oaSet_ne q'] at e2; exact h2 j k a e1 e2
  · by_cases q : j = i
    · rw [q, oaSet_same] at e; cases e
    · rw [oaSet_ne q] at e
      obtain ⟨f, b, l⟩ := h3 j a e
      exact ⟨f, b, by simpa using l⟩
  · have q : j ≠ i := fun z => Cc.pin_ne hi hl (by rw [← z]; exact e)
    rw [oaSet_ne q]; exact h4 j a e
theorem Rel.set {K : Kc} {c : Cc} {F H : Hp} {ρ : PEnv} {σ : Sg} {i : Nat} {d : D} {v : V} (r : Rel K c F ρ σ H) (hi : ∀ a, c.io ≠ some (i, a)) (hl : i < c.n) (h : Rep K F v d) : Rel K c F (ρ.set i (.val d)) (σ.set i (some v)) H :=
  r.setV hi hl fun _ _ => ⟨rfl, v, rfl, h⟩
def wipeR (ρ : PEnv) : List Nat → PEnv
  | [] => ρ
  | v :: vs => (wipeR ρ vs).set v .un
theorem Rel.wipe {K : Kc} {c : Cc} {F H : Hp} {ρ : PEnv} {σ : Sg} (r : Rel K c F ρ σ H) : ∀ vs : List Nat, (∀ i ∈ vs, ∀ a, c.io ≠ some (i, a)) → (∀ i ∈ vs, i < c.n) → Rel K c F (wipeR ρ vs) (wipe σ vs) H
  | [], _, _ => r
  | v :: vs, h, g => (Rel.wipe r vs (fun i hi => h i (List.mem_cons_of_mem _ hi)) fun i hi => g i (List.mem_cons_of_mem _ hi)).setV (h v List.mem_cons_self) (g v List.mem_cons_self) fun _ _ => rfl
theorem Rel.noa {K : Kc} {c : Cc} {F H : Hp} {ρ : PEnv} {σ : Sg} {oa : Nat → Option Addr} (h1 : ∀ i s, ρ[i]? = some s → SlotOk K c.n F H oa σ[i]? (oa i) s) {p : Addr} (n : H p = none) : ∀ j a, oa j = some a → j < ρ.length → a ≠ p := fun j a e l z => by
  subst z
  obtain ⟨u, hu⟩ := (h1 j _ (List.getElem?_eq_getElem l)).there e
  rw [n] at hu; cases hu
/-- a slot gets a new list of its own -/
theorem Rel.setOwnG {K : Kc} {c : Cc} {F H : Hp} {ρ : PEnv} {σ : Sg} {i : Nat} {s : Slot} {vs : List V} {p : Addr} (r : Rel K c F ρ σ H) (hi : ∀ a, c.io ≠ some (i, a)) (hl : i < c.n) (n : H p = none)
    (h : ∀ oa, (∀ i s, ρ[i]? = some s → SlotOk K c.n F H oa σ[i]? (oa i) s) → SlotOk K c.n F (upd H p (.lst vs)) oa (some (some (.ref p))) (some p) s) :
    Rel K c F (ρ.set i s) (σ.set i (some (.ref p))) (upd H p (.lst vs)) := by
  have r' := r.hmono (same_upd (o := .lst vs) n)
  obtain ⟨oa, h1, h2, h3, h4⟩ := r.sl
  have np := Rel.noa h1 n
  have hl' : i < ρ.length := Nat.lt_of_lt_of_le hl r.len2
  refine ⟨r'.b, r'.f0, r'.le, r'.nw, by simp [r'.len], by simp [r'.len2], oaSet oa i (some p), fun j t e => ?_, fun j k a e1 e2 => ?_, fun j a e => ?_, fun j a e => ?_⟩
  · by_cases q : j = i
    · subst q
      rw [List.getElem?_set_self hl'] at e
      cases e
      rw [oaSet_same, List.getElem?_set_self (by rw [r.len]; exact hl)]
      exact (h oa h1).oaNe (oaSet_far hl)
    · rw [List.getElem?_set_ne (Ne.symm q)] at e
      rw [oaSet_ne q, List.getElem?_set_ne (Ne.symm q)]
      exact ((h1 j t e).hmono (same_upd n)).oaNe (oaSet_far hl)
  · by_cases q : j = i
    · rw [q, oaSet_same] at e1; cases e1
      by_cases q' : k = i
      · rw [q, q']
      · rw [oaSet_ne q'] at e2; exact absurd rfl (np k p e2 (h3 k p e2).2.2)
    · rw [oaSet_ne q] at e1
      by_cases q' : k = i
      · rw [q', oaSet_same] at e2; cases e2; exact absurd rfl (np j p e1 (h3 j p e1).2.2)
      · rw [oaSet_ne q'] at e2; exact h2 j k a e1 e2
  · by_cases q : j = i
    · rw [q, oaSet_same] at e; cases e
      exact ⟨r.le.free n, r.b.free n, by simpa [q] using hl'⟩
    · rw [oaSet_ne q] at e
      obtain ⟨f, b, l⟩ := h3 j a e
      exact ⟨f, b, by simpa using l⟩
  · have q : j ≠ i := fun z => Cc.pin_ne hi hl (by rw [← z]; exact e)
    rw [oaSet_ne q]; exact h4 j a e
theorem Rel.setOwn {K : Kc} {c : Cc} {F H : Hp} {ρ : PEnv} {σ : Sg} {i : Nat} {ds : List D} {vs : List V} {p : Addr} (r : Rel K c F ρ σ H) (hi : ∀ a, c.io ≠ some (i, a)) (hl : i < c.n) (n : H p = none) (h : Reps K F vs ds) :
    Rel K c F (ρ.set i (.own ds)) (σ.set i (some (.ref p))) (upd H p (.lst vs)) :=
  r.setOwnG hi hl n fun _ _ => ⟨p, vs, rfl, .inr rfl, upd_same, h⟩
/-- a list of one's own is changed -/
theorem Rel.putOwnG {K : Kc} {c : Cc} {F H : Hp} {ρ : PEnv} {σ : Sg} {i : Nat} {ds ds' : List D} {vs' : List V} {a : Addr} (r : Rel K c F ρ σ H) (e : ρ[i]? = some (.own ds))
    (ea : ∀ oa, (∀ i s, ρ[i]? = some s → SlotOk K c.n F H oa σ[i]? (oa i) s) → oa i = some a) (h : Reps K F vs' ds') :
    Rel K c F (ρ.set i (.own ds')) σ (upd H a (.lst vs')) := by
  obtain ⟨oa, h1, h2, h3, h4⟩ := r.sl
  obtain ⟨b, ws, o1, o2, o3, o4⟩ := h1 i _ e
  have o1' := ea oa h1
  rw [o1] at o1'; cases o1'
  have hl : i < ρ.length := (List.getElem?_eq_some_iff.mp e).1
  obtain ⟨f, bb, _⟩ := h3 i a o1
  have oth : ∀ {Z : Hp}, Z a = none → Same Z H → Same Z (upd H a (.lst vs')) := fun {Z} z s x o q => by
    by_cases w : x = a
    · subst w; rw [z] at q; cases q
    · rw [upd_ne w]; exact s x o q
  refine ⟨oth bb r.b, r.f0, oth f r.le, r.nw, r.len, by simp [r.len2], oa, fun j t q => ?_, h2, fun j x q => ?_, h4⟩
  · by_cases w : j = i
    · subst w
      rw [List.getElem?_set_self hl] at q; cases q
      exact ⟨a, vs', o1, o2, upd_same, h⟩
    · rw [List.getElem?_set_ne (Ne.symm w)] at q
      have o := h1 j t q
      cases t with
      | un => exact o
      | val d => exact o
      | al k => exact o
      | own ds2 =>
        obtain ⟨x, us, p1, p2, p3, p4⟩ := o
        have nx : x ≠ a := fun z => w (h2 j i a (by rw [← z]; exact p1) o1)
        exact ⟨x, us, p1, p2, by rw [upd_ne nx]; exact p3, p4⟩
      | own2 js =>
        obtain ⟨x, us, p1, p2, p3, p4⟩ := o
        have nx : x ≠ a := fun z => w (h2 j i a (by rw [← z]; exact p1) o1)
        exact ⟨x, us, p1, p2, by rw [upd_ne nx]; exact p3, p4⟩
      | ins C fs =>
        obtain ⟨x, dx2, us, p1, p2, p3, p4⟩ := o
        have nx : x ≠ a := fun z => w (h2 j i a (by rw [← z]; exact p1) o1)
        exact ⟨x, dx2, us, p1, p2, by rw [upd_ne nx]; exact p3, p4⟩
      | ob C fs =>
        obtain ⟨x, dx, us, p1, p2, p3, p4⟩ := o
        have nx : x ≠ a := fun z => w (h2 j i a (by rw [← z]; exact p1) o1)
        exact ⟨x, dx, us, p1, p2, by rw [upd_ne nx]; exact p3, p4⟩
  · obtain ⟨f', b', l'⟩ := h3 j x q
    exact ⟨f', b', by simpa using l'⟩
theorem Rel.putOwn {K : Kc} {c : Cc} {F H : Hp} {ρ : PEnv} {σ : Sg} {i : Nat} {ds ds' : List D} {vs' : List V} {a : Addr} (r : Rel K c F ρ σ H) (e : ρ[i]? = some (.own ds)) (ea : σ[i]? = some (some (.ref a))) (h : Reps K F vs' ds') :
    Rel K c F (ρ.set i (.own ds')) σ (upd H a (.lst vs')) := r.putOwnG e (fun oa h1 => by
  obtain ⟨b, ws, o1, o2, o3, o4⟩ := h1 i _ e
  rw [ea] at o2
  rcases o2 with o2 | o2
  · cases o2
  · cases o2; exact o1) h
/-- an instance of one's own is changed -/
theorem Rel.putOb {K : Kc} {c : Cc} {F H : Hp} {ρ : PEnv} {σ : Sg} {i C : Nat} {fs fs' : List (Str × D)} {fv' : List (Str × V)} {a dx : Addr} (r : Rel K c F ρ σ H) (e : ρ[i]? = some (.ob C fs)) (ea : σ[i]? = some (some (.ref a))) (h : RepF K F fv' fs') :
    Rel K c F (ρ.set i (.ob C fs')) σ (upd H a (.ins (K.cm C) dx fv')) := by
  obtain ⟨oa, h1, h2, h3, h4⟩ := r.sl
  obtain ⟨b, dx0, ws, o1, o2, o3, o4⟩ := h1 i _ e
  rw [ea] at o2; cases o2
  have hl : i < ρ.length := (List.getElem?_eq_some_iff.mp e).1
  obtain ⟨f, bb, _⟩ := h3 i a o1
  have oth : ∀ {Z : Hp}, Z a = none → Same Z H → Same Z (upd H a (.ins (K.cm C) dx fv')) := fun {Z} z s x o q => by
    by_cases w : x = a
    · subst w; rw [z] at q; cases q
    · rw [upd_ne w]; exact s x o q
  refine ⟨oth bb r.b, r.f0, oth f r.le, r.nw, r.len, by simp [r.len2], oa, fun j t q => ?_, h2, fun j x q => ?_, h4⟩
  · by_cases w : j = i
    · subst w
      rw [List.getElem?_set_self hl] at q; cases q
      exact ⟨a, dx, fv', o1, ea, upd_same, h⟩
    · rw [List.getElem?_set_ne (Ne.symm w)] at q
      have o := h1 j t q
      cases t with
      | un => exact o
      | val d => exact o
      | al k => exact o
      | own2 js =>
        obtain ⟨x, us, p1, p2, p3, p4⟩ := o
        have nx : x ≠ a := fun z => w (h2 j i a (by rw [← z]; exact p1) o1)
        exact ⟨x, us, p1, p2, by rw [upd_ne nx]; exact p3, p4⟩
      | ins C fs =>
        obtain ⟨x, dx2, us, p1, p2, p3, p4⟩ := o
        have nx : x ≠ a := fun z => w (h2 j i a (by rw [← z]; exact p1) o1)
        exact ⟨x, dx2, us, p1, p2, by rw [upd_ne nx]; exact p3, p4⟩
      | own ds2 =>
        obtain ⟨x, us, p1, p2, p3, p4⟩ := o
        have nx : x ≠ a := fun z => w (h2 j i a (by rw [← z]; exact p1) o1)
        exact ⟨x, us, p1, p2, by rw [upd_ne nx]; exact p3, p4⟩
      | ob C fs =>
        obtain ⟨x, dx2, us, p1, p2, p3, p4⟩ := o
        have nx : x ≠ a := fun z => w (h2 j i a (by rw [← z]; exact p1) o1)
        exact ⟨x, dx2, us, p1, p2, by rw [upd_ne nx]; exact p3, p4⟩
  · obtain ⟨f', b', l'⟩ := h3 j x q
    exact ⟨f', b', by simpa using l'⟩
/-- a list of one's own is told to change no more -/
def frz (i : Nat) (ρ : PEnv) : PEnv := match ρ[i]? with
  | some (.own ds) => ρ.set i (.val (.lst ds))
  | _ => ρ
theorem Rel.freeze {K : Kc} {c : Cc} {F H : Hp} {ρ : PEnv} {σ : Sg} {i : Nat} (r : Rel K c F ρ σ H) (hi : ∀ a, c.io ≠ some (i, a)) (hn : i < c.n) : ∃ F', Same F F' ∧ Rel K c F' (frz i ρ) σ H := by
  unfold frz
  split
  · rename_i ds e
    obtain ⟨oa, h1, h2, h3, h4⟩ := r.sl
    obtain ⟨a, vs, o1, o2, o3, o4⟩ := h1 i _ e
    have hl : i < ρ.length := (List.getElem?_eq_some_iff.mp e).1
    obtain ⟨f, bb, _⟩ := h3 i a o1
    have m : Same F (upd F a (.lst vs)) := same_upd f
    refine ⟨upd F a (.lst vs), m, r.b, r.f0.trans m, fun x o q => ?_, fun x o q => ?_, r.len, by simp [r.len2], oaSet oa i none, fun j t q => ?_, fun j k x e1 e2 => ?_, fun j x q => ?_, fun j x q => ?_⟩
    · by_cases w : x = a
      · subst w; rw [upd_same] at q; cases q; exact o3
      · rw [upd_ne w] at q; exact r.le x o q
    · by_cases w : x = a
      · subst w; exact .inr bb
      · rw [upd_ne w] at q; exact r.nw x o q
    · by_cases w : j = i
      · subst w
        rw [List.getElem?_set_self hl] at q; cases q
        rw [oaSet_same]
        refine ⟨rfl, .ref a, o2.resolve_left fun z => ?_, .lst upd_same (o4.mono m)⟩
        have := List.getElem?_eq_none_iff.mp z
        have := r.len
        omega
      · rw [List.getElem?_set_ne (Ne.symm w)] at q
        rw [oaSet_ne w]
        have o := (h1 j t q).oaNe (oaSet_far (o := none) hn)
        cases t with
        | un => exact o
        | al k => exact o
        | own2 js => exact o
        | ins C fs =>
          obtain ⟨x, dx2, us, p1, p2, p3, p4⟩ := o
          exact ⟨x, dx2, us, p1, p2, p3, p4.mono m fun _ _ e => e⟩
        | val d => exact ⟨o.1, o.2.choose, o.2.choose_spec.1, o.2.choose_spec.2.mono m⟩
        | own ds2 =>
          obtain ⟨x, us, p1, p2, p3, p4⟩ := o
          exact ⟨x, us, p1, p2, p3, p4.mono m⟩
        | ob C fs =>
          obtain ⟨x, dx2, us, p1, p2, p3, p4⟩ := o
          exact ⟨x, dx2, us, p1, p2, p3, p4.mono m⟩
    · by_cases q : j = i
      · rw [q, oaSet_same] at e1; cases e1
      · by_cases q' : k = i
        · rw [q', oaSet_same] at e2; cases e2
        · rw [oaSet_ne q] at e1; rw [oaSet_ne q'] at e2; exact h2 j k x e1 e2
    · by_cases w : j = i
      · rw [w, oaSet_same] at q; cases q
      · rw [oaSet_ne w] at q
        obtain ⟨f', b', l'⟩ := h3 j x q
        refine ⟨?_, b', by simpa using l'⟩
        have nx : x ≠ a := fun z => w (h2 j i a (by rw [← z]; exact q) o1)
        rw [upd_ne nx]; exact f'
    · have w : j ≠ i := fun z => Cc.pin_ne hi hn (by rw [← z]; exact q)
      rw [oaSet_ne w]; exact h4 j x q
  · exact ⟨F, Same.refl F, r⟩

end Pu

namespace Pu
open PySem PySem.Spec PyProof.Rows L2
/-! ### targets -/
abbrev Gv := D → PEnv → Option PEnv
def gN (i : Nat) : Gv := fun d ρ => some (ρ.set i (.val d))
def gTs : List Nat → List D → PEnv → Option PEnv
  | [], [], ρ => some ρ
  | i :: is, d :: ds, ρ => gTs is ds (ρ.set i (.val d))
  | _, _, _ => none
def gT (is : List Nat) : Gv := fun d ρ => match d with
  | .tup ds => gTs is ds ρ
  | _ => none
/-- what a target does: the slots ix alone are touched -/
def tGt (K : Kc) (c : Cc) (ix : List Nat) (g : Gv) : TG := fun v σ H Q => ∃ F ρ d ρ', Rel K c F ρ σ H ∧ Rep K F v d ∧ g d ρ = some ρ' ∧ ∀ σ', Rel K c F ρ' σ' H → wipe σ' ix = wipe σ ix → Q σ' H
def tGts (K : Kc) (c : Cc) (is : List Nat) : TGs := fun vs σ H Q => ∃ F ρ ds ρ', Rel K c F ρ σ H ∧ Reps K F vs ds ∧ gTs is ds ρ = some ρ' ∧ ∀ σ', Rel K c F ρ' σ' H → wipe σ' is = wipe σ is → Q σ' H
theorem pg_imp {X : Cx} {e : Expr} {t t' : TG} (h : PG X e t) (i : ∀ v σ H Q, t' v σ H Q → t v σ H Q) : PG X e t' := ⟨fun pins s σ H v u Q I r q => h.run pins s σ H v u Q I r (i v σ H Q q)⟩
theorem pgs_imp {X : Cx} {e : List Expr} {t t' : TGs} (h : PGs X e t) (i : ∀ v σ H Q, t' v σ H Q → t v σ H Q) : PGs X e t' := ⟨fun pins s σ H v u Q I r q => h.run pins s σ H v u Q I r (i v σ H Q q)⟩
structure SG (c : Cc) (X : Cx) (tg : Expr) (ix : List Nat) (g : Gv) : Prop where
  io : ∀ i ∈ ix, ∀ a, c.io ≠ some (i, a)
  lt : ∀ i ∈ ix, i < c.n
  pg : PG X tg (tGt (X.kc c) c ix g)
structure SGs (c : Cc) (X : Cx) (tgs : List Expr) (is : List Nat) : Prop where
  io : ∀ i ∈ is, ∀ a, c.io ≠ some (i, a)
  lt : ∀ i ∈ is, i < c.n
  pg : PGs X tgs (tGts (X.kc c) c is)
theorem wipe_get (σ : Sg) : ∀ (vs : List Nat) (j : Nat), (wipe σ vs)[j]? = if j ∈ vs ∧ j < σ.length then some none else σ[j]?
  | [], j => by simp [wipe]
  | v :: vs, j => by
    unfold wipe
    rw [List.getElem?_set, wipe_length, wipe_get σ vs j]
    by_cases e : v = j
    · subst e
      by_cases l : v < σ.length
      · simp [l]
      · simp [l]
    · have e' : j ≠ v := fun z => e z.symm
      simp [e, e']
theorem wipe_ext {σ σ' : Sg} {vs : List Nat} (hl : σ.length = σ'.length) (h : ∀ j, j ∉ vs → σ[j]? = σ'[j]?) : wipe σ vs = wipe σ' vs := by
  apply List.ext_getElem?
  intro j
  rw [wipe_get, wipe_get, hl]
  by_cases e : j ∈ vs
  · by_cases l : j < σ'.length
    · simp [e, l]
    · have l' : ¬ j < σ.length := by omega
      rw [if_neg (fun z => l z.2), if_neg (fun z => l z.2), List.getElem?_eq_none_iff.mpr (Nat.le_of_not_lt l'), List.getElem?_eq_none_iff.mpr (Nat.le_of_not_lt l)]
  · simp [e]; exact h j e
theorem wipe_out {σ σ' : Sg} {vs : List Nat} (h : wipe σ vs = wipe σ' vs) (j : Nat) (hj : j ∉ vs) : σ[j]? = σ'[j]? := by
  have q := congrArg (·[j]?) h
  simp only [wipe_get] at q
  simpa [hj] using q
theorem wipe_wipe (σ : Sg) (vs : List Nat) : wipe (wipe σ vs) vs = wipe σ vs := by
  refine wipe_ext (wipe_length σ vs) fun j hj => ?_
  rw [wipe_get]
  simp [hj]
theorem wipe_len {σ σ' : Sg} {vs : List Nat} (h : wipe σ vs = wipe σ' vs) : σ.length = σ'.length := by
  have q := congrArg List.length h
  rwa [wipe_length, wipe_length] at q
section
variable {c : Cc} {X : Cx} {e a b d tg iter : Expr} {es : List Expr} {ea eb ed : Ev} {av : Av} {lv : Av} {pos p : Pos} {x : Str}
theorem sg_name {i : Nat} {x : Str} (hN : X.N.Nodup) (hi : X.N[i]? = some x := by rfl) (hx : Loc X.env.scope x := by first | exact Or.inl rfl | exact Or.inr rfl) (io : ∀ a, c.io ≠ some (i, a) := by intro _ h; cases h)
    (hf : X.fn x = true ∨ X.env.scope.names.lookup x = some .local := by first | exact .inl rfl | exact .inr rfl | assumption) (hn : c.n = X.N.length := by rfl) : SG c X (.Name x p) [i] (gN i) := by
  have hl : i < c.n := lt_n hn hi
  refine ⟨fun j hj => by rw [List.mem_singleton.mp hj]; exact io, fun j hj => by rw [List.mem_singleton.mp hj]; exact hl, pg_imp (pg_name hN hi hx hf) fun v σ H Q ⟨F, ρ, d, ρ', r, rp, eg, k⟩ => ?_⟩
  cases eg
  refine k _ (r.set io hl rp) (wipe_ext (by simp) fun j hj => ?_)
  have hj' : j ≠ i := fun z => hj (by simp [z])
  rw [List.getElem?_set_ne (Ne.symm hj')]
theorem sgs_nil : SGs c X [] [] := ⟨fun _ h => (nomatch h), fun _ h => (nomatch h), pgs_imp pgs_nil fun vs σ H Q ⟨F, ρ, ds, ρ', r, rp, eg, k⟩ => by
  cases rp with
  | nil => cases eg; exact ⟨rfl, k σ r rfl⟩
  | cons _ _ => cases eg⟩
theorem sgs_cons {i : Nat} {is : List Nat} (h : SG c X e [i] (gN i)) (t : SGs c X es is) (hs : (assignEach (e :: es) X.env).map (·.2) = assign e X.env :: (assignEach es X.env).map (·.2) := by rfl) : SGs c X (e :: es) (i :: is) := by
  refine ⟨fun j hj => ?_, fun j hj => ?_, pgs_imp (pgs_cons h.pg t.pg hs) fun vs σ H Q ⟨F, ρ, ds, ρ', r, rp, eg, k⟩ => ?_⟩
  · rcases List.mem_cons.mp hj with z | z
    · rw [z]; exact h.io i List.mem_cons_self
    · exact t.io j z
  · rcases List.mem_cons.mp hj with z | z
    · rw [z]; exact h.lt i List.mem_cons_self
    · exact t.lt j z
  · cases rp with
    | nil => cases eg
    | @cons v vs d ds rp rps =>
      refine ⟨v, vs, rfl, F, ρ, d, ρ.set i (.val d), r, rp, rfl, fun σ' r' w => ?_⟩
      refine ⟨F, _, ds, ρ', r', rps, eg, fun σ2 r2 w2 => k σ2 r2 ?_⟩
      refine wipe_ext ((wipe_len w2).trans (wipe_len w)) fun j hj => ?_
      rw [wipe_out w2 j (fun z => hj (List.mem_cons_of_mem _ z)), wipe_out w j (fun z => hj (by rw [List.mem_singleton.mp z]; exact List.mem_cons_self))]
theorem gTs_len : ∀ {is : List Nat} {ds : List D} {ρ : PEnv} {ρ' : PEnv}, gTs is ds ρ = some ρ' → ds.length = is.length
  | [], [], _, _, _ => rfl
  | [], _ :: _, _, _, e => by cases e
  | _ :: _, [], _, _, e => by cases e
  | i :: is, d :: ds, ρ, ρ', e => congrArg Nat.succ (gTs_len (is := is) (ds := ds) (ρ := ρ.set i (.val d)) e)
theorem sg_tup {is : List Nat} {k : Nat} (hc : X.calm = true) (h : SGs c X es is) (n : Nat) (hl : is.length = n := by rfl)
    (hn : (assignEach es X.env).length = n := by rfl) (hst : (assignEach es X.env).findIdx? (·.1) = none := by rfl) : SG c X (.Tuple es k pos) is (gT is) := by
  refine ⟨h.io, h.lt, pg_imp (pg_tup hc h.pg hn hst) fun v σ H Q ⟨F, ρ, d, ρ', r, rp, eg, kk⟩ => ?_⟩
  cases d with
  | tup ds =>
    cases rp with
    | @tup a vs ds hs rps =>
      exact ⟨a, vs, rfl, same_seqT r.le hs, by rw [rps.length, gTs_len eg]; exact hl, F, ρ, ds, ρ', r, rps, eg, kk⟩
  | _ => cases eg
end
end Pu

namespace Pu
open PySem PySem.Spec PyProof.Rows L2
/-! ### what is walked -/
section
variable {c : Cc} {X : Cx} {e a b d tg iter : Expr} {es : List Expr} {ea eb ed : Ev} {av : Av} {lv : Av} {pos p : Pos} {x : Str}
def FinI (K : Kc) (c : Cc) (F H : Hp) (r : Res (List D)) (R : It → Hp → Prop) : Prop := match r with
    | .ok ds => ∀ J H1 F1, Grow F H F1 H1 → Walk J ds.length (Same F1) (fun i H x H' => ∀ F, Same F1 F → Same F H → ∃ F' d, Grow F H F' H' ∧ ds[i]? = some d ∧ Rep K F' x d) → R J H1
    | .exc C fs => ExcW K c C fs
    | .stuck => False
def tIt (K : Kc) (c : Cc) (it : Av) : TI := fun σ H R => ∃ F ρ, Rel K c F ρ σ H ∧ FinI K c F H (it ρ) R
theorem pi_imp {X : Cx} {tg iter : Expr} {t t' : TI} (h : PI X tg iter t) (i : ∀ σ H R, t' σ H R → t σ H R) : PI X tg iter t' := ⟨fun pins s σ H R I q => h.run pins s σ H R I (i σ H R q)⟩
structure SI (c : Cc) (X : Cx) (tg iter : Expr) (it : Av) : Prop where
  pi : PI X tg iter (tIt (X.kc c) c it)
theorem PI.or {wi wi' : TI} (h : PI X tg iter wi) (h' : PI X tg iter wi') : PI X tg iter (fun σ H R => wi σ H R ∨ wi' σ H R) :=
  ⟨fun pins s σ H R I q => q.elim (fun q => h.run pins s σ H R I q) fun q => h'.run pins s σ H R I q⟩
def asSeq : D → Res (List D)
  | .lst ds => .ok ds
  | .tup ds => .ok ds
  | .str z => .ok (z.cps.toList.map fun c => .str ⟨#[c]⟩)
  | _ => .stuck
def iS (a : Ev) : Av := fun ρ => (a ρ).bind asSeq
/-- a list or a tuple -/
theorem si_seq (h : SE c X iter ea) : SI c X tg iter (iS ea) := by
  refine ⟨pi_imp (PI.or (PI.or (pi_list h.pe) (pi_tup h.pe)) (pi_str h.pe)) fun σ H R ⟨F, ρ, rl, q⟩ => ?_⟩
  unfold iS at q
  cases z : ea ρ with
  | ok d =>
    rw [z] at q
    cases d with
    | lst ds =>
      refine .inl (.inl ⟨F, ρ, rl, ?_⟩)
      rw [z]
      intro v H1 F1 g rp
      cases rp with
      | lst h1 h2 =>
        rename_i a vs
        refine ⟨a, rfl, ⟨vs, .inl (.inl (g.le _ _ h1))⟩, q _ H1 F1 g ?_⟩
        rw [← h2.length]
        refine Walk.mono walk_list (fun H' s => .inl (.inl (s _ _ h1))) fun i H2 x H3 hi s y F2 s2 s3 => ?_
        obtain ⟨rfl, y⟩ := y
        obtain ⟨d, e1, e2⟩ := h2.getV y
        exact ⟨F2, d, Grow.refl s3, e1, e2.mono s2⟩
    | tup ds =>
      refine .inl (.inr ⟨F, ρ, rl, ?_⟩)
      rw [z]
      intro v H1 F1 g rp
      cases rp with
      | tup h1 h2 =>
        rename_i a vs
        refine ⟨a, rfl, ⟨vs, same_seqT g.le h1⟩, q _ H1 F1 g ?_⟩
        rw [← h2.length]
        refine Walk.mono walk_tup (fun H' s => same_seqT s h1) fun i H2 x H3 hi s y F2 s2 s3 => ?_
        obtain ⟨rfl, y⟩ := y
        obtain ⟨d, e1, e2⟩ := h2.getV y
        exact ⟨F2, d, Grow.refl s3, e1, e2.mono s2⟩
    | str x =>
      refine .inr ⟨F, ρ, rl, ?_⟩
      rw [z]
      intro v H1 F1 g rp
      cases rp
      refine ⟨x, rfl, q _ H1 F1 g ?_⟩
      rw [List.length_map, Array.length_toList]
      refine Walk.mono walk_str (fun H' s => True.intro) fun i H2 y H3 hi s yy F2 s2 s3 => ?_
      obtain ⟨rfl, c, e1, rfl⟩ := yy
      refine ⟨F2, .str ⟨#[c]⟩, Grow.refl s3, ?_, .str _⟩
      rw [List.getElem?_map, Array.getElem?_toList, e1]
      rfl
    | _ => exact q.elim
  | exc C fs => rw [z] at q; exact .inl (.inl ⟨F, ρ, rl, by rw [z]; exact q⟩)
  | stuck => rw [z] at q; exact q.elim
def rgD (lo hi : Int) : List D := (List.range (hi - lo).toNat).map fun i => D.int (lo + (i : Nat))
theorem rgD_length (lo hi : Int) : (rgD lo hi).length = (hi - lo).toNat := by unfold rgD; rw [List.length_map, List.length_range]
theorem rgD_get {lo hi : Int} {i : Nat} (h : i < (hi - lo).toNat) : (rgD lo hi)[i]? = some (.int (lo + i)) := by
  unfold rgD
  rw [List.getElem?_map, List.getElem?_range h]; rfl
def rgOk (i : Int) : Bool := decide (-(2 ^ 62) ≤ i) && decide (i < 2 ^ 62)
def asR1 : List D → Res (List D)
  | [.int j] => if rgOk j = true then .ok (rgD 0 j) else .stuck
  | _ => .stuck
def asR2 : List D → Res (List D)
  | [.int i, .int j] => if (rgOk i && rgOk j) = true then .ok (rgD i j) else .stuck
  | _ => .stuck
def iR1 (a : Av) : Av := fun ρ => (a ρ).bind asR1
def iR2 (a : Av) : Av := fun ρ => (a ρ).bind asR2
theorem walk_rg {K : Kc} {lo hi : Int} {F1 : Hp} : Walk (Itr lo (hi - lo).toNat) (rgD lo hi).length (Same F1) (fun i H x H' => ∀ F, Same F1 F → Same F H → ∃ F' d, Grow F H F' H' ∧ (rgD lo hi)[i]? = some d ∧ Rep K F' x d) := by
  rw [rgD_length]
  refine Walk.mono walk_range (fun _ _ => trivial) fun i H2 x H3 hi s y F2 s2 s3 => ?_
  obtain ⟨rfl, rfl⟩ := y
  exact ⟨F2, _, Grow.refl s3, rgD_get hi, .int _⟩
theorem si_range1 (hg : Gl X "range") (hm : X.mg "range" = none) (ha : SA c X [a] av) (hs : starEach [a] X.env = [(false, eval a X.env)] := by rfl) : SI c X tg (.Call (.Name "range" p) [a] [] pos) (iR1 av) := by
  refine ⟨pi_imp (pi_range1 hg hm ha.pa hs) fun σ H R ⟨F, ρ, rl, q⟩ => ⟨F, ρ, rl, ?_⟩⟩
  unfold iR1 at q
  cases z : av ρ with
  | ok ds =>
    rw [z] at q
    intro vs H1 F1 g rs
    have q' : match asR1 ds with | .ok ds => ∀ J H1 F1, Grow F H F1 H1 → Walk J ds.length (Same F1) (fun i H x H' => ∀ F, Same F1 F → Same F H → ∃ F' d, Grow F H F' H' ∧ ds[i]? = some d ∧ Rep (X.kc c) F' x d) → R J H1 | .exc C fs => ExcW (X.kc c) c C fs | .stuck => False := q
    unfold asR1 at q'
    split at q'
    · rename_i ds' e
      split at e
      · rename_i j
        split at e
        · rename_i hj
          cases e
          cases rs with
          | cons r1 r2 =>
            cases r2; cases r1
            simp only [rgOk, Bool.and_eq_true, decide_eq_true_eq] at hj
            refine ⟨j, rfl, hj.1, hj.2, q' _ H1 F1 g ?_⟩
            have w := walk_rg (K := X.kc c) (lo := 0) (hi := j) (F1 := F1)
            rw [Int.sub_zero] at w
            exact w
        · cases e
      · cases e
    · rename_i e
      split at e
      · split at e <;> cases e
      · cases e
    · exact q'.elim
  | exc C fs => rw [z] at q; exact q
  | stuck => rw [z] at q; exact q.elim
theorem si_range2 (hg : Gl X "range") (hm : X.mg "range" = none) (ha : SA c X [a, b] av) (hs : starEach [a, b] X.env = [(false, eval a X.env), (false, eval b X.env)] := by rfl) (hs2 : starEach [b] X.env = [(false, eval b X.env)] := by rfl) :
    SI c X tg (.Call (.Name "range" p) [a, b] [] pos) (iR2 av) := by
  refine ⟨pi_imp (pi_range2 hg hm ha.pa hs hs2) fun σ H R ⟨F, ρ, rl, q⟩ => ⟨F, ρ, rl, ?_⟩⟩
  unfold iR2 at q
  cases z : av ρ with
  | ok ds =>
    rw [z] at q
    intro vs H1 F1 g rs
    have q' : match asR2 ds with | .ok ds => ∀ J H1 F1, Grow F H F1 H1 → Walk J ds.length (Same F1) (fun i H x H' => ∀ F, Same F1 F → Same F H → ∃ F' d, Grow F H F' H' ∧ ds[i]? = some d ∧ Rep (X.kc c) F' x d) → R J H1 | .exc C fs => ExcW (X.kc c) c C fs | .stuck => False := q
    unfold asR2 at q'
    split at q'
    · rename_i ds' e
      split at e
      · rename_i i j
        split at e
        · rename_i hj
          cases e
          cases rs with
          | cons r1 r2 =>
            cases r2 with
            | cons r2 r3 =>
              cases r3; cases r2; cases r1
              simp only [rgOk, Bool.and_eq_true, decide_eq_true_eq] at hj
              exact ⟨i, j, rfl, ⟨hj.1.1, hj.1.2, hj.2.1, hj.2.2⟩, q' _ H1 F1 g walk_rg⟩
        · cases e
      · cases e
    · rename_i e
      split at e
      · split at e <;> cases e
      · cases e
    · exact q'.elim
  | exc C fs => rw [z] at q; exact q
  | stuck => rw [z] at q; exact q.elim
end
end Pu

namespace Pu
open PySem PySem.Spec PyProof.Rows L2
open Builtin in
set_option maxHeartbeats 1000000 in
theorem meets_enumerate_newB1 {v : Value} {o : Obj} {H : Heap → Prop} (B : Begins v o H) :
    Meets (Builtin.«enumerate.__new__» ⟨[.type "enumerate", v], []⟩) (fun _ R s => H s.heap ∧
      R (.ok (.ret (.ref (s.heap.push o).objs.size))) { s with heap := (s.heap.push o).push { cls := .type "enumerate", data := .fields #[.none, .bool false, .ref s.heap.objs.size, rawInt 0, .none, .none] } }) :=
  .of_wp fun prog w A R s h => by
    obtain ⟨hp, g, d, tk, os⟩ := s; obtain ⟨h1, h⟩ := h
    have hsub := sub_enumerate
    have q1 : ∀ {A' : Around} {E : Value → Shared → Prop} {Q : Value → Shared → Prop}, Q (.ref hp.objs.size) ⟨hp.push o, g, d, tk, os⟩ → wpAny (model prog w) A' (pyIter v) Q E ⟨hp, g, d, tk, os⟩ :=
      fun q => B.iter prog w _ _ ⟨hp, g, d, tk, os⟩ _ h1 q
    wp_walk using q1
    refine wpAny_stack_any fun st => wpAny_pure ?_
    split
    · rename_i c _ _ _ _ _
      cases (c == Value.type "enumerate")
      · wp_walk using q1
        exact ⟨_, rfl, h⟩
      · wp_walk using q1
        exact ⟨_, rfl, h⟩
    · wp_walk using q1
      exact ⟨_, rfl, h⟩
theorem enum_begins1 {prog : Program} {w : World} {A : Around} {E : Value → Shared → Prop} {s : Shared} {v : Value} {o : Obj} {H : Heap → Prop} {Q : Value → Shared → Prop} (B : Begins v o H) (h1 : H s.heap)
    (h : ∀ h', IsEnum h' (s.heap.objs.size + 1) s.heap.objs.size 0 .none → h'.get? s.heap.objs.size = some o → h'.objs.size = s.heap.objs.size + 2 →
      (∀ b o, s.heap.get? b = some o → h'.get? b = some o) → Q (.ref (s.heap.objs.size + 1)) { s with heap := h' }) :
    wpAny (model prog w) A (call (.type "enumerate") [v]) Q E s := by
  refine callType_new F.called_enumerate (by decide) (F.typeCall_enumerate_1 _) (F.newCall_enumerate_1 _) (fun obj => F.args_object_init_2 obj _) F.entry_enumerate_new
    (meets_enumerate_newB1 B) ⟨h1, ?_⟩
  have hz : (s.heap.push o).objs.size = s.heap.objs.size + 1 := Heap.size_push ..
  show _ ∧ _
  rw [hz]
  have he : IsEnum ((s.heap.push o).push { cls := .type "enumerate", data := .fields #[.none, .bool false, .ref s.heap.objs.size, rawInt 0, .none, .none] }) (s.heap.objs.size + 1) s.heap.objs.size 0 .none := by
    have := Heap.get?_push_size (s.heap.push o) (o := { cls := .type "enumerate", data := .fields #[.none, .bool false, .ref s.heap.objs.size, rawInt 0, .none, .none] }) rfl
    rw [hz] at this; exact this
  refine ⟨⟨_, he, rfl⟩, h _ he (Heap.get?_push_of_some _ (Heap.get?_push_size _ B.free)) (by rw [Heap.size_push, hz]) fun b o x => Heap.get?_push_of_some _ (Heap.get?_push_of_some _ x)⟩
def Itet (K : PySem.W.Frag) (a : Addr) : It :=
  ⟨fun i H => ∃ (xs : List V) (x : V), SqT K H a xs ∧ xs[i]? = some x, fun i H v H' => ∃ T x, v = .ref T ∧ H T = none ∧ H' = upd H T (.tup [.int (i : Nat), x]) ∧ ∀ xs, SqT K H a xs → xs[i]? = some x, fun i H => ∃ xs : List V, SqT K H a xs ∧ xs.length = i⟩
theorem turn_enumT {P : Program} {w : World} {K : PySem.W.Frag} {elts : List Expr} {kk : Nat} {tpos : Pos} (a e it : Addr) :
    Turn P w K (.Tuple elts kk tpos) (Itet K a) [e, it] e (fun i h => (∃ old, IsEnum h e it ((i : Nat) : Int) old) ∧ h.IsTupleIter it a i ∧ e ≠ it) where
  mem := by simp
  obj := fun i h st b hb => by
    obtain ⟨⟨old, he⟩, ⟨o, ho, hc, hd⟩, _⟩ := st
    have e' : b = e ∨ b = it := by simpa using hb
    rcases e' with z | z
    · rw [z]; exact ⟨_, he, fun v q => nomatch q⟩
    · rw [z]; exact ⟨o, ho, fun v q => by rw [hd] at q; cases q⟩
  keep := fun i h h' st k => let ⟨⟨old, he⟩, hi, hne⟩ := st; ⟨⟨old, k e (by simp) _ he⟩, hi.at fun o q => k it (by simp) o q, hne⟩
  item := by
    intro X hP hw hK hc i pins s σ H E I hf st hg
    subst hP hw hK
    obtain ⟨⟨old, he⟩, hit, hne⟩ := st
    obtain ⟨xs, x, hq, hx⟩ := hg
    obtain ⟨its, rv, p, hz⟩ := I.tuple hq
    obtain ⟨u, hu, ru⟩ := rv.get hx
    have hT : s.heap.IsTuple a its.toArray := p
    have hel : e < s.heap.objs.size := Heap.lt_size he
    have hil : it < s.heap.objs.size := by obtain ⟨_, q, _⟩ := hit; exact Heap.lt_size q
    have hai : a ≠ it := fun z => by
      obtain ⟨o, q, q2, _⟩ := hit
      obtain ⟨o', q', q2', _⟩ := p
      rw [z, q] at q'; cases q'
      rw [q2] at q2'; revert q2'; decide
    have hea : e ≠ a := fun z => by
      obtain ⟨o', q', q2', _⟩ := p
      rw [← z, he] at q'; cases q'
      exact absurd (show Value.type "enumerate" = Value.type "tuple" from q2') (by decide)
    have hlt : i < its.toArray.size := by
      rw [List.size_toArray]
      exact (List.getElem?_eq_some_iff.mp hu).1
    refine wpAny_pyNext_enum_itemD (Draws.tuple (A := X.A.in1) (I.ok.hd hc) it a hai its.toArray) he ⟨hit, hT⟩ hlt hne (by simp [hne, hea]) fun u' h' tk hu' ho hit' hTT hsz hk => ?_
    have eu : u' = u := by
      have := hu'.symm.trans (show its.toArray[i]? = some u by simpa using hu)
      exact Option.some.inj this
    subst eu
    refine ⟨_, rfl, wpAny_letOwnedTupleGo_enum (s := { s with heap := h', toks := tk + 1 }) ho fun h'' he' sb => ?_⟩
    have hT2 : h''.get? s.heap.objs.size = some { cls := .type "tuple", data := .seq #[.int i tk, u'] } := (sb.2 _ (Nat.ne_of_gt hel)).trans hTT
    have new : ObjOk X.prog X.w (upd H s.heap.objs.size (.tup [.int (i : Nat), x])) h'' s.heap.objs.size (.tup [.int (i : Nat), x]) :=
      ⟨by show 2 ≤ sizeLine; decide, [.int i tk, u'], .cons ⟨_, rfl⟩ (.cons ru .nil), ⟨_, hT2, rfl, _, rfl⟩⟩
    have I1 : Inv X pins σ (upd H s.heap.objs.size (.tup [.int (i : Nat), x])) { s with heap := h'', toks := tk + 1 } :=
      I.turnedNew (ch := [e, it]) (fun b ob hb q => (sb.2 b (fun z => hb (by simp [z]))).trans (hk b ob (fun z => hb (by simp [z])) (fun z => hb (by simp [z])) q)) hf (Nat.le_refl _) new
    refine ⟨.ref s.heap.objs.size, _, I1, rfl, ⟨_, x, rfl, I.hok.fresh (Nat.le_refl _), rfl, fun ys hy => by rw [I.tuple_inj hy hq]; exact hx⟩, ⟨⟨u', ?_⟩, hit'.1.at fun o q => (sb.2 it (Ne.symm hne)).trans q, hne⟩, fun b hb => ?_⟩
    · have e1 : ((i + 1 : Nat) : Int) = (i : Int) + 1 := by omega
      rw [e1]; exact he'
    · have hb' : b < s.heap.objs.size := by
        have e' : b = e ∨ b = it := by simpa using hb
        rcases e' with z | z
        · rw [z]; exact hel
        · rw [z]; exact hil
      rw [upd_ne (Nat.ne_of_lt hb')]
      exact (hf b hb).1
  done := by
    intro X hP hw hK hc i pins s σ H E I hf st hg
    subst hP hw hK
    obtain ⟨⟨old, he⟩, hit, hne⟩ := st
    obtain ⟨xs, hq, hx⟩ := hg
    obtain ⟨its, rv, p, hz⟩ := I.tuple hq
    obtain ⟨f0, f1, f2, f3, f4, f5⟩ := hf it (by simp)
    have hT : s.heap.IsTuple a its.toArray := p
    have hai : a ≠ it := fun z => by
      obtain ⟨o, q, q2, _⟩ := hit
      obtain ⟨o', q', q2', _⟩ := p
      rw [z, q] at q'; cases q'
      rw [q2] at q2'; revert q2'; decide
    have hl := rv.length
    have hi : i = its.toArray.size := by rw [List.size_toArray]; omega
    subst hi
    exact wpAny_pyNext_enum_endD (Draws.tuple (A := X.A.in1) (I.ok.hd hc) it a hai its.toArray) he ⟨hit, hT⟩ fun h' eb => ⟨rfl, I.turned (t' := s.toks) (fun b o hb q => eb b o hb q) f0 f1 f3 f4 f5⟩
  self := fun A i s Q E st h => let ⟨⟨_, he⟩, _⟩ := st; wpAny_pyIter_enum he h
def iEnumT (K : PySem.W.Frag) (ta : TA) : TI := fun σ H R => ta σ H fun vs H1 => ∃ a xs, vs = [.ref a] ∧ SqT K H1 a xs ∧ R (Itet K a) H1
theorem pi_enumT {X : Cx} {e : Expr} {ta : TA} {p pos tpos : Pos} {elts : List Expr} {kk : Nat} (hg : Gl X "enumerate") (hm : X.mg "enumerate" = none) (ha : PA X [e] ta) (hs : starEach [e] X.env = [(false, eval e X.env)] := by rfl) :
    PI X (.Tuple elts kk tpos) (.Call (.Name "enumerate" p) [e] [] pos) (iEnumT X.K ta) := by
  refine ⟨fun pins s σ H R I h => ?_⟩
  refine Call_ (ld_blt I hg hm boot_enumerate (PyProof.Rows.callWith_type1 (thn (ha.run pos pins s σ H _ I h) fun us s1 ⟨vs, H1, I1, r1, q1⟩ => ?_) hs rfl))
  obtain ⟨a, xs, ex, hq, q⟩ := q1
  subst ex
  cases r1 with
  | cons r rr =>
    cases rr
    cases r
    obtain ⟨its, rv, p', hz⟩ := I1.tuple hq
    refine enum_begins1 (begins_tuple a its.toArray) (show s1.heap.IsTuple a its.toArray from p') fun h' he hit hsz hk => wpAny_pyIter_enum he ?_
    have I2 : Inv X pins σ H1 { s1 with heap := h' } := I1.kept (t' := s1.toks) hk
    refine ⟨s1.heap.objs.size + 1, [s1.heap.objs.size + 1, s1.heap.objs.size], _, _, H1, rfl, I2, turn_enumT a (s1.heap.objs.size + 1) s1.heap.objs.size, ⟨⟨.none, he⟩, ⟨_, hit, rfl, rfl⟩, Nat.succ_ne_self _⟩, fun b hb => ?_, q⟩
    have e' : b = s1.heap.objs.size + 1 ∨ b = s1.heap.objs.size := by simpa using hb
    have hle : s1.heap.objs.size ≤ b := by
      rcases e' with z | z
      · rw [z]; exact Nat.le_add_right _ _
      · rw [z]; exact Nat.le_refl _
    exact I1.fpOk hle (I1.hok.fresh hle)

/-! ### enumerate, zip as what is walked -/
def prs : Nat → List D → List D
  | _, [] => []
  | i, d :: ds => .tup [.int (i : Nat), d] :: prs (i + 1) ds
theorem prs_len : ∀ (i : Nat) (ds : List D), (prs i ds).length = ds.length
  | _, [] => rfl
  | i, d :: ds => congrArg Nat.succ (prs_len (i + 1) ds)
theorem prs_get : ∀ {ds : List D} {i j : Nat} {d : D}, ds[j]? = some d → (prs i ds)[j]? = some (.tup [.int ((i + j : Nat)), d])
  | [], i, j, d, h => by simp at h
  | x :: ds, i, 0, d, h => by simp at h; subst h; rfl
  | x :: ds, i, j + 1, d, h => by
    show (prs (i + 1) ds)[j]? = _
    rw [prs_get (i := i + 1) (j := j) (d := d) (by simpa using h)]
    have : i + 1 + j = i + (j + 1) := by omega
    rw [this]
def asE : List D → Res (List D)
  | [.lst ds] => .ok (prs 0 ds)
  | [.tup ds] => .ok (prs 0 ds)
  | _ => .stuck
def iE (a : Av) : Av := fun ρ => (a ρ).bind asE
def asZ : List D → Res (List D)
  | [.lst a, .lst b] => .ok ((a.zip b).map fun q => .tup [q.1, q.2])
  | _ => .stuck
def iZ (a : Av) : Av := fun ρ => (a ρ).bind asZ
section
variable {c : Cc} {X : Cx} {e a b d : Expr} {es : List Expr} {ea eb ed : Ev} {av : Av} {lv : Av} {pos p tpos : Pos} {x : Str} {elts : List Expr} {kk : Nat}
theorem pair_grow {K : Kc} {F2 H2 : Hp} {T : Addr} {x y : V} {d1 d2 : D} (s3 : Same F2 H2) (n : H2 T = none) (r1 : Rep K F2 x d1) (r2 : Rep K F2 y d2) :
    Grow F2 H2 (upd F2 T (.tup [x, y])) (upd H2 T (.tup [x, y])) ∧ Rep K (upd F2 T (.tup [x, y])) (.ref T) (.tup [d1, d2]) :=
  ⟨Grow.laid s3 n, .tup (.inl (.inl upd_same)) (.cons (r1.mono (same_upd (s3.free n))) (.cons (r2.mono (same_upd (s3.free n))) .nil))⟩
theorem si_enum (hg : Gl X "enumerate") (hm : X.mg "enumerate" = none) (ha : SA c X [e] av) (hs : starEach [e] X.env = [(false, eval e X.env)] := by rfl) : SI c X (.Tuple elts kk tpos) (.Call (.Name "enumerate" p) [e] [] pos) (iE av) := by
  refine ⟨pi_imp (PI.or (pi_enum hg hm ha.pa hs) (pi_enumT hg hm ha.pa hs)) fun σ H R ⟨F, ρ, rl, q⟩ => ?_⟩
  unfold iE at q
  cases z : av ρ with
  | ok ds =>
    rw [z] at q
    have q' : match asE ds with | .ok ds => ∀ J H1 F1, Grow F H F1 H1 → Walk J ds.length (Same F1) (fun i H x H' => ∀ F, Same F1 F → Same F H → ∃ F' d, Grow F H F' H' ∧ ds[i]? = some d ∧ Rep (X.kc c) F' x d) → R J H1 | .exc C fs => ExcW (X.kc c) c C fs | .stuck => False := q
    unfold asE at q'
    split at q'
    · rename_i ds' e
      split at e
      · rename_i l
        cases e
        refine .inl ⟨F, ρ, rl, ?_⟩
        rw [z]
        intro vs H1 F1 g rs
        cases rs with
        | cons r1 r2 =>
          cases r2
          cases r1 with
          | lst h1 h2 =>
            rename_i a ws
            refine ⟨a, ws, rfl, .inl (.inl (g.le _ _ h1)), q' _ H1 F1 g ?_⟩
            rw [prs_len, ← h2.length]
            refine Walk.mono walk_enum (fun H' s => .inl (.inl (s _ _ h1))) fun i H2 x H3 hi s y F2 s2 s3 => ?_
            obtain ⟨T, x', y', rfl, n, rfl, e1, e2⟩ := y
            cases e1
            obtain ⟨d, e3, e4⟩ := h2.getV e2
            obtain ⟨g2, r2⟩ := pair_grow (T := T) s3 n (Rep.int (i : Nat)) (e4.mono s2)
            exact ⟨_, _, g2, by rw [prs_get e3, Nat.zero_add], r2⟩
      · rename_i l
        cases e
        refine .inr ⟨F, ρ, rl, ?_⟩
        rw [z]
        intro vs H1 F1 g rs
        cases rs with
        | cons r1 r2 =>
          cases r2
          cases r1 with
          | tup h1 h2 =>
            rename_i a ws
            refine ⟨a, ws, rfl, same_seqT g.le h1, q' _ H1 F1 g ?_⟩
            rw [prs_len, ← h2.length]
            refine ⟨fun i H2 hi s => ⟨ws, ws[i], same_seqT s h1, by simp [hi]⟩, fun H2 s => ⟨ws, same_seqT s h1, rfl⟩, fun i H2 x H3 hi s y F2 s2 s3 => ?_⟩
            obtain ⟨T, x', rfl, n, rfl, e2⟩ := y
            obtain ⟨d, e3, e4⟩ := h2.getV (e2 _ (same_seqT s h1))
            obtain ⟨g2, r2⟩ := pair_grow (T := T) s3 n (Rep.int (i : Nat)) (e4.mono s2)
            exact ⟨_, _, g2, by rw [prs_get e3, Nat.zero_add], r2⟩
      · cases e
    · rename_i e
      split at e <;> cases e
    · exact q'.elim
  | exc C fs => rw [z] at q; exact .inl ⟨F, ρ, rl, by rw [z]; exact q⟩
  | stuck => rw [z] at q; exact q.elim
theorem si_zip (hg : Gl X "zip") (hm : X.mg "zip" = none) (ha : SA c X [a, b] av) (hpi : PI X (.Tuple elts kk tpos) (.Call (.Name "zip" p) [a, b] [] pos) (iZip X.K (tA (X.kc c) c av))) : SI c X (.Tuple elts kk tpos) (.Call (.Name "zip" p) [a, b] [] pos) (iZ av) := by
  refine ⟨pi_imp hpi fun σ H R ⟨F, ρ, rl, q⟩ => ⟨F, ρ, rl, ?_⟩⟩
  unfold iZ at q
  cases z : av ρ with
  | ok ds =>
    rw [z] at q
    have q' : match asZ ds with | .ok ds => ∀ J H1 F1, Grow F H F1 H1 → Walk J ds.length (Same F1) (fun i H x H' => ∀ F, Same F1 F → Same F H → ∃ F' d, Grow F H F' H' ∧ ds[i]? = some d ∧ Rep (X.kc c) F' x d) → R J H1 | .exc C fs => ExcW (X.kc c) c C fs | .stuck => False := q
    unfold asZ at q'
    split at q'
    · rename_i ds' e
      split at e
      · rename_i l m
        cases e
        intro vs H1 F1 g rs
        cases rs with
        | cons r1 r2 =>
          cases r2 with
          | cons r2 r3 =>
            cases r3
            cases r1 with
            | lst h1 h2 =>
              cases r2 with
              | lst h3 h4 =>
                rename_i a1 ws a2 us
                refine ⟨a1, a2, ws, us, rfl, .inl (.inl (g.le _ _ h1)), .inl (.inl (g.le _ _ h3)), q' _ H1 F1 g ?_⟩
                refine Walk.mono (walk_zip (n := _) (by rw [List.length_map, List.length_zip, h2.length, h4.length])) (fun H' s => ⟨.inl (.inl (s _ _ h1)), .inl (.inl (s _ _ h3))⟩) fun i H2 x H3 hi s y F2 s2 s3 => ?_
                obtain ⟨T, x', y', rfl, n, rfl, e1, e2⟩ := y
                obtain ⟨d1, f1, f2⟩ := h2.getV e1
                obtain ⟨d2, f3, f4⟩ := h4.getV e2
                obtain ⟨g2, r2⟩ := pair_grow (T := T) s3 n (f2.mono s2) (f4.mono s2)
                refine ⟨_, _, g2, ?_, r2⟩
                rw [List.getElem?_map, (List.getElem?_zip_eq_some (z := (d1, d2))).mpr ⟨f1, f3⟩]
                rfl
      · cases e
    · rename_i e
      split at e <;> cases e
    · exact q'.elim
  | exc C fs => rw [z] at q; exact q
  | stuck => rw [z] at q; exact q.elim
end
end Pu

namespace Pu
open PySem PySem.Spec PyProof.Rows L2

/-! ### statements -/
inductive Out where
  | nx (ρ : PEnv) | rt (d : D) | bk (ρ : PEnv) | ct (ρ : PEnv) | exc (C : Nat) (fs : List (Str × D)) | stuck
  /-- an answer, with the cells as they are then -/
  | rm (s : Slot) (ρ : PEnv)
/-- what holds at a def's end -/
structure Bot (c : Cc) (F F' H' : Hp) : Prop where
  f : Same F F'
  le : Same F' H'
  b : Same c.B H'
  nw : ∀ a o, F' a = some o → c.F0 a = some o ∨ c.B a = none
def FinS (K : Kc) (c : Cc) (F : Hp) (o : Out) (D : Ends) : Prop := match o with
  | .nx ρ' => ∀ σ' H' F', Same F F' → Rel K c F' ρ' σ' H' → D.nx σ' H'
  | .bk ρ' => ∀ σ' H' F', Same F F' → Rel K c F' ρ' σ' H' → D.bk σ' H'
  | .ct ρ' => ∀ σ' H' F', Same F F' → Rel K c F' ρ' σ' H' → D.ct σ' H'
  | .rt d => ∀ v H' F', Bot c F F' H' → Rep K F' v d → D.rt v H'
  | .exc C fs => ExcW K c C fs
  | .stuck => False
  | .rm s ρ' => ∀ v σ' H' F', Same F F' → RelR K c F' ρ' σ' H' v s → D.rt v H'
abbrev Sv := PEnv → Out
def tSt (K : Kc) (c : Cc) (s : Sv) : TS := fun D σ H => ∃ F ρ, Rel K c F ρ σ H ∧ FinS K c F (s ρ) D
structure SS (c : Cc) (X : Cx) (st : Stmt) (s : Sv) : Prop where
  ps : PS X st (tSt (X.kc c) c s)
structure SSs (c : Cc) (X : Cx) (st : List Stmt) (s : Sv) : Prop where
  ps : PSs X st (tSt (X.kc c) c s)
theorem FinS.mono {K : Kc} {c : Cc} {F F' : Hp} {o : Out} {D : Ends} (m : Same F F') (h : FinS K c F o D) : FinS K c F' o D := by
  cases o with
  | nx ρ => exact fun σ' H' F2 s r => h σ' H' F2 (m.trans s) r
  | bk ρ => exact fun σ' H' F2 s r => h σ' H' F2 (m.trans s) r
  | ct ρ => exact fun σ' H' F2 s r => h σ' H' F2 (m.trans s) r
  | rt d => exact fun v H' F2 s r => h v H' F2 ⟨m.trans s.f, s.le, s.b, s.nw⟩ r
  | rm t ρ => exact fun v σ' H' F2 s r => h v σ' H' F2 (m.trans s) r
  | exc C fs => exact h
  | stuck => exact h
theorem Rel.bot {K : Kc} {c : Cc} {F F' H' : Hp} {ρ : PEnv} {σ : Sg} (m : Same F F') (r : Rel K c F' ρ σ H') : Bot c F F' H' := ⟨m, r.le, r.b, r.nw⟩
def Out.of {α : Type} (r : Res α) (k : α → Out) : Out := match r with
  | .ok a => k a
  | .exc C fs => .exc C fs
  | .stuck => .stuck
@[simp] theorem Out.of_ok {α : Type} (a : α) (k : α → Out) : Out.of (.ok a) k = k a := rfl
@[simp] theorem Out.of_exc {α : Type} (C : Nat) (fs : List (Str × D)) (k : α → Out) : Out.of (.exc C fs) k = .exc C fs := rfl
@[simp] theorem Out.of_stuck {α : Type} (k : α → Out) : Out.of (.stuck : Res α) k = .stuck := rfl
/-- an expression, then a statement's rest -/
theorem tG_st {α β : Type} {K : Kc} {c : Cc} {R : Hp → Hp → α → β → Prop} {F H : Hp} {ρ : PEnv} {σ : Sg} {ev : PEnv → Res β} {k : β → Out} {D : Ends} {T : α → Hp → Prop}
    (r : Rel K c F ρ σ H) (h : FinS K c F (Out.of (ev ρ) k) D) (ht : ∀ v d H1 F1, Grow F H F1 H1 → Rel K c F1 ρ σ H1 → R F1 H1 v d → FinS K c F1 (k d) D → T v H1) : tG K c R ev σ H T := by
  refine ⟨F, ρ, r, ?_⟩
  cases q : ev ρ with
  | ok d =>
    rw [q] at h
    exact fun v H1 F1 g rp => ht v d H1 F1 g (r.grow g) rp (FinS.mono g.f h)
  | exc C fs => rw [q] at h; exact h
  | stuck => rw [q] at h; exact h
/-! combinators -/
def sNil : Sv := fun ρ => .nx ρ
def sSeq (s t : Sv) : Sv := fun ρ => match s ρ with
  | .nx ρ' => t ρ'
  | o => o
def sSet (i : Nat) (a : Ev) : Sv := fun ρ => Out.of (a ρ) fun d => .nx (ρ.set i (.val d))
def sOwn (i : Nat) (l : Av) : Sv := fun ρ => Out.of (l ρ) fun ds => if i < ρ.length then .nx (ρ.set i (.own ds)) else .stuck
def sTo (g : Gv) (a : Ev) : Sv := fun ρ => Out.of (a ρ) fun d => match g d ρ with
  | some ρ' => .nx ρ'
  | none => .stuck
def sIf (t : Tv) (a b : Sv) : Sv := fun ρ => Out.of (t ρ) fun x => if x = true then a ρ else b ρ
def sRet (a : Ev) : Sv := fun ρ => Out.of (a ρ) .rt
def sDrop (a : Ev) : Sv := fun ρ => Out.of (a ρ) fun _ => .nx ρ
def sFrz (i : Nat) (s : Sv) : Sv := fun ρ => s (frz i ρ)
def forS (g : Gv) (body : Sv) : List D → PEnv → Out
  | [], ρ => .nx ρ
  | d :: ds, ρ => match g d ρ with
    | none => .stuck
    | some ρ1 => match body ρ1 with
      | .nx ρ2 => forS g body ds ρ2
      | .ct ρ2 => forS g body ds ρ2
      | .bk ρ2 => .nx ρ2
      | o => o
def sFor (it : Av) (g : Gv) (body : Sv) : Sv := fun ρ => Out.of (it ρ) fun ds => forS g body ds ρ
def whileS (t : Tv) (body : Sv) : Nat → PEnv → Out
  | 0, _ => .stuck
  | n + 1, ρ => Out.of (t ρ) fun b => if b = true then (match body ρ with
      | .nx ρ2 => whileS t body n ρ2
      | .ct ρ2 => whileS t body n ρ2
      | .bk ρ2 => .nx ρ2
      | o => o) else .nx ρ
def sApp (i : Nat) (a : Ev) : Sv := fun ρ => match ρ[i]? with
  | some (.own ds) => Out.of (a ρ) fun d => if ds.length < sizeLine then .nx (ρ.set i (.own (ds ++ [d]))) else .stuck
  | _ => .stuck
def putAt (i : Nat) (ρ : PEnv) (ds : List D) (d k : D) : Out := match k with
  | .int k => match ixN ds.length k with
    | some n => .nx (ρ.set i (.own (ds.set n d)))
    | none => .stuck
  | _ => .stuck
def sPut (i : Nat) (j a : Ev) : Sv := fun ρ => match ρ[i]? with
  | some (.own ds) => Out.of (a ρ) fun d => Out.of (j ρ) fun k => putAt i ρ ds d k
  | _ => .stuck
def putD (f : Str) (d : D) : List (Str × D) → List (Str × D)
  | [] => [(f, d)]
  | (g, x) :: r => if g = f then (g, d) :: r else (g, x) :: putD f d r
def sFld (i : Nat) (f : Str) (a : Ev) : Sv := fun ρ => match ρ[i]? with
  | some (.ob C fs) => Out.of (a ρ) fun d => if fs.length < 1000 then .nx (ρ.set i (.ob C (putD f d fs))) else .stuck
  | _ => .stuck

section
variable {c : Cc} {X : Cx} {e a b d tg iter : Expr} {es : List Expr} {ea eb ed : Ev} {av : Av} {lv : Av} {ta tb : Tv} {pos p p2 : Pos} {x : Str} {st : Stmt} {sts rest bd bd2 : List Stmt} {s t u : Sv} {g : Gv} {ix : List Nat}
theorem sss_nil : SSs c X [] sNil := ⟨pss_imp pss_nil fun D σ H ⟨F, ρ, r, q⟩ => q σ H F (Same.refl F) r⟩
theorem sss_one (h : SS c X st s) : SSs c X [st] s := ⟨pss_one h.ps⟩
theorem sss_cons (h : SS c X st s) (h2 : SSs c X rest t) : SSs c X (st :: rest) (sSeq s t) := by
  refine ⟨pss_imp (pss_cons h.ps h2.ps) fun D σ H ⟨F, ρ, r, q⟩ => ⟨F, ρ, r, ?_⟩⟩
  unfold sSeq at q
  cases z : s ρ with
  | nx ρ' =>
    rw [z] at q
    exact fun σ' H' F' m r' => ⟨F', ρ', r', FinS.mono m q⟩
  | rt d => rw [z] at q; exact q
  | rm t d => rw [z] at q; exact q
  | bk d => rw [z] at q; exact q
  | ct d => rw [z] at q; exact q
  | exc C fs => rw [z] at q; exact q
  | stuck => rw [z] at q; exact q
theorem ss_frz {i : Nat} (h : SS c X st s) (io : ∀ a, c.io ≠ some (i, a) := by intro _ h; cases h) (hn : decide (i < c.n) = true := by rfl) : SS c X st (sFrz i s) := by
  refine ⟨ps_imp h.ps fun D σ H ⟨F, ρ, r, q⟩ => ?_⟩
  obtain ⟨F', m, r'⟩ := r.freeze io (of_decide_eq_true hn)
  exact ⟨F', _, r', FinS.mono m q⟩
theorem ss_pass : SS c X (.Pass pos) sNil := ⟨ps_imp ps_pass fun D σ H ⟨F, ρ, r, q⟩ => q σ H F (Same.refl F) r⟩
theorem ss_break : SS c X (.Break pos) .bk := ⟨ps_imp ps_break fun D σ H ⟨F, ρ, r, q⟩ => q σ H F (Same.refl F) r⟩
theorem ss_continue : SS c X (.Continue pos) .ct := ⟨ps_imp ps_continue fun D σ H ⟨F, ρ, r, q⟩ => q σ H F (Same.refl F) r⟩
theorem ss_never : SS c X st (fun _ => .stuck) := ⟨ps_imp ps_never fun D σ H ⟨F, ρ, r, q⟩ => q⟩
theorem sss_never : SSs c X sts (fun _ => .stuck) := ⟨pss_imp pss_never fun D σ H ⟨F, ρ, r, q⟩ => q⟩
theorem ss_set {i : Nat} (he : SE c X e ea) (hN : X.N.Nodup) (hi : X.N[i]? = some x := by rfl) (hx : Loc X.env.scope x := by first | exact Or.inl rfl | exact Or.inr rfl) (io : ∀ a, c.io ≠ some (i, a) := by intro _ h; cases h)
    (hs : swapsWith e (some (.Name x p)) pos.line X.env = pure false := by rfl) (hf : X.fn x = true ∨ X.env.scope.names.lookup x = some .local := by first | exact .inl rfl | exact .inr rfl | assumption) (hn : c.n = X.N.length := by rfl) : SS c X (.Assign [.Name x p] e pos) (sSet i ea) := by
  refine ⟨ps_imp (ps_set hN hi hx he.pe hs hf) fun D σ H ⟨F, ρ, r, q⟩ => ?_⟩
  refine tG_st r q fun v d H1 F1 g r1 rp q1 => ?_
  exact q1 _ _ F1 (Same.refl F1) (r1.set io (lt_n hn hi) rp)
theorem ss_own {i : Nat} (he : SN c X e lv) (hN : X.N.Nodup) (hi : X.N[i]? = some x := by rfl) (hx : Loc X.env.scope x := by first | exact Or.inl rfl | exact Or.inr rfl) (io : ∀ a, c.io ≠ some (i, a) := by intro _ h; cases h)
    (hs : swapsWith e (some (.Name x p)) pos.line X.env = pure false := by rfl) (hf : X.fn x = true ∨ X.env.scope.names.lookup x = some .local := by first | exact .inl rfl | exact .inr rfl | assumption) (hn : c.n = X.N.length := by rfl) : SS c X (.Assign [.Name x p] e pos) (sOwn i lv) := by
  refine ⟨ps_imp (ps_set hN hi hx he.pe hs hf) fun D σ H ⟨F, ρ, r, q⟩ => ⟨F, ρ, r, ?_⟩⟩
  unfold sOwn at q
  cases z : lv ρ with
  | ok ds =>
    rw [z] at q
    intro p vs H1 F1 g n rp _
    have q' : FinS (X.kc c) c F (if i < ρ.length then .nx (ρ.set i (.own ds)) else .stuck) D := q
    by_cases hl : i < ρ.length
    · rw [if_pos hl] at q'
      exact q' _ _ F1 g.f ((r.grow g).setOwn io (lt_n hn hi) n rp)
    · rw [if_neg hl] at q'; exact q'.elim
  | exc C fs => rw [z] at q; exact q
  | stuck => rw [z] at q; exact q
theorem ss_to (he : SE c X e ea) (hg : SG c X tg ix g) (hs : swapsWithSole [tg] e pos.line X.env = pure false := by rfl) (hw : swappedStores [tg] e X.env = pure none := by rfl)
    (h1 : (assignEach [tg] X.env).map (·.2) = [assign tg X.env] := by rfl) : SS c X (.Assign [tg] e pos) (sTo g ea) := by
  refine ⟨ps_imp (ps_asg he.pe hg.pg hs hw h1) fun D σ H ⟨F, ρ, r, q⟩ => ?_⟩
  refine tG_st r q fun v d H1 F1 g1 r1 rp q1 => ?_
  cases z : g d ρ with
  | none => rw [z] at q1; exact q1.elim
  | some ρ' =>
    rw [z] at q1
    exact ⟨F1, ρ, d, ρ', r1, rp, z, fun σ' r' _ => q1 σ' H1 F1 (Same.refl F1) r'⟩
theorem ss_if (hc : ST c X e ta) (ha : SSs c X bd s) (hb : SSs c X bd2 t) : SS c X (.If e bd bd2 pos) (sIf ta s t) := by
  refine ⟨ps_imp (ps_if hc.pt ha.ps hb.ps) fun D σ H ⟨F, ρ, r, q⟩ => ?_⟩
  refine tG_st r q fun v d H1 F1 g r1 rp q1 => ?_
  cases (show v = d from rp)
  cases v with
  | true => exact iteT ⟨F1, ρ, r1, q1⟩
  | false => exact iteF ⟨F1, ρ, r1, q1⟩
theorem ss_ret (he : SE c X e ea) : SS c X (.Return (some e) pos) (sRet ea) := by
  refine ⟨ps_imp (ps_ret he.pe) fun D σ H ⟨F, ρ, r, q⟩ => ?_⟩
  refine tG_st r q fun v d H1 F1 g r1 rp q1 => ?_
  exact q1 v H1 F1 (r1.bot (Same.refl F1)) rp
theorem ss_retN : SS c X (.Return none pos) (fun _ => .rt .non) := ⟨ps_imp ps_retN fun D σ H ⟨F, ρ, r, q⟩ => q .non H F (r.bot (Same.refl F)) .non⟩
theorem ss_expr (he : SE c X e ea) (hs : swapsWith e none pos.line X.env = pure false := by rfl) : SS c X (.Expr e pos) (sDrop ea) := by
  refine ⟨ps_imp (ps_expr he.pe hs) fun D σ H ⟨F, ρ, r, q⟩ => ?_⟩
  refine tG_st r q fun v d H1 F1 g r1 rp q1 => ?_
  exact q1 _ _ F1 (Same.refl F1) r1
/-- name op= e -/
def sAug (i : Nat) (f : D → D → Option D) (a : Ev) : Sv := fun ρ => match ρ[i]? with
  | some (.val d) => Out.of (a ρ) fun y => match f d y with
    | some z => .nx (ρ.set i (.val z))
    | none => .stuck
  | _ => .stuck
def LiftI (K : Kc) (r : TIp) (f : D → D → Option D) : Prop := ∀ {F H : Hp} {x y : V} {dx dy dz : D} {Q : VK}, Same F H → Rep K F x dx → Rep K F y dy → f dx dy = some dz → (∀ v, Rep K F v dz → Q v H) → r x y H Q
theorem ss_aug {i : Nat} {op : Operator} {ti : TIp} {f : D → D → Option D} (he : SE c X e ea) (ho : PIp X op ti) (l : LiftI (X.kc c) ti f) (hN : X.N.Nodup) (hi : X.N[i]? = some x := by rfl) (hx : Loc X.env.scope x := by first | exact Or.inl rfl | exact Or.inr rfl) (io : ∀ a, c.io ≠ some (i, a) := by intro _ h; cases h)
    (hf : X.fn x = true ∨ X.env.scope.names.lookup x = some .local := by first | exact .inl rfl | exact .inr rfl | assumption) (hn : c.n = X.N.length := by rfl) : SS c X (.AugAssign (.Name x p) op e pos) (sAug i f ea) := by
  refine ⟨ps_imp (ps_aug hN hi hx he.pe ho hf) fun D σ H ⟨F, ρ, r, q⟩ => ?_⟩
  unfold sAug at q
  split at q
  · rename_i d hd
    obtain ⟨v, e1, rp⟩ := r.val hd
    refine ⟨v, e1, tG_st r q fun y dy H1 F1 g r1 ry q1 => ?_⟩
    cases z : f d dy with
    | none => rw [z] at q1; exact q1.elim
    | some dz =>
      rw [z] at q1
      exact l r1.le (rp.mono g.f) ry z fun v rv => q1 _ _ F1 (Same.refl F1) (r1.set io (lt_n hn hi) rv)
  · exact q.elim

end
end Pu

namespace Pu
open PySem PySem.Spec PyProof.Rows L2
def opAddI : D → D → Option D
  | .int i, .int j => some (.int (i + j))
  | _, _ => none
section
variable {c : Cc} {X : Cx} {e a b d tg iter : Expr} {es : List Expr} {ea eb ed : Ev} {av : Av} {lv : Av} {ta tb : Tv} {pos p p2 apos : Pos} {x : Str} {st : Stmt} {sts rest bd bd2 : List Stmt} {s t u : Sv} {g : Gv} {ix : List Nat} {it : Av}
theorem li_add : LiftI (X.kc c) (ipI fun i j => i + j) opAddI := by
  intro F H x y dx dy dz Q le hx hy e q
  unfold opAddI at e; split at e
  · cases e; cases hx; cases hy; exact ⟨_, _, rfl, rfl, q _ (.int _)⟩
  · cases e
theorem li_sub : LiftI (X.kc c) (ipI fun i j => i - j) opSub := by
  intro F H x y dx dy dz Q le hx hy e q
  unfold opSub at e; split at e
  · cases e; cases hx; cases hy; exact ⟨_, _, rfl, rfl, q _ (.int _)⟩
  · cases e
/-! for, while -/
theorem ss_for (hp : PassesOwn (model X.prog X.w) X.A X.env X.xe) (hc : X.calm = true) (hi : SI c X tg iter it) (hg : SG c X tg ix g) (hb : SSs c X bd s)
    (hs : ∀ x, foldedSetIterable iter X.env x = pure x := by intro _; rfl) : SS c X (.For tg iter bd [] pos) (sFor it g s) := by
  refine ⟨ps_imp (ps_for hp hc hi.pi hg.pg hb.ps hs) fun D σ H ⟨F, ρ, r, q⟩ => ?_⟩
  refine ⟨F, ρ, r, ?_⟩
  unfold sFor at q
  cases z : it ρ with
  | ok ds =>
    rw [z] at q
    intro J H1 F1 g1 w
    have q0 : FinS (X.kc c) c F1 (forS g s ds ρ) D := FinS.mono g1.f q
    refine for_it w (fun i σ' H' => ∃ F' ρ', Same F1 F' ∧ Rel (X.kc c) c F' ρ' σ' H' ∧ FinS (X.kc c) c F' (forS g s (ds.drop i) ρ') D) ⟨F1, ρ, Same.refl F1, r.grow g1, q0⟩ ?_ ?_ ?_
    · rintro i σ' H' _ ⟨F', ρ', m, r', _⟩
      exact m.trans r'.le
    · rintro i x σ' H' H2 hi ⟨F', ρ', m, r', q'⟩ y
      obtain ⟨F2, d, g2, ed, rp⟩ := y F' m r'.le
      have hd : ds.drop i = d :: ds.drop (i + 1) := by
        have hi' : i < ds.length := hi
        rw [List.drop_eq_getElem_cons hi']
        congr 1
        rw [List.getElem?_eq_getElem hi'] at ed
        exact Option.some.inj ed
      rw [hd] at q'
      unfold forS at q'
      cases zg : g d ρ' with
      | none => rw [zg] at q'; exact q'.elim
      | some ρ1 =>
        rw [zg] at q'
        refine ⟨F2, ρ', d, ρ1, r'.grow g2, rp, zg, fun σ2 r2 _ => ⟨F2, ρ1, r2, ?_⟩⟩
        have q2 : FinS (X.kc c) c F2 (match s ρ1 with | .nx ρ2 => forS g s (ds.drop (i + 1)) ρ2 | .ct ρ2 => forS g s (ds.drop (i + 1)) ρ2 | .bk ρ2 => .nx ρ2 | o => o) D := FinS.mono g2.f q'
        cases zs : s ρ1 with
        | nx ρ2 => rw [zs] at q2; exact fun σ3 H3 F3 m3 r3 => ⟨F3, ρ2, (m.trans g2.f).trans m3, r3, FinS.mono m3 q2⟩
        | ct ρ2 => rw [zs] at q2; exact fun σ3 H3 F3 m3 r3 => ⟨F3, ρ2, (m.trans g2.f).trans m3, r3, FinS.mono m3 q2⟩
        | bk ρ2 => rw [zs] at q2; exact q2
        | rt d => rw [zs] at q2; exact q2
        | rm t d => rw [zs] at q2; exact q2
        | exc C fs => rw [zs] at q2; exact q2
        | stuck => rw [zs] at q2; exact q2
    · rintro σ' H' ⟨F', ρ', m, r', q'⟩
      rw [List.drop_length] at q'
      exact q' σ' H' F' (Same.refl F') r'
  | exc C fs => rw [z] at q; exact q
  | stuck => rw [z] at q; exact q
theorem ss_while (n : Nat) (hp : PassesOwn (model X.prog X.w) X.A X.env X.xe) (hc : ST c X e ta) (hb : SSs c X bd s) : SS c X (.While e bd [] pos) (whileS ta s n) := by
  refine ⟨ps_imp (ps_while hp hc.pt hb.ps) fun D σ H ⟨F, ρ, r, q⟩ => ?_⟩
  refine ⟨fun m σ' H' => ∃ F' ρ', Rel (X.kc c) c F' ρ' σ' H' ∧ FinS (X.kc c) c F' (whileS ta s m ρ') D, ⟨n, F, ρ, r, q⟩, ?_⟩
  rintro m σ' H' ⟨F', ρ', r', q'⟩
  cases m with
  | zero => exact q'.elim
  | succ m =>
    unfold whileS at q'
    refine tG_st r' q' fun v d H1 F1 g r1 rp q1 => ?_
    cases (show v = d from rp)
    cases v with
    | false => exact iteF (q1 σ' H1 F1 (Same.refl F1) r1)
    | true =>
      refine iteT ⟨fun σ2 H2 => ∃ F2 ρ2, Rel (X.kc c) c F2 ρ2 σ2 H2 ∧ FinS (X.kc c) c F2 (whileS ta s m ρ2) D, fun σ2 H2 h => ⟨m, Nat.lt_succ_self m, h⟩, F1, ρ', r1, ?_⟩
      have q2 : FinS (X.kc c) c F1 (match s ρ' with | .nx ρ2 => whileS ta s m ρ2 | .ct ρ2 => whileS ta s m ρ2 | .bk ρ2 => .nx ρ2 | o => o) D := q1
      cases zs : s ρ' with
      | nx ρ2 => rw [zs] at q2; exact fun σ3 H3 F3 m3 r3 => ⟨F3, ρ2, r3, FinS.mono m3 q2⟩
      | ct ρ2 => rw [zs] at q2; exact fun σ3 H3 F3 m3 r3 => ⟨F3, ρ2, r3, FinS.mono m3 q2⟩
      | bk ρ2 => rw [zs] at q2; exact q2
      | rt d => rw [zs] at q2; exact q2
      | rm t d => rw [zs] at q2; exact q2
      | exc C fs => rw [zs] at q2; exact q2
      | stuck => rw [zs] at q2; exact q2
/-! x.append(e), x[j] = e, o.f = e -/
theorem ss_app {i : Nat} (he : SE c X e ea) (hN : X.N[i]? = some x := by rfl) (hn0 : c.n = X.N.length := by rfl) (hv : Vis X.env.scope x := by first | exact Or.inl rfl | exact Or.inr (Or.inl rfl) | exact Or.inr (Or.inr rfl)) (hd : (x == ("__debug__" : Str)) = false := by decide)
    (hcd : (x == ("__classdict__" : Str)) = false := by decide)
    (hbase : attributeBase (.Name x p) "append" X.env (eval (.Name x p) X.env) = eval (.Name x p) X.env := by rfl)
    (hfew : ((backTo p2 (starEach [e] X.env)).all (fun x => !x.1) && (backToKw p2 (keywordEach [] X.env)).all (fun x => x.1.isSome)
      && decide ([e].length + ([] : List Keyword).length + (if ([] : List Keyword).isEmpty then 0 else 1) < 30)) = true := by rfl)
    (hline : (apos.endLine == p2.line) = true := by rfl) (hs : starEach [e] X.env = (false, eval e X.env) :: starEach [] X.env := by rfl) (hplain : (backTo p2 (starEach [] X.env)).any (·.1) = false := by rfl)
    (hsw : swapsWith (.Call (.Attribute (.Name x p) "append" apos) [e] [] p2) none pos.line X.env = pure false := by rfl) :
    SS c X (.Expr (.Call (.Attribute (.Name x p) "append" apos) [e] [] p2) pos) (sApp i ea) := by
  refine ⟨ps_imp (ps_expr (pe_bm PySem.F.plainAttrs_list PySem.F.slot_list_append PySem.F.type_list_append mt_append (pe_var hN hv hd hcd) (pa_cons he.pe pa_nil hs) hbase hfew hline hs hplain) hsw) fun D σ H ⟨F, ρ, r, q⟩ => ?_⟩
  unfold sApp at q
  split at q
  · rename_i ds hi
    obtain ⟨l, vs, e1, e2, e3⟩ := r.own hi (lt_n hn0 hN)
    refine ⟨.ref l, e1, .inl ⟨rfl, vs, .inl (.inl e2)⟩, ?_⟩
    refine tG_st r q fun v dv H1 F1 g r1 rp q1 => ?_
    by_cases hl : ds.length < sizeLine
    · rw [if_pos hl] at q1
      exact ⟨l, vs, v, rfl, rfl, g.h _ _ e2, by rw [e3.length]; exact hl, q1 σ _ F1 (Same.refl F1) (r1.putOwn hi e1 ((e3.mono g.f).append (.cons rp .nil)))⟩
    · rw [if_neg hl] at q1; exact q1.elim
  · exact q.elim
theorem ss_put {i : Nat} {ej : Ev} (hj : SE c X b ej) (he : SE c X e ea) (hN : X.N[i]? = some x := by rfl) (hn0 : c.n = X.N.length := by rfl) (hv : Vis X.env.scope x := by first | exact Or.inl rfl | exact Or.inr (Or.inl rfl) | exact Or.inr (Or.inr rfl)) (hd : (x == ("__debug__" : Str)) = false := by decide)
    (hcd : (x == ("__classdict__" : Str)) = false := by decide)
    (ha : ∀ v, assign (.Subscript (.Name x p) b p2) X.env v = (do
      let ov ← holding [v] (eval (.Name x p) X.env)
      let iv ← holding [v, ov] (eval b X.env)
      standAt p2
      holding [v, ov, iv] (setItem ov iv v)
      release [v, ov, iv] []) := by intro _; rfl) (hs : swapsWithSole [.Subscript (.Name x p) b p2] e pos.line X.env = pure false := by rfl) (hw : swappedStores [.Subscript (.Name x p) b p2] e X.env = pure none := by rfl)
    (h1 : (assignEach [.Subscript (.Name x p) b p2] X.env).map (·.2) = [assign (.Subscript (.Name x p) b p2) X.env] := by rfl) : SS c X (.Assign [.Subscript (.Name x p) b p2] e pos) (sPut i ej ea) := by
  refine ⟨ps_imp (ps_asg he.pe (pg_sub (pe_var hN hv hd hcd) hj.pe set_list ha) hs hw h1) fun D σ H ⟨F, ρ, r, q⟩ => ?_⟩
  unfold sPut at q
  split at q
  · rename_i ds hi
    obtain ⟨l, vs, e1, e2, e3⟩ := r.own hi (lt_n hn0 hN)
    refine tG_st r q fun v dv H1 F1 g r1 rp q1 => ?_
    refine ⟨.ref l, e1, tG_st r1 q1 fun w dk H2 F2 g2 r2 rk q2 => ?_⟩
    unfold putAt at q2
    split at q2
    · rename_i k
      split at q2
      · rename_i n hn
        cases rk
        exact ⟨l, vs, k, n, rfl, rfl, g2.h _ _ (g.h _ _ e2), by rw [e3.length]; exact hn, q2 σ _ F2 (Same.refl F2) (r2.putOwn hi e1 (Reps.set (rp.mono g2.f) n ((e3.mono g.f).mono g2.f)))⟩
      · exact q2.elim
    · exact q2.elim
  · exact q.elim
theorem RepF.put {K : Kc} {F : Hp} {f : Str} {v : V} {d : D} (h : Rep K F v d) : ∀ {fv : List (Str × V)} {fs : List (Str × D)}, RepF K F fv fs → RepF K F (putF f v fv) (putD f d fs)
  | _, _, .nil => .cons h .nil
  | _, _, .cons (n := n) r rs => by
    unfold putF putD
    by_cases e : n = f
    · rw [if_pos e, if_pos e]; exact .cons h rs
    · rw [if_neg e, if_neg e]; exact .cons r (RepF.put h rs)
theorem RepF.length {K : Kc} {F : Hp} : ∀ {fv : List (Str × V)} {fs : List (Str × D)}, RepF K F fv fs → fv.length = fs.length
  | _, _, .nil => rfl
  | _, _, .cons _ r => congrArg Nat.succ (RepF.length r)
theorem Rel.ob {K : Kc} {F H : Hp} {ρ : PEnv} {σ : Sg} {i C : Nat} {fs : List (Str × D)} (r : Rel K c F ρ σ H) (h : ρ[i]? = some (.ob C fs)) : ∃ a dx fv, σ[i]? = some (some (.ref a)) ∧ H a = some (.ins (K.cm C) dx fv) ∧ RepF K F fv fs := by
  obtain ⟨oa, h1, _⟩ := r.sl
  obtain ⟨a, dx, fv, _, e, q1, q2⟩ := h1 i _ h
  exact ⟨a, dx, fv, e, q1, q2⟩
theorem ss_fld {i C : Nat} {f : Str} (hC : Cls X.K (c.cm C)) (hf : NoAttr X.K (c.cm C) f) (he : SE c X e ea) (hN : X.N[i]? = some x := by rfl) (hv : Vis X.env.scope x := by first | exact Or.inl rfl | exact Or.inr (Or.inl rfl) | exact Or.inr (Or.inr rfl)) (hd : (x == ("__debug__" : Str)) = false := by decide)
    (hcd : (x == ("__classdict__" : Str)) = false := by decide) (hs : swapsWith e (some (.Attribute (.Name x p) f p2)) pos.line X.env = pure false := by rfl) :
    SS c X (.Assign [.Attribute (.Name x p) f p2] e pos) (fun ρ => match ρ[i]? with | some (.ob C' fs) => if C' = C then sFld i f ea ρ else .stuck | _ => .stuck) := by
  refine ⟨ps_imp (ps_fld (pe_var hN hv hd hcd) he.pe hs) fun D σ H ⟨F, ρ, r, q⟩ => ?_⟩
  dsimp only at q
  split at q
  · rename_i C' fs hi
    by_cases hcc : C' = C
    · subst hcc
      rw [if_pos rfl] at q
      unfold sFld at q
      rw [hi] at q
      obtain ⟨a, dx, fv, e1, e2, e3⟩ := r.ob hi
      refine tG_st r q fun v dv H1 F1 g r1 rp q1 => ?_
      by_cases hl : fs.length < 1000
      · rw [if_pos hl] at q1
        exact ⟨.ref a, e1, a, _, dx, fv, rfl, g.h _ _ e2, hC, hf, by rw [e3.length]; exact hl, q1 σ _ F1 (Same.refl F1) (r1.putOb hi e1 ((e3.mono g.f).put rp))⟩
      · rw [if_neg hl] at q1; exact q1.elim
    · rw [if_neg hcc] at q; exact q.elim
  · exact q.elim
end
end Pu

namespace Pu
open PySem PySem.Spec PyProof.Rows L2

/-! ### slices -/
abbrev Ov := PEnv → Res (Option Int)
def oN : Ov := fun _ => .ok none
def asI : D → Res (Option Int)
  | .int i => .ok (some i)
  | _ => .stuck
def oS (a : Ev) : Ov := fun ρ => (a ρ).bind asI
abbrev rO : Hp → Hp → Option Int → Option Int → Prop := fun _ _ v d => v = d
structure SO (c : Cc) (X : Cx) (e : Option Expr) (ov : Ov) : Prop where
  po : PO X e (tG (X.kc c) c rO ov)
def cutD (xs : List D) (lo hi : Option Int) : List D := (xs.drop (HT.sIx xs.length 0 lo)).take (HT.sIx xs.length xs.length hi - HT.sIx xs.length 0 lo)
/-- s[lo:hi] of a text -/
def eSlS (a : Ev) (lo hi : Ov) : Ev := fun ρ => (a ρ).bind fun x => (lo ρ).bind fun l => (hi ρ).bind fun h => match x with
  | .str z => if z.length ≤ sizeLine then .ok (.str (cutS z l h)) else .stuck
  | _ => .stuck
/-- xs[lo:hi] of a list -/
def lSl (a : Ev) (lo hi : Ov) : Av := fun ρ => (a ρ).bind fun x => (lo ρ).bind fun l => (hi ρ).bind fun h => match x with
  | .lst ds => if ds.length ≤ sizeLine then .ok (cutD ds l h) else .stuck
  | .scr ns => if ns.length ≤ sizeLine then .ok (cutD (ns.map D.int) l h) else .stuck
  | _ => .stuck
/-- a new list, wanted -/
theorem tN_bind {α β : Type} {K : Kc} {c : Cc} {R : Hp → Hp → α → β → Prop} {F H : Hp} {ρ : PEnv} {σ : Sg} {ev : PEnv → Res β} {k : β → Res (List D)} {Q : VK} {T : α → Hp → Prop}
    (r : Rel K c F ρ σ H) (h : FinN K c F H ((ev ρ).bind k) Q) (ht : ∀ v d H1 F1, Grow F H F1 H1 → Rel K c F1 ρ σ H1 → R F1 H1 v d → FinN K c F1 H1 (k d) Q → T v H1) : tG K c R ev σ H T := by
  refine ⟨F, ρ, r, ?_⟩
  cases q : ev ρ with
  | ok d =>
    rw [q] at h
    refine fun v H1 F1 g rp => ht v d H1 F1 g (r.grow g) rp ?_
    have h' : FinN K c F H (k d) Q := h
    cases z : k d with
    | ok ds => rw [z] at h'; exact fun p vs H2 F2 g2 n rs hz => h' p vs H2 F2 (g.trans g2) n rs hz
    | exc C fs => rw [z] at h'; exact h'
    | stuck => rw [z] at h'; exact h'
  | exc C fs => rw [q] at h; exact h
  | stuck => rw [q] at h; exact h
section
variable {c : Cc} {X : Cx} {e a b d tg iter : Expr} {es : List Expr} {ea eb ed : Ev} {av : Av} {lv : Av} {ta tb : Tv} {pos p p2 apos : Pos} {x : Str} {lo hi : Option Expr} {ol oh : Ov}
theorem so_none : SO c X none oN := ⟨⟨fun pins s σ H Q I ⟨F, ρ, r, q⟩ => po_none.run pins s σ H Q I (q none H F r.refl rfl)⟩⟩
theorem so_some (h : SE c X e ea) : SO c X (some e) (oS ea) := by
  refine ⟨⟨fun pins s σ H Q I ⟨F, ρ, r, q⟩ => (po_some h.pe).run pins s σ H Q I ?_⟩⟩
  refine tG_bind r q fun v dv H1 F1 g r1 rp q1 => ?_
  unfold asI at q1
  split at q1
  · cases rp; exact ⟨_, rfl, q1 _ H1 F1 r1.refl rfl⟩
  · exact q1.elim
theorem se_slS (ha : SB c X e ea) (hl : SO c X lo ol) (hh : SO c X hi oh) : SE c X (.Subscript e (.Slice lo hi none p2) pos) (eSlS ea ol oh) := by
  refine ⟨pe_imp (pe_slice sl_str ha.pe hl.po hh.po) fun σ H Q ⟨F, ρ, r, q⟩ => ?_⟩
  refine tG_bind r q fun v dv H1 F1 g r1 rp q1 => ?_
  refine tG_bind r1 q1 fun l dl H2 F2 g2 r2 rl q2 => ?_
  refine tG_bind r2 q2 fun h dh H3 F3 g3 r3 rh q3 => ?_
  cases (show l = dl from rl)
  cases (show h = dh from rh)
  cases dv with
  | str z =>
    have q3' : FinG (X.kc c) c (rE (X.kc c)) F3 H3 (if z.length ≤ sizeLine then .ok (.str (cutS z l h)) else .stuck) Q := q3
    by_cases hz : z.length ≤ sizeLine
    · rw [if_pos hz] at q3'
      exact ⟨z, rp.str, hz, q3' _ H3 F3 r3.refl (.str _)⟩
    · rw [if_neg hz] at q3'; exact q3'.elim
  | _ => exact q3.elim
theorem cutV_map (ns : List Int) (l h : Option Int) : cutV (ns.map V.int) l h = (((ns.drop (HT.sIx ns.length 0 l)).take (HT.sIx ns.length ns.length h - HT.sIx ns.length 0 l))).map V.int := by
  unfold cutV
  rw [List.length_map, ← List.map_drop, ← List.map_take]
theorem cutD_map (ns : List Int) (l h : Option Int) : cutD (ns.map D.int) l h = (((ns.drop (HT.sIx ns.length 0 l)).take (HT.sIx ns.length ns.length h - HT.sIx ns.length 0 l))).map D.int := by
  unfold cutD
  rw [List.length_map, ← List.map_drop, ← List.map_take]
theorem sn_sl (ha : SB c X e ea) (hl : SO c X lo ol) (hh : SO c X hi oh) : SN c X (.Subscript e (.Slice lo hi none p2) pos) (lSl ea ol oh) := by
  refine ⟨pe_imp (pe_slice sl_list ha.pe hl.po hh.po) fun σ H Q ⟨F, ρ, r, q⟩ => ?_⟩
  refine tN_bind r q fun v dv H1 F1 g r1 rp q1 => ?_
  refine tN_bind r1 q1 fun l dl H2 F2 g2 r2 rl q2 => ?_
  refine tN_bind r2 q2 fun h dh H3 F3 g3 r3 rh q3 => ?_
  cases (show l = dl from rl)
  cases (show h = dh from rh)
  cases dv with
  | lst ds =>
    have q3' : FinN (X.kc c) c F3 H3 (if ds.length ≤ sizeLine then .ok (cutD ds l h) else .stuck) Q := q3
    obtain ⟨a, vs, rfl, h1, h2⟩ := rp.lst r1.le
    have e2 := h2.length
    by_cases hz : ds.length ≤ sizeLine
    · rw [if_pos hz] at q3'
      refine ⟨a, vs, rfl, .inl (.inl (g3.h _ _ (g2.h _ _ h1))), fun p n => q3' p _ H3 F3 r3.refl n ?_ (Nat.le_trans (cutV_length _ _ _) (by rw [e2]; exact hz))⟩
      unfold cutV cutD
      rw [e2]
      exact Reps.take _ (Reps.drop _ ((h2.mono g2.f).mono g3.f))
    · rw [if_neg hz] at q3'; exact q3'.elim
  | scr ns =>
    have q3' : FinN (X.kc c) c F3 H3 (if ns.length ≤ sizeLine then .ok (cutD (ns.map D.int) l h) else .stuck) Q := q3
    obtain ⟨a, rfl, h1⟩ := rp.scr r1.le
    by_cases hz : ns.length ≤ sizeLine
    · rw [if_pos hz] at q3'
      refine ⟨a, _, rfl, g3.h.seq (g2.h.seq h1), fun p n => q3' p _ H3 F3 r3.refl n ?_ (Nat.le_trans (cutV_length _ _ _) (by rw [List.length_map]; exact hz))⟩
      rw [cutV_map, cutD_map]
      exact Reps.of_ints _
    · rw [if_neg hz] at q3'; exact q3'.elim
  | _ => exact q3.elim
/-! list(..), list + list -/
def lList (as : Av) : Av := fun ρ => (as ρ).bind fun xs => match xs with
  | [.lst ds] => if ds.length ≤ sizeLine then .ok ds else .stuck
  | [.tup ds] => if ds.length ≤ sizeLine then .ok ds else .stuck
  | _ => .stuck
theorem sn_list (hg : Gl X "list") (hm : X.mg "list" = none) (ha : SAB c X [e] av) (he : starEach [e] X.env = (false, eval e X.env) :: starEach [] X.env := by rfl) (hpl : (backTo pos (starEach [] X.env)).any (·.1) = false := by rfl) :
    SN c X (.Call (.Name "list" p) [e] [] pos) (lList av) := by
  refine ⟨pe_imp (pe_callTy call_list_of hg hm (by decide +kernel) ha.pa (by decide) (by decide) he hpl) fun σ H Q ⟨F, ρ, r, q⟩ => ?_⟩
  refine tN_bind r q fun vs ds H1 F1 g r1 rp q1 => ?_
  split at q1
  · rename_i es'
    obtain ⟨v, rfl, hv⟩ := repsB1 rp
    obtain ⟨a, ws, rfl, h1, h2⟩ := hv.lst r1.le
    by_cases hz : es'.length ≤ sizeLine
    · rw [if_pos hz] at q1
      exact ⟨a, ws, rfl, .inl (.inl (.inl h1)), fun l n => q1 l ws H1 F1 r1.refl n h2 (by rw [h2.length]; exact hz)⟩
    · rw [if_neg hz] at q1; exact q1.elim
  · rename_i es'
    obtain ⟨v, rfl, hv⟩ := repsB1 rp
    obtain ⟨a, ws, rfl, h1, h2⟩ := hv.tup r1.le
    by_cases hz : es'.length ≤ sizeLine
    · rw [if_pos hz] at q1
      exact ⟨a, ws, rfl, .inr h1, fun l n => q1 l ws H1 F1 r1.refl n h2 (by rw [h2.length]; exact hz)⟩
    · rw [if_neg hz] at q1; exact q1.elim
  · exact q1.elim
def lListR (a : Ev) : Av := fun ρ => (a ρ).bind fun x => match x with
  | .int n => if (decide (0 ≤ n) && decide (n ≤ 1000000)) = true then .ok (rgD 0 n) else .stuck
  | _ => .stuck
theorem rgV_rgD {K : Kc} {F : Hp} (lo hi : Int) : Reps K F (rgV lo hi) (rgD lo hi) := by
  unfold rgV rgD
  generalize (hi - lo).toNat = n
  have : ∀ l : List Nat, Reps K F (l.map fun i => V.int (lo + (i : Nat))) (l.map fun i => D.int (lo + (i : Nat))) := fun l => by
    induction l with
    | nil => exact .nil
    | cons x r ih => exact .cons (.int _) ih
  exact this _
theorem sn_listR {p3 p4 : Pos} (hc : X.calm = true) (hg : Gl X "list") (hm : X.mg "list" = none) (hg2 : Gl X "range") (hm2 : X.mg "range" = none) (ha : SE c X a ea) (na : starEach [a] X.env = (false, eval a X.env) :: starEach [] X.env := by rfl)
    (nb : starEach [.Call (.Name "range" p3) [a] [] p4] X.env = (false, eval (.Call (.Name "range" p3) [a] [] p4) X.env) :: starEach [] X.env := by rfl) : SN c X (.Call (.Name "list" p) [.Call (.Name "range" p3) [a] [] p4] [] pos) (lListR ea) := by
  refine ⟨pe_imp (pe_listRg hc hg hm (prg_1 hg2 hm2 ha.pe na) nb) fun σ H Q ⟨F, ρ, r, q⟩ => ?_⟩
  refine tN_bind r q fun v dv H1 F1 g r1 rp q1 => ?_
  cases dv with
  | int n =>
    have q1' : FinN (X.kc c) c F1 H1 (if (decide (0 ≤ n) && decide (n ≤ 1000000)) = true then .ok (rgD 0 n) else .stuck) Q := q1
    by_cases hz : (decide (0 ≤ n) && decide (n ≤ 1000000)) = true
    · rw [if_pos hz] at q1'
      rw [Bool.and_eq_true, decide_eq_true_eq, decide_eq_true_eq] at hz
      cases rp
      refine ⟨n, rfl, RgOk.of_le (Int.le_refl 0) (by omega) (by omega) hz.1, fun p' n' => q1' p' _ H1 F1 r1.refl n' (rgV_rgD 0 n) ?_⟩
      rw [rgV_length, sizeLine_eq]; omega
    · rw [if_neg hz] at q1'; exact q1'.elim
  | _ => exact q1.elim
def lCat (a b : Ev) : Av := fun ρ => (a ρ).bind fun x => (b ρ).bind fun y => match x, y with
  | .lst ds, .lst es => if ds.length + es.length ≤ sizeLine then .ok (ds ++ es) else .stuck
  | _, _ => .stuck
theorem sn_cat (ha : SB c X a ea) (hb : SB c X b eb) : SN c X (.BinOp a .Add b pos) (lCat ea eb) := by
  refine ⟨pe_imp (pe_op op_cat ha.pe hb.pe) fun σ H Q ⟨F, ρ, r, q⟩ => ?_⟩
  refine tN_bind r q fun v dv H1 F1 g r1 rp q1 => ?_
  refine tN_bind r1 q1 fun w dw H2 F2 g2 r2 rw' q2 => ?_
  split at q2
  · rename_i ds es'
    obtain ⟨a1, vs, rfl, h1, h2⟩ := rp.lst r1.le
    obtain ⟨a2, ws, rfl, h3, h4⟩ := rw'.lst r2.le
    by_cases hz : ds.length + es'.length ≤ sizeLine
    · rw [if_pos hz] at q2
      have hz' : vs.length + ws.length ≤ sizeLine := by rw [h2.length, h4.length]; exact hz
      exact ⟨a1, a2, vs, ws, rfl, rfl, g2.h _ _ h1, h3, hz', fun p' n => q2 p' _ H2 F2 r2.refl n ((h2.mono g2.f).append h4) (by rw [List.length_append]; exact hz')⟩
    · rw [if_neg hz] at q2; exact q2.elim
  · exact q2.elim
/-! sep.join(xs) -/
def eJoin (a b : Ev) : Ev := fun ρ => (a ρ).bind fun x => (b ρ).bind fun y => Res.of (fJoin x [y])
theorem se_join (ha : SE c X a ea) (hstr : ∀ ρ d, ea ρ = .ok d → ∃ s, d = .str s) (hb : SB c X b eb) (hs : starEach [b] X.env = [(false, eval b X.env)] := by rfl) (hbase : attributeBase a "join" X.env (eval a X.env) = eval a X.env := by rfl) (hline : (apos.endLine == pos.line) = true := by rfl) :
    SE c X (.Call (.Attribute a "join" apos) [b] [] pos) (eJoin ea eb) := by
  refine ⟨pe_imp (pe_join ha.pe hb.pe hs hbase hline) fun σ H Q ⟨F, ρ, r, q⟩ => ⟨F, ρ, r, ?_⟩⟩
  unfold eJoin at q
  cases z : ea ρ with
  | ok dv =>
    rw [z] at q
    obtain ⟨s, rfl⟩ := hstr ρ dv z
    intro v H1 F1 g rp
    cases rp
    refine ⟨⟨s, rfl⟩, ?_⟩
    have q0 : FinG (X.kc c) c (rE (X.kc c)) F1 H1 ((eb ρ).bind fun y => Res.of (fJoin (.str s) [y])) Q := FinG.grow g q
    refine tG_bind (r.grow g) q0 fun w dw H2 F2 g2 r2 rw' q2 => ?_
    obtain ⟨dz, e, q3⟩ := finOf q2
    unfold fJoin at e
    split at e
    · rename_i a' ds ea' eb'
      cases ea'
      cases eb'
      obtain ⟨ys, e1, e2⟩ := Option.bind_eq_some_iff.mp e
      have e3 := strs?_eq e1; subst e3
      obtain ⟨l, vs, rfl, h1, h2⟩ := rw'.lst r2.le
      have e4 := h2.strs; subst e4
      split at e2
      · rename_i hz
        cases e2
        exact ⟨s, l, ys, rfl, rfl, .inl (.inl (.inl h1)), hz, q3 _ H2 F2 r2.refl (.str _)⟩
      · cases e2
    · cases e
  | exc C fs => rw [z] at q; exact q
  | stuck => rw [z] at q; exact q
/-! max(xs, default = d) -/
def rMaxD (K : PySem.W.Frag) : List V → List V → Hp → VK → Prop := fun vs zs H Q => ∃ (a : Addr) (ns : List Int) (k : Int), vs = [V.ref a] ∧ zs = [V.int k] ∧ SqL K H a (ns.map V.int) ∧ Q (.int (if ns.isEmpty = true then k else maxL ns)) H
theorem foldl_max : ∀ (ns : List Int) (n : Int), ns.foldl max n = maxL (n :: ns)
  | [], n => rfl
  | k :: ns, n => by
    show ns.foldl max (max n k) = max n (maxL (k :: ns))
    rw [foldl_max ns (max n k)]
    cases ns with
    | nil => rfl
    | cons m r =>
      show max (max n k) (maxL (m :: r)) = max n (max k (maxL (m :: r)))
      omega
theorem ints_reads {h : Heap} : ∀ {us : List Value} {ns : List Int}, IntsAre us ns → ReadsAll h us (ns.map PyData.int) []
  | _, _, .nil => .nil
  | _, _, .cons n t r => by
    have := ReadsAll.cons (Reads.int (h := h) n t) (ints_reads (h := h) r)
    simpa using this
theorem alike_ints (ns : List Int) : PySem.W.AlikeAll (ns.map PyData.int) := by
  refine ⟨fun x hx y hy => ?_, fun x hx => ?_⟩
  · obtain ⟨a, _, rfl⟩ := List.mem_map.mp hx
    obtain ⟨b, _, rfl⟩ := List.mem_map.mp hy
    rfl
  · obtain ⟨a, _, rfl⟩ := List.mem_map.mp hx
    intro z; cases z
theorem depth_ints : ∀ ns : List Int, PyData.depthAll (ns.map PyData.int) ≤ 1
  | [] => by unfold PyData.depthAll; exact Nat.zero_le _
  | n :: ns => by
    have := depth_ints ns
    rw [List.map_cons]
    unfold PyData.depthAll
    have h : (PyData.int n).depth ≤ 1 := by unfold PyData.depth; decide
    omega
theorem cr_maxD (hc : X.calm = true) (hu : X.A.units + 64 < cLine) : CallRK X (.builtin "max") [Str.ofString "default"] (rMaxD X.K) := by
  intro pins s σ H xs zs us ws Q I r1 r2 h
  obtain ⟨a, ns, k, rfl, rfl, hs, q⟩ := h
  obtain ⟨its, rv, hl, _⟩ := I.list hs
  rw [Vals.ref1 r1]
  obtain ⟨u, rfl, t, rfl⟩ := vals1 r2
  have hd := depth_ints ns
  refine PySem.W.max_list_default (I.ok.hd hc) hl.isList (ints_reads rv.ints) (alike_ints ns) (by omega) (fun e h' tk hk => ?_) fun y ys i v h' tk bs e hv hr hk => ?_
  · have e' : ns = [] := List.map_eq_nil_iff.mp e
    subst e'
    exact ⟨.int k, H, I.kept hk, ⟨t, rfl⟩, q⟩
  · cases ns with
    | nil => cases e
    | cons n ns =>
      rw [List.map_cons] at e
      injection e with e1 e2
      subst e1 e2
      rw [PySem.W.maxD_ints, foldl_max] at hr
      cases hr
      exact ⟨.int _, H, I.kept hk, ⟨_, rfl⟩, q⟩
def eMaxD (as : Av) (k : Ev) : Ev := fun ρ => (as ρ).bind fun xs => (k ρ).bind fun z => match xs, z with
  | [.lst ds], .int k => match ints? ds with
    | some ns => .ok (.int (if ns.isEmpty = true then k else maxL ns))
    | none => .stuck
  | _, _ => .stuck
theorem se_maxD {kp : Pos} (hc : X.calm = true) (hu : X.A.units + 64 < cLine) (hg : Gl X "max") (hm : X.mg "max" = none) (ha : SAB c X [e] av) (hk : SE c X d ed)
    (he : backTo pos (starEach [e] X.env) = (false, eval e X.env) :: backTo pos (starEach [] X.env) := by rfl) (hpl : (backTo pos (starEach [e] X.env)).any (·.1) = false := by rfl)
    (hall : (backToKw pos (keywordEach [⟨some (Str.ofString "default"), d, kp⟩] X.env)).all (·.1.isSome) = true := by rfl) (hnone : (backToKw pos (keywordEach [⟨some (Str.ofString "default"), d, kp⟩] X.env)).any (·.1.isNone) = false := by rfl) (hks : (backToKw pos (keywordEach [⟨some (Str.ofString "default"), d, kp⟩] X.env)).filterMap (·.1) = [Str.ofString "default"] := by rfl) :
    SE c X (.Call (.Name "max" p) [e] [⟨some (Str.ofString "default"), d, kp⟩] pos) (eMaxD av ed) := by
  refine ⟨pe_imp (pe_callBK (cr_maxD hc hu) hg hm (by decide +kernel) ha.pa (pk_cons hk.pe pk_nil) (by decide) (by decide) he hpl hall hnone hks) fun σ H Q ⟨F, ρ, r, q⟩ => ?_⟩
  refine tG_bind r q fun vs ds H1 F1 g r1 rp q1 => ?_
  refine tG_bind r1 q1 fun z dz H2 F2 g2 r2 rz q2 => ?_
  split at q2
  · rename_i ds' k
    split at q2
    · rename_i ns hn
      have e1 := ints?_eq hn; subst e1
      obtain ⟨v, rfl, hv⟩ := repsB1 rp
      obtain ⟨a, ws, rfl, h1, h2⟩ := hv.lst r1.le
      have e2 := h2.ints; subst e2
      cases rz
      exact ⟨a, ns, k, rfl, rfl, .inl (.inl (g2.h _ _ h1)), q2 _ H2 F2 r2.refl (.int _)⟩
    · exact q2.elim
  · exact q2.elim
/-! o.f -/
def fld (C : Nat) (f : Str) : D → Option D
  | .obj C' fs => if C' = C then fs.lookup f else none
  | _ => none
theorem se_fld {C : Nat} {f : Str} (hC : Cls X.K (c.cm C)) (hf : NoAttr X.K (c.cm C) f) (ha : SE c X e ea) (hb : attributeBase e f X.env (eval e X.env) = eval e X.env := by rfl) : SE c X (.Attribute e f pos) (e1 (fld C f) ea) := by
  refine ⟨pe_imp (pe_fld ha.pe hb) fun σ H Q ⟨F, ρ, r, q⟩ => ?_⟩
  refine tG_bind r q fun v dv H1 F1 g r1 rp q1 => ?_
  obtain ⟨dz, e, q3⟩ := finOf q1
  unfold fld at e
  split at e
  · rename_i C' fs
    split at e
    · rename_i hcc
      subst hcc
      cases rp with
      | obj h1 h2 =>
        rename_i a dx fv
        obtain ⟨v, e1, e2⟩ := h2.look e
        exact ⟨a, _, dx, fv, v, rfl, r1.le _ _ h1, hC, hf, e1, q3 v H1 F1 r1.refl e2⟩
    · cases e
  · cases e
end
end Pu

namespace Pu
open PySem PySem.Spec PyProof.Rows L2

/-! ### comprehensions -/
def Res.nx {α : Type} (r : Res α) : Res α := match r with
  | .ok a => .ok a
  | _ => .stuck
@[simp] theorem Res.nx_ok {α : Type} (a : α) : (Res.ok a).nx = .ok a := rfl
@[simp] theorem Res.nx_exc {α : Type} (C : Nat) (fs : List (Str × D)) : (Res.exc C fs : Res α).nx = .stuck := rfl
@[simp] theorem Res.nx_stuck {α : Type} : (Res.stuck : Res α).nx = .stuck := rfl
def lcGo (g : Gv) (tt : Tv) (ev : Ev) (ρ : PEnv) : List D → Res (List D)
  | [] => .ok []
  | d :: ds => match g d ρ with
    | none => .stuck
    | some ρ1 => (tt ρ1).nx.bind fun b => if b = true then (ev ρ1).nx.bind fun y => (lcGo g tt ev ρ ds).bind fun ys => .ok (y :: ys) else lcGo g tt ev ρ ds
def lLc (it : Av) (g : Gv) (ix : List Nat) (tt : Tv) (ev : Ev) : Av := fun ρ => (it ρ).bind fun ds => if ds.length ≤ sizeLine then lcGo g tt ev (wipeR ρ ix) ds else .stuck
def tYes' : Tv := fun _ => .ok true
abbrev Cc.nox (c : Cc) : Cc := { c with E := fun _ _ _ => False }
theorem Rel.nox {K : Kc} {c : Cc} {F H : Hp} {ρ : PEnv} {σ : Sg} (r : Rel K c F ρ σ H) : Rel K c.nox F ρ σ H := ⟨r.b, r.f0, r.le, r.nw, r.len, r.len2, r.sl⟩
theorem Rel.unnox {K : Kc} {c : Cc} {F H : Hp} {ρ : PEnv} {σ : Sg} (r : Rel K c.nox F ρ σ H) : Rel K c F ρ σ H := ⟨r.b, r.f0, r.le, r.nw, r.len, r.len2, r.sl⟩
theorem lcGo_len {g : Gv} {tt : Tv} {ev : Ev} {ρ : PEnv} : ∀ {ds ys : List D}, lcGo g tt ev ρ ds = .ok ys → ys.length ≤ ds.length
  | [], ys, e => by cases e; exact Nat.le_refl _
  | d :: ds, ys, e => by
    unfold lcGo at e
    split at e
    · cases e
    · rename_i ρ1 _
      cases zt : tt ρ1 with
      | ok b =>
        rw [zt] at e
        cases b with
        | true =>
          have e' : (ev ρ1).nx.bind (fun y => (lcGo g tt ev ρ ds).bind fun ys => .ok (y :: ys)) = .ok ys := e
          cases ze : ev ρ1 with
          | ok y =>
            rw [ze] at e'
            cases zr : lcGo g tt ev ρ ds with
            | ok zs => rw [zr] at e'; cases e'; exact Nat.succ_le_succ (lcGo_len zr)
            | exc C fs => rw [zr] at e'; cases e'
            | stuck => rw [zr] at e'; cases e'
          | exc C fs => rw [ze] at e'; cases e'
          | stuck => rw [ze] at e'; cases e'
        | false =>
          have e' : lcGo g tt ev ρ ds = .ok ys := e
          exact Nat.le_succ_of_le (lcGo_len e')
      | exc C fs => rw [zt] at e; cases e
      | stuck => rw [zt] at e; cases e
theorem lcGo_exc {g : Gv} {tt : Tv} {ev : Ev} {ρ : PEnv} {C : Nat} {fs : List (Str × D)} : ∀ {ds : List D}, lcGo g tt ev ρ ds ≠ .exc C fs
  | [], e => by cases e
  | d :: ds, e => by
    unfold lcGo at e
    split at e
    · cases e
    · rename_i ρ1 _
      cases zt : tt ρ1 with
      | ok b =>
        rw [zt] at e
        cases b with
        | true =>
          have e' : (ev ρ1).nx.bind (fun y => (lcGo g tt ev ρ ds).bind fun ys => .ok (y :: ys)) = .exc C fs := e
          cases ze : ev ρ1 with
          | ok y =>
            rw [ze] at e'
            cases zr : lcGo g tt ev ρ ds with
            | ok zs => rw [zr] at e'; cases e'
            | exc C fs => exact lcGo_exc zr
            | stuck => rw [zr] at e'; cases e'
          | exc C fs => rw [ze] at e'; cases e'
          | stuck => rw [ze] at e'; cases e'
        | false => exact lcGo_exc (show lcGo g tt ev ρ ds = _ from e)
      | exc C fs => rw [zt] at e; cases e
      | stuck => rw [zt] at e; cases e
/-- the heap without what stands at D -/
def del (H : Hp) (a : Addr) : Hp := fun b => if b = a then none else H b
theorem del_same {H : Hp} {a : Addr} : del H a a = none := if_pos rfl
theorem del_ne {H : Hp} {a b : Addr} (h : b ≠ a) : del H a b = H b := if_neg h
theorem upd_del {H : Hp} {a : Addr} {o : HO} (h : H a = some o) : upd (del H a) a o = H := by
  funext b
  by_cases e : b = a
  · subst e; rw [upd_same, h]
  · rw [upd_ne e, del_ne e]
theorem del_le {H : Hp} {a : Addr} : Same (del H a) H := fun b o e => by
  by_cases q : b = a
  · subst q; rw [del_same] at e; cases e
  · rwa [del_ne q] at e
theorem del_upd {H : Hp} {a : Addr} {o : HO} : del (upd H a o) a = del H a := by
  funext b
  by_cases e : b = a
  · subst e; rw [del_same, del_same]
  · rw [del_ne e, upd_ne e, del_ne e]
theorem le_del {F H : Hp} {a : Addr} (h : Same F H) (n : F a = none) : Same F (del H a) := fun b o e => by
  by_cases q : b = a
  · subst q; rw [n] at e; cases e
  · rw [del_ne q]; exact h b o e

section
variable {c : Cc} {X : Cx} {elt tg iter : Expr} {ifs : List Expr} {scope : Scope} {own : List (Str × Nat)} {pos spos py p : Pos} {it : Av} {g : Gv} {ix : List Nat} {tt : Tv} {ev : Ev} {y : Str} {i : Nat}
structure STs (c : Cc) (X : Cx) (ifs : List Expr) (tv : Tv) : Prop where
  pts : PTs X ifs (tT (X.kc c) c tv)
theorem pts_imp {X : Cx} {es : List Expr} {t t' : TT} (h : PTs X es t) (i : ∀ σ H Q, t' σ H Q → t σ H Q) : PTs X es t' := ⟨fun pins s σ H Q I q => h.run pins s σ H Q I (i σ H Q q)⟩
theorem sts_nil : STs c X [] tYes' := ⟨pts_imp pts_nil fun σ H Q ⟨F, ρ, r, q⟩ => q true H F r.refl rfl⟩
theorem sts_one {e : Expr} {tv : Tv} (h : ST c X e tv) : STs c X [e] tv := ⟨pts_one h.pt⟩
abbrev Bk (X : Cx) (s : Shared) (H : Hp) (C : Addr) (cl : List (Str × Addr)) (fp : List Addr) (scope : Scope) : Cx := X.blk s H scope (compEnvC scope cl C X.env) fp
theorem all_lt {ix : List Nat} {n : Nat} (h : (ix.all fun j => decide (j < n)) = true) : ∀ j ∈ ix, j < n := fun j hj => of_decide_eq_true (List.all_eq_true.mp h j hj)
theorem tLc_of {K : Kc} {σ : Sg} {H : Hp} {Q : VK} (hix : ∀ j ∈ ix, ∀ a, c.io ≠ some (j, a)) (hlt : ∀ j ∈ ix, j < c.n) (h : tNw K c (lLc it g ix tt ev) σ H Q) :
    tLc (tIt K c it) (tGt K c.nox ix g) (tT K c.nox tt) (tE K c.nox ev) ix σ H Q := by
  obtain ⟨F, ρ, r, q⟩ := h
  refine ⟨F, ρ, r, ?_⟩
  unfold lLc at q
  cases z : it ρ with
  | exc C fs => rw [z] at q; exact q
  | stuck => rw [z] at q; exact q
  | ok ds =>
    rw [z] at q
    intro J H1 F1 g1 w D nD
    have q0 : FinN K c F H (if ds.length ≤ sizeLine then lcGo g tt ev (wipeR ρ ix) ds else .stuck) Q := q
    by_cases hz : ds.length ≤ sizeLine
    · rw [if_pos hz] at q0
      have nF1 : F1 D = none := g1.le.free nD
      have q1 : FinN K c F1 H1 (lcGo g tt ev (wipeR ρ ix) ds) Q := by
        cases zz : lcGo g tt ev (wipeR ρ ix) ds with
        | ok ys => rw [zz] at q0; exact fun p vs H2 F2 g2 n rs hz => q0 p vs H2 F2 (g1.trans g2) n rs hz
        | exc C fs => exact absurd zz lcGo_exc
        | stuck => rw [zz] at q0; exact q0
      have r1 := r.grow g1
      -- what holds between the turns
      refine lc_it w (fun i H' => ∃ F' acc done, Grow F1 H1 F' (del H' D) ∧ H' D = some (.lst acc) ∧ Reps K F' acc done ∧ F' D = none ∧ acc.length ≤ i ∧
        ∃ ys, lcGo g tt ev (wipeR ρ ix) (ds.drop i) = .ok ys ∧ lcGo g tt ev (wipeR ρ ix) ds = .ok (done ++ ys)) ?_ ?_ ?_ ?_
      · cases zz : lcGo g tt ev (wipeR ρ ix) ds with
        | ok ys =>
          refine ⟨F1, [], [], ?_, upd_same, .nil, nF1, Nat.le_refl _, ys, by simpa using zz, rfl⟩
          rw [del_upd]
          have e : del H1 D = H1 := by
            funext b
            by_cases e : b = D
            · subst e; rw [del_same, nD]
            · rw [del_ne e]
          rw [e]
          exact r1.refl
        | exc C fs => exact absurd zz lcGo_exc
        | stuck => rw [zz] at q1; exact q1.elim
      · rintro i H' _ ⟨F', acc, done, g2, _⟩
        exact (g2.f.trans g2.le).trans del_le
      · rintro i x H' H2 hi ⟨F', acc, done, g2, eD, rs, nD', hl, ys, e1, e2⟩ yy
        have le' : Same F' H' := g2.le.trans del_le
        obtain ⟨F2, d, g3, ed, rp⟩ := yy F' g2.f le'
        have hd : ds.drop i = d :: ds.drop (i + 1) := by
          have hi' : i < ds.length := hi
          rw [List.drop_eq_getElem_cons hi']
          congr 1
          rw [List.getElem?_eq_getElem hi'] at ed
          exact Option.some.inj ed
        rw [hd] at e1
        unfold lcGo at e1
        have nF2 : F2 D = none := by
          cases w : F2 D with
          | none => rfl
          | some o =>
            rcases g3.nw D o w with v | v
            · rw [nD'] at v; cases v
            · rw [eD] at v; cases v
        have eD2 : H2 D = some (.lst acc) := g3.h _ _ eD
        -- the growth without D
        have g4 : Grow F1 H1 F2 (del H2 D) := by
          refine ⟨g2.f.trans g3.f, fun b o e => ?_, le_del g3.le nF2, fun b o e => ?_⟩
          · have nb : b ≠ D := fun z => by rw [z, nD] at e; cases e
            rw [del_ne nb]
            exact g3.h _ _ (del_le _ _ (g2.h _ _ e))
          · rcases g3.nw b o e with v | v
            · exact g2.nw b o v
            · exact .inr (Same.free (H := H1) (H' := H') (g2.h.trans del_le) v)
        have r2 : Rel K c F2 ρ σ H2 := (r1.grow g4).hmono del_le
        have r2w : Rel K c.nox F2 (wipeR ρ ix) (wipe σ ix) H2 := (Rel.wipe r2 ix hix hlt).nox
        split at e1
        · cases e1
        · rename_i ρ1 zg
          refine ⟨F2, _, d, ρ1, r2w, rp, zg, fun σ2 r3 w3 => ⟨w3.trans (wipe_wipe σ ix), ?_⟩⟩
          refine ⟨F2, ρ1, r3, ?_⟩
          cases zt : tt ρ1 with
          | exc C fs => rw [zt] at e1; cases e1
          | stuck => rw [zt] at e1; cases e1
          | ok b =>
            rw [zt] at e1
            intro b' H3 F3 g5 eb
            cases (show b' = b from eb)
            have grow2 : ∀ {F3 H3 : Hp}, Grow F2 H2 F3 H3 → F3 D = none ∧ H3 D = some (.lst acc) ∧ Grow F1 H1 F3 (del H3 D) := fun {F3 H3} g5 => by
              have n3 : F3 D = none := by
                cases w : F3 D with
                | none => rfl
                | some o =>
                  rcases g5.nw D o w with v | v
                  · rw [nF2] at v; cases v
                  · rw [eD2] at v; cases v
              refine ⟨n3, g5.h _ _ eD2, g4.f.trans g5.f, fun b o e => ?_, le_del g5.le n3, fun b o e => ?_⟩
              · have nb : b ≠ D := fun z => by rw [z, nD] at e; cases e
                rw [del_ne nb]
                exact g5.h _ _ (del_le _ _ (g4.h _ _ e))
              · rcases g5.nw b o e with v | v
                · exact g4.nw b o v
                · exact .inr (Same.free (H := H1) (H' := H2) (g4.h.trans del_le) v)
            cases b with
            | false =>
              refine iteF ?_
              obtain ⟨n3, e3, g6⟩ := grow2 g5
              exact ⟨F3, acc, done, g6, e3, rs.mono (g3.f.trans g5.f), n3, Nat.le_succ_of_le hl, ys, e1, e2⟩
            | true =>
              refine iteT ⟨F3, ρ1, r3.grow g5, ?_⟩
              have e1' : (ev ρ1).nx.bind (fun y => (lcGo g tt ev (wipeR ρ ix) (ds.drop (i + 1))).bind fun ys => .ok (y :: ys)) = .ok ys := e1
              cases ze : ev ρ1 with
              | exc C fs => rw [ze] at e1'; cases e1'
              | stuck => rw [ze] at e1'; cases e1'
              | ok yd =>
                rw [ze] at e1'
                intro v H4 F4 g7 rv
                obtain ⟨n4, e4, g8⟩ := grow2 (g5.trans g7)
                cases zr : lcGo g tt ev (wipeR ρ ix) (ds.drop (i + 1)) with
                | exc C fs => rw [zr] at e1'; cases e1'
                | stuck => rw [zr] at e1'; cases e1'
                | ok zs =>
                  rw [zr] at e1'
                  cases e1'
                  have hi' : i < ds.length := hi
                  refine ⟨acc, e4, by omega, F4, acc ++ [v], done ++ [yd], ?_, upd_same, ?_, n4, by rw [List.length_append]; exact Nat.succ_le_succ hl, zs, rfl, by rw [e2, List.append_assoc]; rfl⟩
                  · rw [del_upd]; exact g8
                  · exact (rs.mono ((g3.f.trans g5.f).trans g7.f)).append (.cons rv .nil)
      · rintro H' ⟨F', acc, done, g2, eD, rs, nD', hl, ys, e1, e2⟩
        rw [List.drop_length] at e1
        cases e1
        rw [List.append_nil] at e2
        rw [e2] at q1
        have := q1 D acc (del H' D) F' g2 del_same rs (Nat.le_trans hl hz)
        rwa [upd_del eD] at this
    · rw [if_neg hz] at q0; exact q0.elim
theorem sn_lc (hc : X.calm = true) (hN : X.N.Nodup) (hi : SI c X tg iter it) (ok : BlkOk X.N X.env.scope scope own) (hix : own.map (·.2) = ix) (io : ∀ j ∈ ix, ∀ a, c.io ≠ some (j, a))
    (hg : ∀ (s : Shared) (H : Hp) (C : Addr) (cl : List (Str × Addr)) (fp : List Addr), SG c.nox (Bk X s H C cl fp scope) tg ix g) (ht : ∀ (s : Shared) (H : Hp) (C : Addr) (cl : List (Str × Addr)) (fp : List Addr), STs c.nox (Bk X s H C cl fp scope) ifs tt)
    (he : ∀ (s : Shared) (H : Hp) (C : Addr) (cl : List (Str × Addr)) (fp : List Addr), SE c.nox (Bk X s H C cl fp scope) elt ev) (hs : ∀ x, foldedSetIterable iter X.env x = pure x := by intro _; rfl) (hlt : (ix.all fun j => decide (j < c.n)) = true := by rfl)  :
    SN c X (.ListComp elt [⟨tg, iter, ifs, 0⟩] scope pos) (lLc it g ix tt ev) := by
  subst hix
  refine ⟨pe_imp (pe_lc (te := tE (X.kc c) c.nox ev) (g := tGt (X.kc c) c.nox _ g) (tt := tT (X.kc c) c.nox tt) hc hN hi.pi ok (fun s H C cl fp => (hg s H C cl fp).pg) (fun s H C cl fp => (ht s H C cl fp).pts) (fun s H C cl fp => (he s H C cl fp).pe) hs) fun σ H Q h => ?_⟩
  exact tLc_of io (all_lt hlt) h
/-- name = [..], the model's own statement; the list is the name's own -/
theorem ss_ownLc (hc : X.calm = true) (hN : X.N.Nodup) (hy : X.N[i]? = some y) (hyl : X.env.scope.names.lookup y = some .local) (hsw : swapsWith (.ListComp elt [⟨tg, iter, ifs, 0⟩] scope pos) (some (.Name y py)) spos.line X.env = pure true)
    (hi : SI c X tg iter it) (ok : BlkOk X.N X.env.scope scope own) (hix : own.map (·.2) = ix) (io : ∀ j ∈ ix, ∀ a, c.io ≠ some (j, a)) (io2 : ∀ a, c.io ≠ some (i, a))
    (hg : ∀ (s : Shared) (H : Hp) (C : Addr) (cl : List (Str × Addr)) (fp : List Addr), SG c.nox (Bk X s H C cl fp scope) tg ix g) (ht : ∀ (s : Shared) (H : Hp) (C : Addr) (cl : List (Str × Addr)) (fp : List Addr), STs c.nox (Bk X s H C cl fp scope) ifs tt)
    (he : ∀ (s : Shared) (H : Hp) (C : Addr) (cl : List (Str × Addr)) (fp : List Addr), SE c.nox (Bk X s H C cl fp scope) elt ev) (hs : ∀ x, foldedSetIterable iter X.env x = pure x := by intro _; rfl) (hlt : (ix.all fun j => decide (j < c.n)) = true := by rfl) (hn : c.n = X.N.length := by rfl) :
    SS c X (.Assign [.Name y py] (.ListComp elt [⟨tg, iter, ifs, 0⟩] scope pos) spos) (sOwn i (lLc it g ix tt ev)) := by
  subst hix
  refine ⟨ps_imp (ps_setLc (te := tE (X.kc c) c.nox ev) (g := tGt (X.kc c) c.nox _ g) (tt := tT (X.kc c) c.nox tt) hc hN hy hyl hsw hi.pi ok (fun s H C cl fp => (hg s H C cl fp).pg) (fun s H C cl fp => (ht s H C cl fp).pts) (fun s H C cl fp => (he s H C cl fp).pe) hs) fun D σ H ⟨F, ρ, r, q⟩ => ?_⟩
  refine tLc_of io (all_lt hlt) ⟨F, ρ, r, ?_⟩
  unfold sOwn at q
  cases z : lLc it g (own.map (·.2)) tt ev ρ with
  | ok ds =>
    rw [z] at q
    intro p vs H1 F1 g n rp _
    have q' : FinS (X.kc c) c F (if i < ρ.length then .nx (ρ.set i (.own ds)) else .stuck) D := q
    by_cases hl : i < ρ.length
    · rw [if_pos hl] at q'
      exact q' _ _ F1 g.f ((r.grow g).setOwn io2 (lt_n hn hy) n rp)
    · rw [if_neg hl] at q'; exact q'.elim
  | exc C fs => rw [z] at q; exact q
  | stuck => rw [z] at q; exact q
theorem ss_setLc (hc : X.calm = true) (hN : X.N.Nodup) (hy : X.N[i]? = some y) (hyl : X.env.scope.names.lookup y = some .local) (hsw : swapsWith (.ListComp elt [⟨tg, iter, ifs, 0⟩] scope pos) (some (.Name y py)) spos.line X.env = pure true)
    (hi : SI c X tg iter it) (ok : BlkOk X.N X.env.scope scope own) (hix : own.map (·.2) = ix) (io : ∀ j ∈ ix, ∀ a, c.io ≠ some (j, a)) (io2 : ∀ a, c.io ≠ some (i, a))
    (hg : ∀ (s : Shared) (H : Hp) (C : Addr) (cl : List (Str × Addr)) (fp : List Addr), SG c.nox (Bk X s H C cl fp scope) tg ix g) (ht : ∀ (s : Shared) (H : Hp) (C : Addr) (cl : List (Str × Addr)) (fp : List Addr), STs c.nox (Bk X s H C cl fp scope) ifs tt)
    (he : ∀ (s : Shared) (H : Hp) (C : Addr) (cl : List (Str × Addr)) (fp : List Addr), SE c.nox (Bk X s H C cl fp scope) elt ev) (hs : ∀ x, foldedSetIterable iter X.env x = pure x := by intro _; rfl) (hlt : (ix.all fun j => decide (j < c.n)) = true := by rfl) (hn : c.n = X.N.length := by rfl) :
    SS c X (.Assign [.Name y py] (.ListComp elt [⟨tg, iter, ifs, 0⟩] scope pos) spos) (sSet i (eL (lLc it g ix tt ev))) := by
  subst hix
  refine ⟨ps_imp (ps_setLc (te := tE (X.kc c) c.nox ev) (g := tGt (X.kc c) c.nox _ g) (tt := tT (X.kc c) c.nox tt) hc hN hy hyl hsw hi.pi ok (fun s H C cl fp => (hg s H C cl fp).pg) (fun s H C cl fp => (ht s H C cl fp).pts) (fun s H C cl fp => (he s H C cl fp).pe) hs) fun D σ H ⟨F, ρ, r, q⟩ => ?_⟩
  refine tLc_of io (all_lt hlt) ⟨F, ρ, r, ?_⟩
  unfold sSet eL at q
  cases z : lLc it g (own.map (·.2)) tt ev ρ with
  | ok ds =>
    rw [z] at q
    intro p vs H1 F1 g n rp _
    have g2 := g.trans (Grow.laid (o := .lst vs) g.le n)
    exact q _ _ _ g2.f ((r.grow g2).set io2 (lt_n hn hy) (.lst upd_same (rp.mono (same_upd (g.le.free n)))))
  | exc C fs => rw [z] at q; exact q
  | stuck => rw [z] at q; exact q
end
end Pu

namespace Pu
open PySem PySem.Spec PyProof.Rows L2

/-! ### promises -/
def ini (m : Nat) (ds : List D) : PEnv := ds.map Slot.val ++ List.replicate (m - ds.length) .un
def Out.res : Out → Res D
  | .nx _ => .ok .non
  | .rt d => .ok d
  | .exc C fs => .exc C fs
  | _ => .stuck
/-- a def of n parameters and m names -/
def runFn (n m : Nat) (s : Sv) (ds : List D) : Res D := if ds.length = n then (s (ini m ds)).res else .stuck
/-- it answers Fn, and raises nothing -/
def PS0 (K : Kc) (Fn : List D → Res D) : Sp := fun vs H Q _ => ∃ F ds r, Same F H ∧ Reps K F vs ds ∧ Fn ds = .ok r ∧ ∀ v H' F', Grow F H F' H' → Rep K F' v r → Q v H'
/-- it answers Fn, or raises as Fn says -/
def PSX (K : Kc) (Fn : List D → Res D) : Sp := fun vs H Q E => ∃ F ds, Same F H ∧ Reps K F vs ds ∧ FinG K ⟨K.cm, H, F, E, none, 0, fun _ => none⟩ (rE K) F H (Fn ds) Q
theorem runFn_len {n m : Nat} {s : Sv} {ds : List D} (h : runFn n m s ds ≠ .stuck) : ds.length = n := by
  unfold runFn at h
  split at h
  · assumption
  · exact absurd rfl h
theorem start_get {N : List Str} {vs : List V} {i : Nat} {v : V} (h : vs[i]? = some v) : (L2.start N vs)[i]? = some (some v) := by
  unfold L2.start
  have hi : i < vs.length := (List.getElem?_eq_some_iff.mp h).1
  rw [List.getElem?_append_left (by simpa using hi), List.getElem?_map, h]; rfl
theorem rel_start {K : Kc} {E : XK} {F H : Hp} {vs : List V} {ds : List D} {N : List Str} (le : Same F H) (rs : Reps K F vs ds) (hl : ds.length ≤ N.length) : Rel K ⟨K.cm, H, F, E, none, N.length, fun _ => none⟩ F (ini N.length ds) (L2.start N vs) H := by
  have e := rs.length
  refine ⟨Same.refl H, Same.refl F, le, fun a o e => .inl e, ?_, ?_, fun _ => none, fun i s hs => ?_, fun i j a h => (nomatch h), fun i a h => (nomatch h), fun i a h => ?_⟩
  · unfold L2.start
    simp only [List.length_append, List.length_map, List.length_replicate]; omega
  · unfold ini
    simp only [List.length_append, List.length_map, List.length_replicate]; omega
  · unfold ini at hs
    by_cases hi : i < ds.length
    · rw [List.getElem?_append_left (by simpa using hi), List.getElem?_map] at hs
      rw [List.getElem?_eq_getElem hi] at hs
      cases hs
      obtain ⟨v, e1, e2⟩ := rs.get (List.getElem?_eq_getElem hi)
      exact ⟨rfl, v, start_get e1, e2⟩
    · rw [List.getElem?_append_right (by simpa using hi), List.getElem?_replicate] at hs
      split at hs
      · cases hs; rfl
      · cases hs
  · rcases h with h | ⟨_, _, h⟩ <;> cases h
theorem Bot.grow {c : Cc} {F F' H' : Hp} (b : Bot c F F' H') (e : F = c.F0) : Grow F c.B F' H' := ⟨b.f, b.b, b.le, fun a o q => by rw [e]; exact b.nw a o q⟩
section
variable {P : Program} {w : World} {K : Kc} {mg : Str → Option Value} {base : Heap}
theorem fn0 {x qual : Str} {st : Stmt} {f : Addr} {fd : FuncData} {N ps : List Str} {k n m : Nat} {s : Sv} (F : Fun K.K x qual st f fd) (S : FnScope N ps (defScope st)) (hn : ps.length = n) (hm : N.length = m)
    (hb : ∀ (cdv : Value) (A : Around) (outer : List PySem.Env) (s' : Shared) (H Fz : Hp) (E : XK), Room k (A.deeper (envOfC qual (defScope st) s'.heap.objs.size f cdv)) →
      SSs ⟨K.cm, H, Fz, fun _ _ _ => False, none, N.length, fun _ => none⟩ (cxOf CX0 P w K.K mg base N qual (defScope st) f cdv A outer s' H E).nox (defBody st) s) : FnOk P w K.K mg base CX0 (k + 1) f fd ps (PS0 K (runFn n m s)) := by
  subst hn hm
  refine F.ok S (fun vs H Q E h => ?_) (fun cdv A outer s' H vs Q E hr h => ?_)
  · obtain ⟨F, ds, r, le, rs, e, _⟩ := h
    rw [rs.length]
    exact runFn_len (by rw [e]; intro z; cases z)
  · obtain ⟨Fz, ds, r, le, rs, e, q⟩ := h
    have hl : ds.length = ps.length := runFn_len (s := s) (m := N.length) (by rw [e]; intro z; cases z)
    have hN : ps.length ≤ N.length := by
      have := congrArg List.length S.pre
      rw [List.length_take] at this; omega
    refine ⟨_, (hb cdv A outer s' H Fz E hr).ps, Fz, ini N.length ds, rel_start le rs (by omega), ?_⟩
    unfold runFn at e
    rw [if_pos hl] at e
    have e' : (s (ini N.length ds)).res = .ok r := e
    cases z : s (ini N.length ds) with
    | nx ρ' =>
      rw [z] at e'
      cases e'
      exact fun σ' H' F' m r' => q .non H' F' ((r'.bot m).grow rfl) .non
    | rt d =>
      rw [z] at e'
      cases e'
      exact fun v H' F' b rp => q v H' F' (b.grow rfl) rp
    | bk ρ' => rw [z] at e'; cases e'
    | rm t ρ' => rw [z] at e'; cases e'
    | ct ρ' => rw [z] at e'; cases e'
    | exc C fs => rw [z] at e'; cases e'
    | stuck => rw [z] at e'; cases e'
theorem fnX {x qual : Str} {st : Stmt} {f : Addr} {fd : FuncData} {N ps : List Str} {k n m : Nat} {s : Sv} (F : Fun K.K x qual st f fd) (S : FnScope N ps (defScope st)) (hn : ps.length = n) (hm : N.length = m)
    (hb : ∀ (cdv : Value) (A : Around) (outer : List PySem.Env) (s' : Shared) (H Fz : Hp) (E : XK), Room k (A.deeper (envOfC qual (defScope st) s'.heap.objs.size f cdv)) →
      SSs ⟨K.cm, H, Fz, E, none, N.length, fun _ => none⟩ (cxOf (L2.CX P w) P w K.K mg base N qual (defScope st) f cdv A outer s' H E) (defBody st) s) : FnOk P w K.K mg base (L2.CX P w) (k + 1) f fd ps (PSX K (runFn n m s)) := by
  subst hn hm
  refine F.okX S (fun vs H Q E h => ?_) (fun cdv A outer s' H vs Q E hr h => ?_)
  · obtain ⟨F, ds, le, rs, q⟩ := h
    rw [rs.length]
    exact runFn_len (s := s) (m := N.length) (fun z => by rw [z] at q; exact q)
  · obtain ⟨Fz, ds, le, rs, q⟩ := h
    have hl : ds.length = ps.length := runFn_len (s := s) (m := N.length) (fun z => by rw [z] at q; exact q)
    have hN : ps.length ≤ N.length := by
      have := congrArg List.length S.pre
      rw [List.length_take] at this; omega
    refine ⟨_, (hb cdv A outer s' H Fz E hr).ps, Fz, ini N.length ds, rel_start le rs (by omega), ?_⟩
    unfold runFn at q
    rw [if_pos hl] at q
    have q' : FinG K ⟨K.cm, H, Fz, E, none, N.length, fun _ => none⟩ (rE K) Fz H ((s (ini N.length ds)).res) Q := q
    cases z : s (ini N.length ds) with
    | nx ρ' =>
      rw [z] at q'
      exact fun σ' H' F' m r' => q' .non H' F' ((r'.bot m).grow rfl) .non
    | rt d =>
      rw [z] at q'
      exact fun v H' F' b rp => q' v H' F' (b.grow rfl) rp
    | bk ρ' => rw [z] at q'; exact q'.elim
    | rm t ρ' => rw [z] at q'; exact q'.elim
    | ct ρ' => rw [z] at q'; exact q'.elim
    | exc C fs => rw [z] at q'; exact q'
    | stuck => rw [z] at q'; exact q'.elim
end

/-! ### calls -/
def eCall (Fn : List D → Res D) (as : Av) : Ev := fun ρ => (as ρ).bind fun ds => (Fn ds).nx
def scal' : D → Res D
  | .non => .ok .non
  | .bl b => .ok (.bl b)
  | .int i => .ok (.int i)
  | .str s => .ok (.str s)
  | _ => .stuck
def eCallB (Fn : List D → Res D) (as : Av) : Ev := fun ρ => (as ρ).bind fun ds => (Fn ds).nx.bind scal'
def eCallX (Fn : List D → Res D) (as : Av) : Ev := fun ρ => (as ρ).bind Fn
def aApp (as ks : Av) : Av := fun ρ => (as ρ).bind fun xs => (ks ρ).bind fun ys => .ok (xs ++ ys)
def oOk (C : Nat) (m : Str) : D → Bool
  | .obj C' fs => decide (C' = C) && (fs.lookup m).isNone
  | _ => false
def eMeth (C : Nat) (m : Str) (Fn : List D → Res D) (o : Ev) (as : Av) : Ev := fun ρ => (o ρ).bind fun x => if oOk C m x = true then (as ρ).bind fun ds => (Fn (x :: ds)).nx else .stuck
def eProp (C : Nat) (Fn : List D → Res D) (o : Ev) : Ev := fun ρ => (o ρ).bind fun x => match x with
  | .obj C' fs => if C' = C then (Fn [.obj C' fs]).nx else .stuck
  | _ => .stuck
theorem nx_fin {K : Kc} {c : Cc} {F H : Hp} {r : Res D} {Q : VK} (h : FinG K c (rE K) F H r.nx Q) : ∃ d, r = .ok d ∧ ∀ v H' F', Grow F H F' H' → Rep K F' v d → Q v H' := by
  cases r with
  | ok d => exact ⟨d, rfl, h⟩
  | exc C fs => exact h.elim
  | stuck => exact h.elim
section
variable {c : Cc} {X : Cx} {e a b d o : Expr} {es : List Expr} {kws : List Keyword} {ea eb ed eo : Ev} {av kv : Av} {pos p apos kpos : Pos} {x : Str} {CX : CXT} {k : Nat} {f C' : Addr} {fd : FuncData} {ps ks : List Str} {Fn : List D → Res D} {E : XK}
theorem repsB_reps {K : Kc} {F H : Hp} (le : Same F H) : ∀ {vs : List V} {ds : List D}, RepsB K F H vs ds → Reps K H vs ds
  | _, _, .nil => .nil
  | _, _, .cons h r => .cons (by
      rcases h with h | ⟨a, vs, ds, rfl, rfl, h1, h2⟩
      · exact h.mono le
      · exact .lst h1 (h2.mono le)) (repsB_reps le r)
/-- f(e, ..) -/
theorem se_call (F : FnOk X.prog X.w X.K X.mg X.base CX k f fd ps (PS0 (X.kc c) Fn)) (hr : Room k X.A) (hg : Gl X x) (hm : X.mg x = some (.ref f)) (hk : PySem.W.keepIn X.K (.ref f) = true) (hb : Binds X.K fd ps []) (hx : Passes CX X E0)
    (ha : SA c X (e :: es) av) (hdb : (x == ("__debug__" : Str)) = false := by decide) (he : starEach (e :: es) X.env = (false, eval e X.env) :: starEach es X.env := by rfl) (hpl : (backTo pos (starEach es X.env)).any (·.1) = false := by rfl) :
    SE c X (.Call (.Name x p) (e :: es) [] pos) (eCall Fn av) := by
  refine ⟨pe_imp (pe_call (E := E0) F hr hg hm hk hb .nil hx ha.pa hdb he hpl) fun σ H Q ⟨F, ρ, r, q⟩ => ?_⟩
  refine tG_bind r q fun vs ds H1 F1 g r1 rp q1 => ?_
  obtain ⟨rd, e1, q2⟩ := nx_fin q1
  rw [List.append_nil]
  exact ⟨F1, ds, rd, r1.le, rp, e1, q2⟩
theorem se_callBr (F : FnOk X.prog X.w X.K X.mg X.base CX k f fd ps (PS0 (X.kc c) Fn)) (hr : Room k X.A) (hg : Gl X x) (hm : X.mg x = some (.ref f)) (hk : PySem.W.keepIn X.K (.ref f) = true) (hb : Binds X.K fd ps []) (hx : Passes CX X E0)
    (ha : SAB c X (e :: es) av) (hdb : (x == ("__debug__" : Str)) = false := by decide) (he : starEach (e :: es) X.env = (false, eval e X.env) :: starEach es X.env := by rfl) (hpl : (backTo pos (starEach es X.env)).any (·.1) = false := by rfl) :
    SE c X (.Call (.Name x p) (e :: es) [] pos) (eCallB Fn av) := by
  refine ⟨pe_imp (pe_call (E := E0) F hr hg hm hk hb .nil hx ha.pa hdb he hpl) fun σ H Q ⟨F, ρ, r, q⟩ => ?_⟩
  refine tG_bind r q fun vs ds H1 F1 g r1 rp q1 => ?_
  rw [List.append_nil]
  cases z : Fn ds with
  | ok rd =>
    rw [z] at q1
    have q2 : FinG (X.kc c) c (rE (X.kc c)) F1 H1 (scal' rd) Q := q1
    refine ⟨H1, ds, rd, Same.refl H1, repsB_reps r1.le rp, z, fun v H' F' g2 rv => ?_⟩
    have g3 : Grow F1 H1 F1 H' := ⟨Same.refl F1, g2.h, r1.le.trans g2.h, fun a o e => .inl e⟩
    cases rv <;> first
      | exact q2 _ H' F1 g3 .non
      | exact q2 _ H' F1 g3 (.bl _)
      | exact q2 _ H' F1 g3 (.int _)
      | exact q2 _ H' F1 g3 (.str _)
      | exact q2.elim
  | exc C fs => rw [z] at q1; exact q1.elim
  | stuck => rw [z] at q1; exact q1.elim
/-- f(e, ..), f may raise -/
theorem se_callX (F : FnOk X.prog X.w X.K X.mg X.base CX k f fd ps (PSX (X.kc c) Fn)) (hr : Room k X.A) (hg : Gl X x) (hm : X.mg x = some (.ref f)) (hk : PySem.W.keepIn X.K (.ref f) = true) (hb : Binds X.K fd ps []) (hx : Passes CX X c.E)
    (ha : SA c X (e :: es) av) (hdb : (x == ("__debug__" : Str)) = false := by decide) (he : starEach (e :: es) X.env = (false, eval e X.env) :: starEach es X.env := by rfl) (hpl : (backTo pos (starEach es X.env)).any (·.1) = false := by rfl) :
    SE c X (.Call (.Name x p) (e :: es) [] pos) (eCallX Fn av) := by
  refine ⟨pe_imp (pe_call (E := c.E) F hr hg hm hk hb .nil hx ha.pa hdb he hpl) fun σ H Q ⟨F, ρ, r, q⟩ => ?_⟩
  refine tG_bind r q fun vs ds H1 F1 g r1 rp q1 => ?_
  rw [List.append_nil]
  refine ⟨F1, ds, r1.le, rp, ?_⟩
  cases z : Fn ds with
  | ok rd => rw [z] at q1; exact q1
  | exc C fs => rw [z] at q1; exact fun H' dd F' fv s h2 h3 h4 => q1 H' dd F' fv (r1.b.trans s) h2 h3 h4
  | stuck => rw [z] at q1; exact q1
/-! keywords -/
structure SK (c : Cc) (X : Cx) (kws : List Keyword) (av : Av) : Prop where
  pk : PK X kws (tA (X.kc c) c av)
theorem sk_nil : SK c X [] aN := ⟨pk_imp pk_nil fun σ H Q ⟨F, ρ, rl, q⟩ => q [] H F rl.refl .nil⟩
theorem sk_cons {nm : Option Str} (ha : SE c X e ea) (hr : SK c X kws av) : SK c X (⟨nm, e, kpos⟩ :: kws) (aC ea av) := by
  refine ⟨pk_imp (pk_cons ha.pe hr.pk) fun σ H Q ⟨F, ρ, rl, q⟩ => ?_⟩
  refine tG_bind rl q fun x dx H1 F1 g1 rl1 rx q1 => ?_
  refine tG_bind rl1 q1 fun xs ds H2 F2 g2 rl2 rs q2 => ?_
  exact q2 _ _ _ rl2.refl (.cons (rx.mono g2.f) rs)
def gK {α : Type} (n : Nat) (us ws : List α) : List α := if us.length = n then us ++ ws else []
theorem kb_of {K : PySem.W.Frag} {x qual : Str} {st : Stmt} {n m : Nat} (F : Fun K x qual st f fd) (hp : ps.length = n + m) (hpos : 0 < n + m)
    (h : ∀ (kV doc pm : Value) (an : Option Addr) (cdv ct : Value) (us ws : List Value), us.length = n → ws.length = m → bindArgs (PySem.W.fnOf x qual (defArgs st) (defBody st) (defScope st) .none kV doc pm an cdv ct) ⟨us, ks.zip ws⟩ = pure (ps.zip (us ++ ws))) :
    KBinds K fd ps ks (gK n) (gK n) := by
  obtain ⟨oc, od, kV, doc, pm, an, cdv, ct, osl, rfl, lk, hcd⟩ := F.ex
  refine ⟨fun s us ws _ hl => ?_, fun {vs us zs ws} r1 r2 => ?_⟩
  · unfold gK at hl ⊢
    by_cases hu : us.length = n
    · rw [if_pos hu] at hl ⊢
      rw [List.length_append] at hl
      exact .of_eq (h kV doc pm an cdv ct us ws hu (by omega))
    · rw [if_neg hu] at hl
      have : ps.length = 0 := hl.symm
      omega
  · unfold gK
    rw [r1.length]
    by_cases hu : us.length = n
    · rw [if_pos hu, if_pos hu]; exact r1.append r2
    · rw [if_neg hu, if_neg hu]; exact .nil
/-- f(e, .., k = v, ..): n values written by place -/
theorem se_callK {n : Nat} (F : FnOk X.prog X.w X.K X.mg X.base CX k f fd ps (PS0 (X.kc c) Fn)) (hr : Room k X.A) (hg : Gl X x) (hm : X.mg x = some (.ref f)) (hk : PySem.W.keepIn X.K (.ref f) = true) (hb : KBinds X.K fd ps ks (gK n) (gK n)) (hx : Passes CX X E0)
    (ha : SA c X (e :: es) av) (hkw : SK c X kws kv) (hav : ∀ ρ ds, av ρ = .ok ds → ds.length = n) (hall : (backToKw pos (keywordEach kws X.env)).all (·.1.isSome) = true := by rfl) (hks : (backToKw pos (keywordEach kws X.env)).filterMap (·.1) = ks := by rfl)
    (hdb : (x == ("__debug__" : Str)) = false := by decide) (he : starEach (e :: es) X.env = (false, eval e X.env) :: starEach es X.env := by rfl)
    (hpl : ((backTo pos (starEach (e :: es) X.env)).any (·.1) || (backToKw pos (keywordEach kws X.env)).any (·.1.isNone)) = false := by rfl) :
    SE c X (.Call (.Name x p) (e :: es) kws pos) (eCall Fn (aApp av kv)) := by
  refine ⟨pe_imp (pe_callK (E := E0) F hr hg hm hk hb hx ha.pa hkw.pk hall hks hdb he hpl) fun σ H Q ⟨F, ρ, r, q⟩ => ⟨F, ρ, r, ?_⟩⟩
  unfold eCall aApp at q
  rw [Res.bind_assoc] at q
  cases z : av ρ with
  | ok xs =>
    rw [z] at q
    intro vs H1 F1 g rp
    have q0 := FinG.grow g q
    have q0' : FinG (X.kc c) c (rE (X.kc c)) F1 H1 (((kv ρ).bind fun ys => .ok (xs ++ ys)).bind fun ds => (Fn ds).nx) Q := q0
    rw [Res.bind_assoc] at q0'
    refine tG_bind (r.grow g) q0' fun zs ys H2 F2 g2 r2 rz q1 => ?_
    have q1' : FinG (X.kc c) c (rE (X.kc c)) F2 H2 (Fn (xs ++ ys)).nx Q := q1
    obtain ⟨rd, e1, q2⟩ := nx_fin q1'
    refine ⟨F2, xs ++ ys, rd, r2.le, ?_, e1, q2⟩
    unfold gK
    rw [if_pos (by rw [rp.length]; exact hav ρ xs z)]
    exact (rp.mono g2.f).append rz
  | exc C fs => rw [z] at q; exact q
  | stuck => rw [z] at q; exact q
/-- .. that may raise -/
theorem se_callKX {n : Nat} (F : FnOk X.prog X.w X.K X.mg X.base CX k f fd ps (PSX (X.kc c) Fn)) (hr : Room k X.A) (hg : Gl X x) (hm : X.mg x = some (.ref f)) (hk : PySem.W.keepIn X.K (.ref f) = true) (hb : KBinds X.K fd ps ks (gK n) (gK n)) (hx : Passes CX X c.E)
    (ha : SA c X (e :: es) av) (hkw : SK c X kws kv) (hav : ∀ ρ ds, av ρ = .ok ds → ds.length = n) (hall : (backToKw pos (keywordEach kws X.env)).all (·.1.isSome) = true := by rfl) (hks : (backToKw pos (keywordEach kws X.env)).filterMap (·.1) = ks := by rfl)
    (hdb : (x == ("__debug__" : Str)) = false := by decide) (he : starEach (e :: es) X.env = (false, eval e X.env) :: starEach es X.env := by rfl)
    (hpl : ((backTo pos (starEach (e :: es) X.env)).any (·.1) || (backToKw pos (keywordEach kws X.env)).any (·.1.isNone)) = false := by rfl) :
    SE c X (.Call (.Name x p) (e :: es) kws pos) (eCallX Fn (aApp av kv)) := by
  refine ⟨pe_imp (pe_callK (E := c.E) F hr hg hm hk hb hx ha.pa hkw.pk hall hks hdb he hpl) fun σ H Q ⟨F, ρ, r, q⟩ => ⟨F, ρ, r, ?_⟩⟩
  unfold eCallX aApp at q
  rw [Res.bind_assoc] at q
  cases z : av ρ with
  | ok xs =>
    rw [z] at q
    intro vs H1 F1 g rp
    have q0 := FinG.grow g q
    have q0' : FinG (X.kc c) c (rE (X.kc c)) F1 H1 (((kv ρ).bind fun ys => .ok (xs ++ ys)).bind Fn) Q := q0
    rw [Res.bind_assoc] at q0'
    refine tG_bind (r.grow g) q0' fun zs ys H2 F2 g2 r2 rz q1 => ?_
    have q1' : FinG (X.kc c) c (rE (X.kc c)) F2 H2 (Fn (xs ++ ys)) Q := q1
    refine ⟨F2, xs ++ ys, r2.le, ?_, ?_⟩
    · unfold gK
      rw [if_pos (by rw [rp.length]; exact hav ρ xs z)]
      exact (rp.mono g2.f).append rz
    · cases zz : Fn (xs ++ ys) with
      | ok rd => rw [zz] at q1'; exact q1'
      | exc C fs => rw [zz] at q1'; exact fun H' dd F' fv s h2 h3 h4 => q1' H' dd F' fv (r2.b.trans s) h2 h3 h4
      | stuck => rw [zz] at q1'; exact q1'
  | exc C fs => rw [z] at q; exact q
  | stuck => rw [z] at q; exact q
/-! methods, properties -/
theorem oOk_lk {C : Nat} {m : Str} {d : D} (h : oOk C m d = true) : ∃ fs, d = .obj C fs ∧ fs.lookup m = none := by
  unfold oOk at h
  split at h
  · rw [Bool.and_eq_true, decide_eq_true_eq] at h
    obtain ⟨rfl, h⟩ := h
    exact ⟨_, rfl, Option.isNone_iff_eq_none.mp h⟩
  · cases h
theorem se_meth {C : Nat} {m : Str} {pl : Sem Bool} (he : SE c X o eo) (hC : Cls X.K (c.cm C)) (hm : Meth X.K (c.cm C) m f) (F : FnOk X.prog X.w X.K X.mg X.base CX k f fd ps (PS0 (X.kc c) Fn)) (hr : Room k X.A) (hb : Binds X.K fd ps []) (hx : Passes CX X E0) (ha : SA c X (e :: es) av)
    (hst : starEach (e :: es) X.env = (false, eval e X.env) :: starEach es X.env := by rfl) (hpl : (backTo pos (starEach es X.env)).any (·.1) = false := by rfl)
    (ht : eval (.Call (.Attribute o m apos) (e :: es) [] pos) X.env = (do
      let ov ← eval o X.env
      standAt apos.atName
      let (f, first) ← holding [ov] (getMethod ov m pl)
      callWith pos f first (backTo pos (starEach (e :: es) X.env)) (backToKw pos (keywordEach [] X.env))) := by rfl) :
    SE c X (.Call (.Attribute o m apos) (e :: es) [] pos) (eMeth C m Fn eo av) := by
  refine ⟨pe_imp (pe_meth (E := E0) he.pe hC hm F hr hb .nil hx ha.pa hst hpl ht) fun σ H Q ⟨F, ρ, r, q⟩ => ?_⟩
  refine tG_bind r q fun v dv H1 F1 g r1 rp q1 => ?_
  by_cases ho : oOk C m dv = true
  · rw [if_pos ho] at q1
    obtain ⟨fs, rfl, hl⟩ := oOk_lk ho
    cases rp with
    | obj h1 h2 =>
      rename_i a dx fv
      refine ⟨a, dx, fv, rfl, r1.le _ _ h1, h2.lookN hl, tG_bind r1 q1 fun vs ds H2 F2 g2 r2 rs q2 => ?_⟩
      obtain ⟨rd, e1, q3⟩ := nx_fin q2
      rw [List.append_nil]
      exact ⟨F2, _, rd, r2.le, .cons (.obj (g2.f _ _ h1) (h2.mono g2.f)) rs, e1, q3⟩
  · rw [if_neg ho] at q1; exact q1.elim
theorem se_meth0 {C : Nat} {m : Str} {pl : Sem Bool} (he : SE c X o eo) (hC : Cls X.K (c.cm C)) (hm : Meth X.K (c.cm C) m f) (F : FnOk X.prog X.w X.K X.mg X.base CX k f fd ps (PS0 (X.kc c) Fn)) (hr : Room k X.A) (hb : Binds X.K fd ps []) (hx : Passes CX X E0)
    (ht : eval (.Call (.Attribute o m apos) [] [] pos) X.env = (do
      let ov ← eval o X.env
      standAt apos.atName
      let (f, first) ← holding [ov] (getMethod ov m pl)
      callWith pos f first (backTo pos (starEach [] X.env)) (backToKw pos (keywordEach [] X.env))) := by rfl) :
    SE c X (.Call (.Attribute o m apos) [] [] pos) (eMeth C m Fn eo aN) := by
  refine ⟨pe_imp (pe_meth0 (E := E0) he.pe hC hm F hr hb .nil hx ht) fun σ H Q ⟨F, ρ, r, q⟩ => ?_⟩
  refine tG_bind r q fun v dv H1 F1 g r1 rp q1 => ?_
  by_cases ho : oOk C m dv = true
  · rw [if_pos ho] at q1
    obtain ⟨fs, rfl, hl⟩ := oOk_lk ho
    cases rp with
    | obj h1 h2 =>
      rename_i a dx fv
      obtain ⟨rd, e1, q3⟩ := nx_fin (show FinG (X.kc c) c (rE (X.kc c)) F1 H1 (Fn [.obj C fs]).nx Q from q1)
      exact ⟨a, dx, fv, rfl, r1.le _ _ h1, h2.lookN hl, F1, _, rd, r1.le, .cons (.obj h1 h2) .nil, e1, q3⟩
  · rw [if_neg ho] at q1; exact q1.elim
theorem se_prop {C : Nat} {nm : Str} {pp : Addr} (he : SE c X o eo) (hC : Cls X.K (c.cm C)) (hp : PropOf X.K (c.cm C) nm pp f) (F : FnOk X.prog X.w X.K X.mg X.base CX k f fd ps (PS0 (X.kc c) Fn)) (hr : Room (k + 1) X.A) (hb : Binds X.K fd ps []) (hx : Passes CX X.nox E0)
    (hab : attributeBase o nm X.env (eval o X.env) = eval o X.env := by rfl) : SE c X (.Attribute o nm pos) (eProp C Fn eo) := by
  refine ⟨pe_imp (pe_prop (E := E0) he.pe hC hp F hr hb .nil hx hab) fun σ H Q ⟨F, ρ, r, q⟩ => ?_⟩
  refine tG_bind r q fun v dv H1 F1 g r1 rp q1 => ?_
  cases dv with
  | obj C'' fs =>
    have q1' : FinG (X.kc c) c (rE (X.kc c)) F1 H1 (if C'' = C then (Fn [.obj C'' fs]).nx else .stuck) Q := q1
    by_cases hcc : C'' = C
    · subst hcc
      rw [if_pos rfl] at q1'
      cases rp with
      | obj h1 h2 =>
        rename_i a dx fv
        obtain ⟨rd, e1, q3⟩ := nx_fin q1'
        exact ⟨a, dx, fv, rfl, r1.le _ _ h1, F1, _, rd, r1.le, .cons (.obj h1 h2) .nil, e1, q3⟩
    · rw [if_neg hcc] at q1'; exact q1'.elim
  | _ => exact q1.elim
end
end Pu

namespace Pu
open PySem PySem.Spec PyProof.Rows L2

/-! ### __init__ -/
/-- a new instance of class C, whose fields are as Fn says -/
def PIn (K : Kc) (C : Nat) (Fn : List D → Res (List (Str × D))) : Sp := fun vs H Q _ => ∃ x dx vs' F ds fs, vs = .ref x :: vs' ∧ H x = some (.ins (K.cm C) dx []) ∧ F x = none ∧ Same F H ∧ Reps K F vs' ds ∧ Fn ds = .ok fs ∧
  ∀ H' F' dx' fv, Grow F (del H x) F' (del H' x) → H' x = some (.ins (K.cm C) dx' fv) → RepF K F' fv fs → Q .non H'
def Slot.fsOf (C : Nat) : Option Slot → Res (List (Str × D))
  | some (Slot.ob C' fs) => if C' = C then .ok fs else .stuck
  | _ => .stuck
def Out.init (C : Nat) : Out → Res (List (Str × D))
  | .nx ρ => Slot.fsOf C ρ[0]?
  | _ => .stuck
def iniI (C m : Nat) (ds : List D) : PEnv := .ob C [] :: (ds.map Slot.val ++ List.replicate (m - 1 - ds.length) .un)
/-- an __init__ of n parameters (self among them) and m names -/
def runIn (C n m : Nat) (s : Sv) (ds : List D) : Res (List (Str × D)) := if ds.length + 1 = n then (s (iniI C m ds)).init C else .stuck
theorem rel_startI {K : Kc} {E : XK} {F H : Hp} {C : Nat} {x dx : Addr} {vs : List V} {ds : List D} {N : List Str} (hx : H x = some (.ins (K.cm C) dx [])) (nx : F x = none) (le : Same F H) (rs : Reps K F vs ds) (hl : ds.length + 1 ≤ N.length) :
    Rel K ⟨K.cm, del H x, F, E, some (0, x), N.length, fun _ => none⟩ F (iniI C N.length ds) (L2.start N (.ref x :: vs)) H := by
  have e := rs.length
  refine ⟨del_le, Same.refl F, le, fun a o e => .inl e, ?_, ?_, oaSet (fun _ => none) 0 (some x), fun i s hs => ?_, fun i j a h1 h2 => ?_, fun i a h => ?_, fun i a h => ?_⟩
  · unfold L2.start
    simp only [List.length_append, List.length_map, List.length_replicate, List.length_cons]; omega
  · unfold iniI
    simp only [List.length_append, List.length_map, List.length_replicate, List.length_cons]; omega
  · cases i with
    | zero =>
      cases hs
      exact ⟨x, dx, [], rfl, start_get rfl, hx, .nil⟩
    | succ i =>
      have hs' : (ds.map Slot.val ++ List.replicate (N.length - 1 - ds.length) .un)[i]? = some s := hs
      by_cases hi : i < ds.length
      · rw [List.getElem?_append_left (by simpa using hi), List.getElem?_map] at hs'
        rw [List.getElem?_eq_getElem hi] at hs'
        cases hs'
        obtain ⟨v, e1, e2⟩ := rs.get (List.getElem?_eq_getElem hi)
        exact ⟨rfl, v, start_get (by simpa using e1), e2⟩
      · rw [List.getElem?_append_right (by simpa using hi), List.getElem?_replicate] at hs'
        split at hs'
        · cases hs'; rfl
        · cases hs'
  · by_cases q : i = 0
    · by_cases q' : j = 0
      · rw [q, q']
      · rw [oaSet_ne q'] at h2; cases h2
    · rw [oaSet_ne q] at h1; cases h1
  · by_cases q : i = 0
    · rw [q, oaSet_same] at h; cases h
      exact ⟨nx, del_same, by rw [q]; exact Nat.succ_pos _⟩
    · rw [oaSet_ne q] at h; cases h
  · rcases h with h | ⟨_, _, h⟩
    · cases h; rfl
    · cases h
section
variable {P : Program} {w : World} {K : Kc} {mg : Str → Option Value} {base : Heap}
theorem fnI {x qual : Str} {st : Stmt} {f : Addr} {fd : FuncData} {N ps : List Str} {k C n m : Nat} {s : Sv} (F : Fun K.K x qual st f fd) (S : FnScope N ps (defScope st)) (hn : ps.length = n) (hm : N.length = m)
    (hb : ∀ (cdv : Value) (A : Around) (outer : List PySem.Env) (s' : Shared) (H B Fz : Hp) (E : XK) (a : Addr), Room k (A.deeper (envOfC qual (defScope st) s'.heap.objs.size f cdv)) →
      SSs ⟨K.cm, B, Fz, fun _ _ _ => False, some (0, a), N.length, fun _ => none⟩ (cxOf CX0 P w K.K mg base N qual (defScope st) f cdv A outer s' H E).nox (defBody st) s) : FnOk P w K.K mg base CX0 (k + 1) f fd ps (PIn K C (runIn C n m s)) := by
  subst hn hm
  refine F.ok S (fun vs H Q E h => ?_) (fun cdv A outer s' H vs Q E hr h => ?_)
  · obtain ⟨x, dx, vs', F, ds, fs, rfl, hx, nx, le, rs, e, _⟩ := h
    rw [List.length_cons, rs.length]
    unfold runIn at e
    split at e
    · assumption
    · cases e
  · obtain ⟨x, dx, vs', Fz, ds, fs, rfl, hx, nx, le, rs, e, q⟩ := h
    unfold runIn at e
    split at e
    · rename_i hl
      have hN : ps.length ≤ N.length := by
        have := congrArg List.length S.pre
        rw [List.length_take] at this; omega
      refine ⟨_, (hb cdv A outer s' H (del H x) Fz E x hr).ps, Fz, iniI C N.length ds, rel_startI hx nx le rs (by omega), ?_⟩
      cases z : s (iniI C N.length ds) with
      | nx ρ' =>
        rw [z] at e
        intro σ' H' F' m r'
        have e' : Slot.fsOf C ρ'[0]? = .ok fs := e
        unfold Slot.fsOf at e'
        split at e'
        · rename_i C' fs' h0
          split at e'
          · rename_i hcc
            subst hcc
            cases e'
            obtain ⟨oa, h1, h2, h3, h4⟩ := r'.sl
            obtain ⟨a, dx', fv, o1, o2, o3, o4⟩ := h1 0 _ h0
            have o5 := h4 0 x (.inl rfl)
            rw [o1] at o5; cases o5
            obtain ⟨f1, b1, _⟩ := h3 0 x o1
            exact q H' F' dx' fv ⟨m, le_del r'.b del_same, le_del r'.le f1, fun b o e => r'.nw b o e⟩ o3 o4
          · cases e'
        · cases e'
      | rt d => rw [z] at e; cases e
      | bk ρ' => rw [z] at e; cases e
      | rm t ρ' => rw [z] at e; cases e
      | ct ρ' => rw [z] at e; cases e
      | exc C fs => rw [z] at e; cases e
      | stuck => rw [z] at e; cases e
    · cases e
end
/-! C(..): the instance is told to change no more -/
def eMake (C : Nat) (Fn : List D → Res (List (Str × D))) (as : Av) : Ev := fun ρ => (as ρ).bind fun ds => (Fn ds).nx.bind fun fs => .ok (.obj C fs)
theorem make_of {K : Kc} {C : Nat} {F H : Hp} {vs : List V} {ds : List D} {fs : List (Str × D)} {Fn : List D → Res (List (Str × D))} {E : XK} {Q : VK} (le : Same F H) (rs : Reps K F vs ds) (e : Fn ds = .ok fs)
    (q : ∀ v H' F', Grow F H F' H' → Rep K F' v (.obj C fs) → Q v H') (x dx : Addr) (hx : H x = none) (hd : H dx = none) (hne : dx ≠ x) :
    PIn K C Fn (.ref x :: vs) (upd (upd H dx (.own x)) x (.ins (K.cm C) dx [])) (fun v H2 => v = .non ∧ Q (.ref x) H2) E := by
  have nF : F x = none := le.free hx
  have s1 : Same H (upd (upd H dx (.own x)) x (.ins (K.cm C) dx [])) := (same_upd hd).trans (same_upd (by rw [upd_ne (Ne.symm hne)]; exact hx))
  refine ⟨x, dx, vs, F, ds, fs, rfl, upd_same, nF, le.trans s1, rs, e, fun H' F' dx' fv g hx' rf => ⟨rfl, ?_⟩⟩
  have nF' : F' x = none := by
    cases w : F' x with
    | none => rfl
    | some o =>
      have := g.le x o w
      rw [del_same] at this; cases this
  have m : Same F' (upd F' x (.ins (K.cm C) dx' fv)) := same_upd nF'
  refine q (.ref x) H' (upd F' x (.ins (K.cm C) dx' fv)) ⟨g.f.trans m, fun b o eb => ?_, fun b o eb => ?_, fun b o eb => ?_⟩ (.obj upd_same (rf.mono m))
  · have nb : b ≠ x := fun z => by rw [z, hx] at eb; cases eb
    exact del_le _ _ (g.h b o (by rw [del_ne nb]; exact s1 b o eb))
  · by_cases nb : b = x
    · subst nb; rw [upd_same] at eb; cases eb; exact hx'
    · rw [upd_ne nb] at eb; exact del_le _ _ (g.le b o eb)
  · by_cases nb : b = x
    · subst nb; exact .inr hx
    · rw [upd_ne nb] at eb
      rcases g.nw b o eb with z | z
      · exact .inl z
      · rw [del_ne nb] at z; exact .inr (s1.free z)
section
variable {c : Cc} {X : Cx} {e a b d o : Expr} {es : List Expr} {kws : List Keyword} {ea eb ed eo : Ev} {av kv : Av} {pos p apos kpos : Pos} {x : Str} {CX : CXT} {k C : Nat} {f : Addr} {fd : FuncData} {ps ks : List Str} {Fn : List D → Res (List (Str × D))} {E : XK}
theorem nxF {α : Type} {K : Kc} {c : Cc} {F H : Hp} {r : Res α} {k : α → Res D} {Q : VK} (h : FinG K c (rE K) F H (r.nx.bind k) Q) : ∃ a, r = .ok a ∧ FinG K c (rE K) F H (k a) Q := by
  cases r with
  | ok d => exact ⟨d, rfl, h⟩
  | exc C fs => exact h.elim
  | stuck => exact h.elim
theorem se_make (M : Mk X.K (c.cm C) f) (F : FnOk X.prog X.w X.K X.mg X.base CX k f fd ps (PIn (X.kc c) C Fn)) (hr : Room (k + 1) X.A) (hg : Gl X x) (hm : X.mg x = some (.ref (c.cm C))) (hb : Binds X.K fd ps []) (hx : Passes CX X E0)
    (ha : SA c X (e :: es) av) (hdb : (x == ("__debug__" : Str)) = false := by decide) (he : starEach (e :: es) X.env = (false, eval e X.env) :: starEach es X.env := by rfl) (hpl : (backTo pos (starEach es X.env)).any (·.1) = false := by rfl) :
    SE c X (.Call (.Name x p) (e :: es) [] pos) (eMake C Fn av) := by
  refine ⟨pe_imp (pe_make (E := E0) M F hr hg hm hb .nil hx ha.pa hdb he hpl) fun σ H Q ⟨F, ρ, r, q⟩ => ?_⟩
  refine tG_bind r q fun vs ds H1 F1 g r1 rp q1 => ?_
  obtain ⟨fs, e1, q2⟩ := nxF q1
  intro x dx hx hd hne
  rw [List.append_nil]
  exact make_of r1.le rp e1 q2 x dx hx hd hne
/-- C(e, .., k = v, ..) -/
theorem se_makeK {n : Nat} (M : Mk X.K (c.cm C) f) (F : FnOk X.prog X.w X.K X.mg X.base CX k f fd ps (PIn (X.kc c) C Fn)) (hr : Room (k + 1) X.A) (hg : Gl X x) (hm : X.mg x = some (.ref (c.cm C))) (hb : KBn X.K fd ps (n + 1) ks (fun us ws => us ++ ws) (fun us ws => us ++ ws)) (hx : Passes CX X E0)
    (ha : SA c X (e :: es) av) (hkw : SK c X kws kv) (hav : ∀ ρ ds, av ρ = .ok ds → ds.length = n) (hkv : ∀ ρ ds, kv ρ = .ok ds → ds.length = ks.length)
    (hall : (backToKw pos (keywordEach kws X.env)).all (·.1.isSome) = true := by rfl) (hks : (backToKw pos (keywordEach kws X.env)).filterMap (·.1) = ks := by rfl) (hdb : (x == ("__debug__" : Str)) = false := by decide)
    (he : starEach (e :: es) X.env = (false, eval e X.env) :: starEach es X.env := by rfl) (hpl : ((backTo pos (starEach (e :: es) X.env)).any (·.1) || (backToKw pos (keywordEach kws X.env)).any (·.1.isNone)) = false := by rfl) :
    SE c X (.Call (.Name x p) (e :: es) kws pos) (eMake C Fn (aApp av kv)) := by
  refine ⟨pe_imp (pe_makeK (E := E0) M F hr hg hm hb hx ha.pa hkw.pk hall hks hdb he hpl) fun σ H Q ⟨F, ρ, r, q⟩ => ⟨F, ρ, r, ?_⟩⟩
  unfold eMake aApp at q
  rw [Res.bind_assoc] at q
  cases z : av ρ with
  | ok xs =>
    rw [z] at q
    intro vs H1 F1 g rp
    have q0 := FinG.grow g q
    have q0' : FinG (X.kc c) c (rE (X.kc c)) F1 H1 (((kv ρ).bind fun ys => .ok (xs ++ ys)).bind fun ds => (Fn ds).nx.bind fun fs => .ok (.obj C fs)) Q := q0
    rw [Res.bind_assoc] at q0'
    refine ⟨F1, ρ, r.grow g, ?_⟩
    cases zk : kv ρ with
    | ok ys =>
      rw [zk] at q0'
      intro zs H2 F2 g2 rz
      have q1' : FinG (X.kc c) c (rE (X.kc c)) F2 H2 ((Fn (xs ++ ys)).nx.bind fun fs => .ok (.obj C fs)) Q := FinG.grow g2 q0'
      obtain ⟨fs, e1, q2⟩ := nxF q1'
      refine ⟨by rw [rp.length]; exact hav ρ xs z, by rw [rz.length]; exact hkv ρ ys zk, fun x dx hx hd hne => ?_⟩
      exact make_of g2.le ((rp.mono g2.f).append rz) e1 q2 x dx hx hd hne
    | exc C fs => rw [zk] at q0'; exact q0'
    | stuck => rw [zk] at q0'; exact q0'
  | exc C fs => rw [z] at q; exact q
  | stuck => rw [z] at q; exact q
theorem kbn_of {K : PySem.W.Frag} {x qual : Str} {st : Stmt} {n : Nat} (F : Fun K x qual st f fd)
    (h : ∀ (kV doc pm : Value) (an : Option Addr) (cdv ct : Value) (us ws : List Value), us.length = n → ws.length = ks.length → bindArgs (PySem.W.fnOf x qual (defArgs st) (defBody st) (defScope st) .none kV doc pm an cdv ct) ⟨us, ks.zip ws⟩ = pure (ps.zip (us ++ ws))) :
    KBn K fd ps n ks (fun us ws => us ++ ws) (fun us ws => us ++ ws) := by
  obtain ⟨oc, od, kV, doc, pm, an, cdv, ct, osl, rfl, lk, hcd⟩ := F.ex
  exact ⟨fun s us ws _ h1 h2 => .of_eq (h kV doc pm an cdv ct us ws h1 h2), fun r1 r2 => r1.append r2⟩
end
/-! ### a def that adds to a list of its caller's: its last parameter -/
def PIO (K : Kc) (Fn : List D → List D → Res (List D)) : Sp := fun vs H Q _ => ∃ vs' a xs F ds es rs, vs = vs' ++ [.ref a] ∧ H a = some (.lst xs) ∧ F a = none ∧ Same F H ∧ Reps K F vs' ds ∧ Reps K F xs es ∧ Fn ds es = .ok rs ∧
  ∀ H' F' xs', Grow F (del H a) F' (del H' a) → H' a = some (.lst xs') → Reps K F' xs' rs → Q .non H'
def Slot.ownOf : Option Slot → Res (List D)
  | some (Slot.own ds) => .ok ds
  | _ => .stuck
def Out.io (i : Nat) : Out → Res (List D)
  | .nx ρ => Slot.ownOf ρ[i]?
  | _ => .stuck
def iniO (m : Nat) (ds es : List D) : PEnv := ds.map Slot.val ++ .own es :: List.replicate (m - 1 - ds.length) .un
def runIO (n m : Nat) (s : Sv) (ds es : List D) : Res (List D) := if ds.length + 1 = n then (s (iniO m ds es)).io ds.length else .stuck
theorem rel_startO {K : Kc} {E : XK} {F H : Hp} {a : Addr} {xs vs : List V} {ds es : List D} {N : List Str} (ha : H a = some (.lst xs)) (na : F a = none) (le : Same F H) (rs : Reps K F vs ds) (re : Reps K F xs es) (hl : ds.length + 1 ≤ N.length) :
    Rel K ⟨K.cm, del H a, F, E, some (ds.length, a), N.length, fun _ => none⟩ F (iniO N.length ds es) (L2.start N (vs ++ [.ref a])) H := by
  have e := rs.length
  refine ⟨del_le, Same.refl F, le, fun a o e => .inl e, ?_, ?_, oaSet (fun _ => none) ds.length (some a), fun i s hs => ?_, fun i j a h1 h2 => ?_, fun i b h => ?_, fun i a h => ?_⟩
  · unfold L2.start
    simp only [List.length_append, List.length_map, List.length_replicate, List.length_cons, List.length_nil]; omega
  · unfold iniO
    simp only [List.length_append, List.length_map, List.length_replicate, List.length_cons, List.length_nil]; omega
  · unfold iniO at hs
    by_cases hi : i < ds.length
    · rw [List.getElem?_append_left (by simpa using hi), List.getElem?_map] at hs
      rw [List.getElem?_eq_getElem hi] at hs
      cases hs
      obtain ⟨v, e1, e2⟩ := rs.get (List.getElem?_eq_getElem hi)
      refine ⟨oaSet_ne (by omega), v, start_get ?_, e2⟩
      rw [List.getElem?_append_left (by omega)]; exact e1
    · rw [List.getElem?_append_right (by simpa using hi), List.length_map] at hs
      by_cases hi2 : i = ds.length
      · subst hi2
        rw [Nat.sub_self] at hs
        cases hs
        refine ⟨a, xs, oaSet_same, .inr (start_get ?_), ha, re⟩
        rw [← e, List.getElem?_append_right (Nat.le_refl _), Nat.sub_self]; rfl
      · obtain ⟨j, hj⟩ : ∃ j, i - ds.length = j + 1 := ⟨i - ds.length - 1, by omega⟩
        rw [hj, List.getElem?_cons_succ, List.getElem?_replicate] at hs
        split at hs
        · cases hs; exact oaSet_ne hi2
        · cases hs
  · by_cases q : i = ds.length
    · by_cases q' : j = ds.length
      · rw [q, q']
      · rw [oaSet_ne q'] at h2; cases h2
    · rw [oaSet_ne q] at h1; cases h1
  · by_cases q : i = ds.length
    · rw [q, oaSet_same] at h; cases h
      refine ⟨na, del_same, ?_⟩
      unfold iniO
      rw [q]; simp only [List.length_append, List.length_map, List.length_cons]; omega
    · rw [oaSet_ne q] at h; cases h
  · rcases h with h | ⟨_, _, h⟩
    · cases h; exact oaSet_same
    · cases h
section
variable {P : Program} {w : World} {K : Kc} {mg : Str → Option Value} {base : Heap}
theorem fnO {x qual : Str} {st : Stmt} {f : Addr} {fd : FuncData} {N ps : List Str} {k n m i : Nat} {s : Sv} (F : Fun K.K x qual st f fd) (S : FnScope N ps (defScope st)) (hn : ps.length = n) (hm : N.length = m) (hi : n = i + 1)
    (hb : ∀ (cdv : Value) (A : Around) (outer : List PySem.Env) (s' : Shared) (H B Fz : Hp) (E : XK) (a : Addr), Room k (A.deeper (envOfC qual (defScope st) s'.heap.objs.size f cdv)) →
      SSs ⟨K.cm, B, Fz, fun _ _ _ => False, some (i, a), N.length, fun _ => none⟩ (cxOf CX0 P w K.K mg base N qual (defScope st) f cdv A outer s' H E).nox (defBody st) s) : FnOk P w K.K mg base CX0 (k + 1) f fd ps (PIO K (runIO n m s)) := by
  subst hm
  refine F.ok S (fun vs H Q E h => ?_) (fun cdv A outer s' H vs Q E hr h => ?_)
  · obtain ⟨vs', a, xs, F, ds, es, rs, rfl, ha, na, le, r1, r2, e, _⟩ := h
    rw [List.length_append, r1.length, hn]
    unfold runIO at e
    split at e
    · assumption
    · cases e
  · obtain ⟨vs', a, xs, Fz, ds, es, rs, rfl, ha, na, le, r1, r2, e, q⟩ := h
    unfold runIO at e
    split at e
    · rename_i hl
      have hil : ds.length = i := by omega
      have hN : ps.length ≤ N.length := by
        have := congrArg List.length S.pre
        rw [List.length_take] at this; omega
      subst hil
      refine ⟨_, (hb cdv A outer s' H (del H a) Fz E a hr).ps, Fz, iniO N.length ds es, rel_startO ha na le r1 r2 (by omega), ?_⟩
      cases z : s (iniO N.length ds es) with
      | nx ρ' =>
        rw [z] at e
        intro σ' H' F' m r'
        have e' : Slot.ownOf ρ'[ds.length]? = .ok rs := e
        unfold Slot.ownOf at e'
        split at e'
        · rename_i ds' h0
          cases e'
          obtain ⟨oa, h1, h2, h3, h4⟩ := r'.sl
          obtain ⟨b, xs', o1, o2, o3, o4⟩ := h1 _ _ h0
          have o5 := h4 _ a (.inl rfl)
          rw [o1] at o5; cases o5
          obtain ⟨f1, b1, _⟩ := h3 _ a o1
          exact q H' F' xs' ⟨m, le_del r'.b del_same, le_del r'.le f1, fun b o e => r'.nw b o e⟩ o3 o4
        · cases e'
      | rt d => rw [z] at e; cases e
      | bk ρ' => rw [z] at e; cases e
      | rm t ρ' => rw [z] at e; cases e
      | ct ρ' => rw [z] at e; cases e
      | exc C fs => rw [z] at e; cases e
      | stuck => rw [z] at e; cases e
    · cases e
end
/-- f(e, .., x) as a statement, x a list of one's own -/
def sIO (i : Nat) (Fn : List D → List D → Res (List D)) (as : Av) : Sv := fun ρ => match ρ[i]? with
  | some (.own es) => Out.of (as ρ) fun ds => Out.of (Fn ds es).nx fun rs => .nx (ρ.set i (.own rs))
  | _ => .stuck
section
variable {c : Cc} {X : Cx} {e : Expr} {es es' : List Expr} {av : Av} {pos p p2 p3 : Pos} {x y : Str} {CX : CXT} {k i : Nat} {f : Addr} {fd : FuncData} {ps : List Str} {Fn : List D → List D → Res (List D)}
structure SAo (c : Cc) (X : Cx) (i : Nat) (es : List Expr) (av : Av) : Prop where
  pa : ∃ t, PA X es t ∧ ∀ (F H : Hp) (ρ : PEnv) (σ : Sg) (es' : List D) (R : List V → Hp → Prop), Rel (X.kc c) c F ρ σ H → ρ[i]? = some (.own es') → (match av ρ with
    | .ok ds => ∀ vs a H' F', Grow F H F' H' → σ[i]? = some (some (.ref a)) → Reps (X.kc c) F' vs ds → R (vs ++ [.ref a]) H'
    | .exc C fs => ExcW (X.kc c) c C fs
    | .stuck => False) → t σ H R
theorem sao_last (hN : X.N[i]? = some y := by rfl) (hn0 : c.n = X.N.length := by rfl) (hv : Vis X.env.scope y := by first | exact Or.inl rfl | exact Or.inr (Or.inl rfl) | exact Or.inr (Or.inr rfl)) (hd : (y == ("__debug__" : Str)) = false := by decide)
    (hcd : (y == ("__classdict__" : Str)) = false := by decide) (hs : starEach [.Name y p] X.env = (false, eval (.Name y p) X.env) :: starEach [] X.env := by rfl) : SAo c X i [.Name y p] aN := by
  refine ⟨_, pa_cons (pe_var hN hv hd hcd) pa_nil hs, fun F H ρ σ es' R r hi q => ?_⟩
  obtain ⟨a, vs, e1, e2, e3⟩ := r.own hi (lt_n hn0 hN)
  exact ⟨.ref a, e1, q [] a H F r.refl e1 .nil⟩
theorem sao_cons {ea : Ev} (ha : SE c X e ea) (hr : SAo c X i es av) (hs : starEach (e :: es) X.env = (false, eval e X.env) :: starEach es X.env := by rfl) : SAo c X i (e :: es) (aC ea av) := by
  obtain ⟨t, p1, p2⟩ := hr
  refine ⟨_, pa_cons ha.pe p1 hs, fun F H ρ σ es' R r hi q => ⟨F, ρ, r, ?_⟩⟩
  unfold aC at q
  cases z : ea ρ with
  | ok d =>
    rw [z] at q
    intro v H1 F1 g rp
    refine p2 F1 H1 ρ σ es' _ (r.grow g) hi ?_
    cases w : av ρ with
    | ok ds =>
      rw [w] at q
      exact fun vs a H2 F2 g2 e1 rs => q (v :: vs) a H2 F2 (g.trans g2) e1 (.cons (rp.mono g2.f) rs)
    | exc C fs => rw [w] at q; exact q
    | stuck => rw [w] at q; exact q
  | exc C fs => rw [z] at q; exact q
  | stuck => rw [z] at q; exact q
theorem ss_io (F : FnOk X.prog X.w X.K X.mg X.base CX k f fd ps (PIO (X.kc c) Fn)) (hr : Room k X.A) (hg : Gl X x) (hm : X.mg x = some (.ref f)) (hk : PySem.W.keepIn X.K (.ref f) = true) (hb : Binds X.K fd ps []) (hx : Passes CX X E0)
    (ha : SAo c X i (e :: es) av) (hdb : (x == ("__debug__" : Str)) = false := by decide) (he : starEach (e :: es) X.env = (false, eval e X.env) :: starEach es X.env := by rfl) (hpl : (backTo p2 (starEach es X.env)).any (·.1) = false := by rfl)
    (hs : swapsWith (.Call (.Name x p) (e :: es) [] p2) none pos.line X.env = pure false := by rfl) : SS c X (.Expr (.Call (.Name x p) (e :: es) [] p2) pos) (sIO i Fn av) := by
  obtain ⟨t, p1, q1⟩ := ha
  refine ⟨ps_imp (ps_expr (pe_call (E := E0) F hr hg hm hk hb .nil hx p1 hdb he hpl) hs) fun D σ H ⟨F, ρ, r, q⟩ => ?_⟩
  unfold sIO at q
  split at q
  · rename_i es0 hi
    refine q1 F H ρ σ es0 _ r hi ?_
    cases z : av ρ with
    | ok ds =>
      rw [z] at q
      intro vs a H1 F1 g e1 rs
      have r1 := r.grow g
      have q2 : FinS (X.kc c) c F1 (Out.of (Fn ds es0).nx fun rs => .nx (ρ.set i (.own rs))) D := FinS.mono g.f q
      cases w : Fn ds es0 with
      | ok rr =>
        rw [w] at q2
        obtain ⟨oa, h1, h2, h3, h4⟩ := r1.sl
        obtain ⟨b, xs, o1, o2, o3, o4⟩ := h1 _ _ hi
        rw [e1] at o2; rcases o2 with o2 | o2 <;> cases o2
        obtain ⟨f1, b1, _⟩ := h3 _ a o1
        rw [List.append_nil]
        refine ⟨vs, a, xs, F1, ds, es0, rr, rfl, o3, f1, r1.le, rs, o4, w, fun H' F' xs' g2 ha' rx => ?_⟩
        -- the frame over the change
        have f2 : F' a = none := by
          cases v : F' a with
          | none => rfl
          | some o =>
            have := g2.le a o v
            rw [del_same] at this; cases this
        have g3 : Grow F1 H1 F' (upd H' a (.lst xs)) := by
          refine ⟨g2.f, fun b o eb => ?_, fun b o eb => ?_, fun b o eb => ?_⟩
          · by_cases nb : b = a
            · subst nb; rw [o3] at eb; cases eb; exact upd_same
            · rw [upd_ne nb]; exact del_le _ _ (g2.h b o (by rw [del_ne nb]; exact eb))
          · have nb : b ≠ a := fun z => by rw [z, f2] at eb; cases eb
            rw [upd_ne nb]; exact del_le _ _ (g2.le b o eb)
          · rcases g2.nw b o eb with v | v
            · exact .inl v
            · by_cases nb : b = a
              · subst nb; rw [f2] at eb; cases eb
              · rw [del_ne nb] at v; exact .inr v
        have r3 := (r1.grow g3).putOwn hi e1 rx
        have eH : upd (upd H' a (.lst xs)) a (.lst xs') = H' := by
          rw [upd_upd]
          funext b
          by_cases nb : b = a
          · subst nb; rw [upd_same, ha']
          · rw [upd_ne nb]
        rw [eH] at r3
        exact q2 σ H' F' g2.f r3
      | exc C fs => rw [w] at q2; exact q2.elim
      | stuck => rw [w] at q2; exact q2.elim
    | exc C fs => rw [z] at q; exact q
    | stuck => rw [z] at q; exact q
  · exact q.elim
end
end Pu

namespace Pu
open PySem PySem.Spec PyProof.Rows L2

/-! ### an exception class whose __init__ says super().__init__("..") -/
/-- the def at f, with the cell of its class C -/
structure EFun (P : Program) (K : PySem.W.Frag) (x qual : Str) (st : Stmt) (f C cc cda : Addr) (fd : FuncData) : Prop where
  ex : ∃ (oc : Value) (od : Option Addr) (kV doc pm : Value) (an : Option Addr) (ct : Value) (osl : Array (Option Value)),
    fd = PySem.W.fnX x qual (defArgs st) (defBody st) (defScope st) [("__class__", cc)] .none kV doc pm an (.ref cda) ct ∧ K.lookup f = some ⟨oc, od, .func fd, osl⟩ ∧ PySem.W.codeIn K (.ref cda) qual = true
  code : ∃ (ccl : Value) (cdd : Option Addr) (vs : Array Value) (ccs : Array (Option Value)) (file : Str) (tf : Tok), K.lookup cda = some ⟨ccl, cdd, .fields vs, ccs⟩ ∧ vs[2]? = some (.str file tf) ∧ ((P.main.file : Str) == file) = true
  cell : ∃ (cl : Value) (cld : Option Addr) (csl : Array (Option Value)), K.lookup cc = some ⟨cl, cld, .cell (some (.ref C)), csl⟩
  hsub : PySem.W.mroIn K C (.ref C) = some true
  hB : PySem.W.subIn K (.ref C) (.type "ValueError") = some true
  hm : PySem.W.ks_superIn K C C "__init__" = some (some (.builtin "ValueError.__init__"))
  ho : PySem.W.nsIn K PySem.cStatics "thirdparty.any" = some none
  htop : (P.main.scope.names.lookup ("super" : Str)).isSome = false

section
variable {X : Cx} {pins : List (Addr × Obj)} {σ : L2.St} {H : Hp} {s : Shared} {a C u : Addr} {E : Value → Shared → Prop} {A : Around}
open PySem.W in
theorem mw_call {us : List Value} {Q : Value → Shared → Prop} (T : OexC X.K C) (I : Inv X pins σ H s) (e : H a = some (exo a C none)) (hu : s.heap.get? u = some (kxs_mw "ValueError.__init__" a)) (hl : us.length ≤ sizeLine) (h : ∀ s', Inv X pins σ H s' → Q .none s') :
    wpAny (model X.prog X.w) A (call (.ref u) us) Q E s := by
  obtain ⟨nm, q, N, bs, bm, sn, sub, ab, col, dd, k0, k1, k2, k3, k5, hC, hbm⟩ := T.cls
  obtain ⟨t1, ho⟩ := exo_at I.hok e
  obtain ⟨hp, g, d, t, os⟩ := s
  have FB := F.excBase_ValueError
  refine wpAny_call (codeAny_of_tree ?_)
  show wpAny _ A.in1 (callAny (.ref u) ⟨us, []⟩) _ _ _
  simp only [callAny]
  refine wpAny_bind (wpAny_load hu ?_)
  simp only [kxs_mw, show (Value.type "method-wrapper" == Value.type "method" || Value.type "method-wrapper" == Value.type "builtin_function_or_method" || Value.type "method-wrapper" == Value.type "method-wrapper") = true by decide, if_true]
  refine KFB.if_so (by decide) ?_
  refine wpAny_bind (check_bound_init FB.toExcCallFacts (I.kIn _ _ hC) ho rfl ?_)
  refine wpAny_bind (wpAny_pure (wpAny_pure ?_))
  refine ⟨plainId_quiet FB.init.plain _, codeAny_builtin FB.initEntry ?_⟩
  refine exc_init_tree (cls := .ref C) (t0 := t1) (dv := none) (c2 := .none) (c3 := .none) (b4 := .bool false) ho hl fun h' k hx _ => ?_
  have J := I.write (t' := t) (x := a) (e := a) (o := exo a C none) (by rw [e]; exact True.intro) (.inl rfl) k ⟨_, hx⟩ (exo_ok hx)
  have eu : upd H a (exo a C none) = H := by
    funext b
    by_cases hb : b = a
    · rw [hb, upd_same, e]
    · rw [upd_ne hb]
  rw [eu] at J
  exact h _ J
end
section
variable {P : Program} {w : World} {K : PySem.W.Frag} {mg : Str → Option Value} {base : Heap} {CX : CXT}
open PySem.W in
theorem fnE {x qual : Str} {st : Stmt} {f C cc cda : Addr} {fd : FuncData} {N ps : List Str} {ar : Arg} {k : Nat} {sp : Sp} {p0 p1 p2 p3 p4 p5 : Pos} {u : Nat} {txt : Str} {rest : List Stmt} (F : EFun P K x qual st f C cc cda fd) (T : OexC K C)
    (S : NdefX.NScope N ps ["__class__"] (defScope st)) (hp : ((defArgs st).posonlyargs ++ (defArgs st).args).head? = some ar) (h0 : ps[0]? = some ar.arg) (hgs : (defScope st).names.lookup ("super" : Str) = some .globalImplicit) (hmg : mg "super" = none)
    (hdb : (ar.arg == ("__debug__" : Str)) = false)
    (hbd : defBody st = .Expr (.Call (.Attribute (.Call (.Name "super" p0) [] [] p1) "__init__" p2) [.Constant (.str txt) u p5] [] p3) p4 :: rest)
    (hev : ∀ env : PySem.Env, ∃ pl : Sem Bool, eval (.Call (.Attribute (.Call (.Name "super" p0) [] [] p1) "__init__" p2) [.Constant (.str txt) u p5] [] p3) env = (do
      let ov ← attributeBase (.Call (.Name "super" p0) [] [] p1) "__init__" env (eval (.Call (.Name "super" p0) [] [] p1) env)
      standAt p2.atName
      let (f, first) ← holding [ov] (getMethod ov "__init__" pl)
      callWith p3 f first (backTo p3 (starEach [.Constant (.str txt) u p5] env)) []))
    (len : ∀ vs H Q E, sp vs H Q E → vs.length = ps.length) (first : ∀ vs H Q E, sp vs H Q E → ∃ a, vs[0]? = some (.ref a) ∧ H a = some (exo a C none))
    (hbody : ∀ (X : Cx) (vs : List V) (H : Hp) (Q : VK) (E : XK), X.N = N → X.env.scope = defScope st → X.K = K → X.calm = true → sp vs H Q E → ∃ t, PSs X rest t ∧ t { nx := fun _ H' => Q .non H', rt := Q } (NdefX.startF N vs [some (.ref C)]) H) :
    FnOk P w K mg base CX (k + 1) f fd ps sp := by
  obtain ⟨oc, od, kV, doc, pm, an, ct, osl, rfl, lk, hcd⟩ := F.ex
  obtain ⟨ccl, cdd, cvs, ccs, file, tf, hcode, hvs, hfile⟩ := F.code
  obtain ⟨cl, cld, csl, hcell⟩ := F.cell
  refine ⟨len, fun A outer s H args us vs Q E hr e0 hb r hsp => ?_⟩
  have hl := len _ _ _ _ hsp
  have KX : K.In s.heap := e0.mod.kin.keeps fun b o e => (e0.bs b o e).1
  have lim : s.heap.NoLimit := e0.mod.nolimit.keeps fun b o e => (e0.bs b o e).1
  -- the body's context
  have nf : NdefX.NF := ⟨x, qual, defArgs st, defBody st, defScope st, [("__class__", cc)], cda⟩
  refine codeAny_call_function hr.depth (KX _ _ lk) rfl S.co S.gen rfl (codeRec_of KX hcd) (hb _ _ _ _ ?_)
  refine wpAny_newFunctionEnv S.nocell (fun ⟨n, _⟩ hy => S.par n (List.of_mem_zip hy).1) (fun h₁ hns hsb => ⟨lim.fresh _ hsb, ?_⟩) S.kind
  have kp : ∀ b o, s.heap.get? b = some o → h₁.get? b = some o := fun b o e => hsb.extBut b o (Nat.ne_of_lt (Heap.lt_size e)) (Heap.get?_push_of_some _ e)
  have CA : NdefX.CellsAt [("__class__", cc)] ["__class__"] [some (V.ref C)] s.heap H := by
    have hcN : H cc = none := (e0.bs _ _ (e0.mod.kin _ _ hcell)).2
    have hic : s.heap.IsCell cc (some (.ref C)) := ⟨_, KX _ _ hcell, rfl⟩
    have key : ∀ {y : Str} {c : Addr}, List.lookup y [(("__class__" : Str), cc)] = some c → y = "__class__" ∧ c = cc := fun {y c} e => by
      rw [List.lookup_cons] at e
      cases q : (y == ("__class__" : Str)) with
      | true => rw [q] at e; exact ⟨beq_iff_eq.mp q, (Option.some.inj e).symm⟩
      | false => rw [q] at e; cases e
    refine ⟨rfl, fun y c e => ?_, fun x y c e1 e2 => (key e1).1.trans (key e2).1.symm, fun i y e => ?_⟩
    · obtain ⟨rfl, rfl⟩ := key e
      exact ⟨hcN, _, hic⟩
    · cases i with
      | zero =>
        cases e
        refine ⟨cc, by rw [List.lookup_cons]; rfl, fun v hv => ?_⟩
        cases hv
        exact ⟨.ref C, rfl, hic⟩
      | succ i => cases e
  have I : Inv (NdefX.ncx CX P w K mg base N ⟨x, qual, defArgs st, defBody st, defScope st, [("__class__", cc)], cda⟩ f A outer s H E) [] (NdefX.startF N vs [some (V.ref C)]) H { s with heap := h₁, toks := s.toks + (ps.zip us).length } :=
    NdefX.inv_startN (F := ⟨x, qual, defArgs st, defBody st, defScope st, [("__class__", cc)], cda⟩) S hr.hd e0 hl r CA hns kp
  show codeAny _ _ (.func (defBody st) (NdefX.envF ⟨x, qual, defArgs st, defBody st, defScope st, [("__class__", cc)], cda⟩ f s.heap.objs.size)) _ _
  refine ks_codeAny_funcAt ?_
  obtain ⟨t, ht, hq⟩ := hbody (NdefX.ncx CX P w K mg base N ⟨x, qual, defArgs st, defBody st, defScope st, [("__class__", cc)], cda⟩ f A outer s H E) vs H Q E rfl rfl rfl rfl hsp
  obtain ⟨a, hv0, hea⟩ := first _ _ _ _ hsp
  obtain ⟨pl, hpl⟩ := hev (NdefX.envF ⟨x, qual, defArgs st, defBody st, defScope st, [("__class__", cc)], cda⟩ f s.heap.objs.size)
  rw [show (execs (defBody st) : PySem.Env → Sem Flow) = execs _ from congrArg execs hbd]
  refine ks_wpAt_execs_cons (ks_wpAt_Expr_any (ks_wpAt_MethodCall (pl := pl) ?_ hpl) (by show ((defScope st).kind == _ && _) = false; rw [S.kind]; rfl) (by rfl))
  obtain ⟨t1, hoe⟩ := exo_at I.hok hea
  obtain ⟨cd, hcl⟩ : ∃ cd, clsIn K C = some cd := by
    have := F.hsub
    unfold mroIn at this
    cases z : clsIn K C with
    | none => rw [z] at this; cases this
    | some cd => exact ⟨cd, rfl⟩
  have X1 : K.In h₁ := KX.keeps kp
  obtain ⟨oD, hD1, hD2⟩ : ∃ oD, h₁.get? C = some oD ∧ oD.data = .cls cd := by
    have hcl' := hcl
    unfold clsIn at hcl'
    split at hcl'
    · rename_i c d cd' sl ho
      cases hcl'
      exact ⟨_, X1 _ _ ho, rfl⟩
    · cases hcl'
  have hxC : a ≠ C := fun z => by
    rw [z] at hoe
    rw [hoe] at hD1
    cases hD1
    cases hD2
  -- the names
  have hself : (ps.zip us).reverse.lookup ar.arg = some (.ref a) := by
    obtain ⟨u0, hu0, ru⟩ := r.get hv0
    obtain rfl : u0 = Value.ref a := ru
    refine NdefX.zip_look ?_ h0 hu0
    have q := S.nd.sublist (List.take_sublist (ps.length + [("__class__" : Str)].length) N)
    rw [S.pre] at q
    exact (List.nodup_append.mp q).1
  have hka : (defScope st).names.lookup ar.arg = some .local := S.par _ (List.mem_of_getElem? h0)
  have hkc : (defScope st).names.lookup ("__class__" : Str) = some .free := S.frk _ List.mem_cons_self
  refine ks_wpAt_super_base (env := NdefX.envF ⟨x, qual, defArgs st, defBody st, defScope st, [("__class__", cc)], cda⟩ f s.heap.objs.size) hgs hkc rfl rfl (X1 _ _ lk) rfl hp rfl (X1 _ _ hcode) rfl hvs hfile F.htop ?_
  obtain ⟨mb, b1, b2⟩ := I.mod.blt
  refine ks_loadName_global S.kind hgs (Calls.loadGlobal_builtin (env := NdefX.envF ⟨x, qual, defArgs st, defBody st, defScope st, [("__class__", cc)], cda⟩ f s.heap.objs.size) (I.mod.glob.keeps I.bk) hmg (b1.keeps I.bk) ((b2 _ (by decide +kernel)).trans (by decide +kernel)) ⟨rfl, ?_⟩)
  refine wpAny_loadName_free S.kind hkc (c := cc) (by rfl) ⟨_, X1 _ _ hcell, rfl⟩ ?_
  refine wpAny_loadName_local S.kind hka hns hself ?_
  refine ks_wpAny_isType_cls hD1 hD2 ⟨rfl, ?_⟩
  refine ks_wpAny_call_super hD1 hD2 hoe rfl (fun c e => by cases e) (looks_mroIn X1 F.hsub) (fun h' e kk => ?_)
  have I2 := I.kept (h' := h') (t' := s.toks + (ps.zip us).length) kk
  have X2 : K.In h' := X1.keeps kk
  have SI := F.hm
  unfold ks_superIn at SI
  rw [hcl] at SI
  have II : InstAt h' a { cls := .ref C, dict := none, data := .fields #[.ref t1, .none, .none, .none, .bool false, .none] } C none := ⟨kk _ _ hoe, rfl, rfl, trivial⟩
  refine kxs_getMethod kxs_ValueError e (looks_opaque X2 F.ho) (l₀ := cd.mro) (fun A Q E s k q => wpAny_bind ((looks_clsIn X2 hcl) A _ E s k (wpAny_pure q))) rfl X2 SI (II.type.andThen (looks_subIn X2 F.hB)) hxC (by decide) ?_
  have k3 : ∀ b o, h'.get? b = some o → (h'.push (kxs_mw "ValueError.__init__" a)).get? b = some o := fun b o e => Heap.get?_push_of_some _ e
  have I3 := I2.kept (h' := h'.push (kxs_mw "ValueError.__init__" a)) (t' := s.toks + (ps.zip us).length + 1) k3
  have hu3 : (h'.push (kxs_mw "ValueError.__init__" a)).get? h'.objs.size = some (kxs_mw "ValueError.__init__" a) := Heap.get?_push_at rfl rfl
  have hf3 : H h'.objs.size = none := I2.hok.fresh (Nat.le_refl _)
  have I4 := I3.pins_of (pins' := [(h'.objs.size, kxs_mw "ValueError.__init__" a)]) (fun p hp => by
    obtain rfl := List.mem_singleton.mp hp
    refine ⟨hu3, hf3, fun z => ?_, fun z => ?_, fun v z => by cases z⟩
    · have y := I2.lt
      have z' : h'.objs.size = s.heap.objs.size := z
      have y' : s.heap.objs.size < h'.objs.size := y
      omega
    · obtain ⟨_, o, hob, _⟩ := I2.funs.mem z
      exact absurd (Heap.lt_size hob) (Nat.lt_irrefl _))
  refine kxs_callWith (i := "ValueError.__init__") (x := a) (by rfl) (Calls.evalArgs_plain ?_)
  refine thn ((pa_cons (pe_str (x := txt) (j := u) (pos := p5)) pa_nil).run p3 [(h'.objs.size, kxs_mw "ValueError.__init__" a)] _ (NdefX.startF N vs [some (V.ref C)]) H (fun vs' H1 => vs' = [V.str txt] ∧ H1 = H) I4 ⟨rfl, rfl⟩) fun us1 s1 ⟨vs1, H1, I5, r1, e1, e2⟩ => ?_
  subst e1 e2
  have hu5 := (I5.pin _ (List.mem_append_right _ (List.mem_singleton.mpr rfl))).1
  refine ⟨hu5, mw_call T I5 hea hu5 (by rw [List.nil_append, ← r1.length, sizeLine_eq]; exact Nat.le_of_ble_eq_true rfl) fun s2 I6 => ?_⟩
  refine wpAt_of_wpAny (wpAny_mono (ht.run [] s2 (NdefX.startF N vs [some (V.ref C)]) H1 _ (I6.pins_of fun p hp => by cases hp) hq) (fun fl s' hs => ?_) fun e s' hs => hs)
  have fin : ∀ {σ' : L2.St} {H' : Hp} {v : V} {u : Value}, Inv (NdefX.ncx CX P w K mg base N ⟨x, qual, defArgs st, defBody st, defScope st, [("__class__", cc)], cda⟩ f A outer s H1 E) [] σ' H' s' → RelV v u → Q v H' → CE outer P w H1 s Q u s' :=
    fun {σ' H' v u} J rv q => ⟨v, H', J.os, J.bare, J.base, J.hok, rv, q⟩
  cases fl with
  | ret u =>
    obtain ⟨v, σ', H', J, rv, q⟩ := hs
    exact fin J rv q
  | next =>
    obtain ⟨σ', H', J, q⟩ := hs
    exact fin (v := V.non) (u := Value.none) J rfl q
  | brk =>
    obtain ⟨_, _, _, q⟩ := hs
    exact False.elim q
  | cont =>
    obtain ⟨_, _, _, q⟩ := hs
    exact False.elim q
end
end Pu

namespace Pu
open PySem PySem.Spec PyProof.Rows L2

/-! ### raise C(e), C an exception class with one field -/
/-- self.f = y -/
def spE1 (C : Addr) (fl : Str) : Sp := fun vs H Q _ => ∃ a y, vs = [.ref a, y] ∧ H a = some (exo a C none) ∧ ∀ dx, H dx = none → dx ≠ a → Q .non (upd (upd H dx (exd dx [(fl, y)])) a (exo a C (some dx)))
section
variable {P : Program} {w : World} {K : PySem.W.Frag} {mg : Str → Option Value} {base : Heap} {CX : CXT}
theorem fnE1 {x qual : Str} {st : Stmt} {f C cc cda : Addr} {fd : FuncData} {sf fp fl : Str} {ar : Arg} {k : Nat} {p0 p1 p2 p3 p4 p5 q1 q2 q3 q4 : Pos} {u : Nat} {txt : Str} (F : EFun P K x qual st f C cc cda fd) (T : OexC K C)
    (S : NdefX.NScope [sf, fp, "__class__"] [sf, fp] ["__class__"] (defScope st)) (hno : PySem.W.findIn K (.ref C) fl = some none) (hp : ((defArgs st).posonlyargs ++ (defArgs st).args).head? = some ar) (har : ar.arg = sf) (hgs : (defScope st).names.lookup ("super" : Str) = some .globalImplicit) (hmg : mg "super" = none)
    (hdb : (sf == ("__debug__" : Str)) = false) (hdb2 : (fp == ("__debug__" : Str)) = false) (hcd1 : (sf == ("__classdict__" : Str)) = false) (hcd2 : (fp == ("__classdict__" : Str)) = false)
    (hbd : defBody st = [.Expr (.Call (.Attribute (.Call (.Name "super" p0) [] [] p1) "__init__" p2) [.Constant (.str txt) u p5] [] p3) p4, .Assign [.Attribute (.Name sf q1) fl q2] (.Name fp q3) q4])
    (hev : ∀ env : PySem.Env, ∃ pl : Sem Bool, eval (.Call (.Attribute (.Call (.Name "super" p0) [] [] p1) "__init__" p2) [.Constant (.str txt) u p5] [] p3) env = (do
      let ov ← attributeBase (.Call (.Name "super" p0) [] [] p1) "__init__" env (eval (.Call (.Name "super" p0) [] [] p1) env)
      standAt p2.atName
      let (f, first) ← holding [ov] (getMethod ov "__init__" pl)
      callWith p3 f first (backTo p3 (starEach [.Constant (.str txt) u p5] env)) [])) :
    FnOk P w K mg base CX (k + 1) f fd [sf, fp] (spE1 C fl) := by
  subst har
  refine fnE F T S hp rfl hgs hmg hdb hbd hev (fun vs H Q E ⟨a, y, e, _⟩ => by rw [e]; rfl) (fun vs H Q E ⟨a, y, e, h, _⟩ => ⟨a, by rw [e]; rfl, h⟩) ?_
  rintro X vs H Q E hN hsc hK hc ⟨a, y, rfl, ha, q⟩
  have l0 := S.par ar.arg List.mem_cons_self
  have l1 := S.par fp (List.mem_cons_of_mem _ List.mem_cons_self)
  refine ⟨_, pss_one (ps_ost (pe_var (i := 0) (by rw [hN]; rfl) (by rw [hsc]; exact .inl l0) hdb hcd1) (pe_var (i := 1) (by rw [hN]; rfl) (by rw [hsc]; exact .inl l1) hdb2 hcd2)), ?_⟩
  refine ⟨y, rfl, .ref a, rfl, a, C, rfl, by rw [hK]; exact T, by rw [hK]; exact hno, .inl ⟨ha, q⟩⟩
end
section
variable {c : Cc} {X : Cx} {e a b d o : Expr} {es : List Expr} {ea : Ev} {av kv : Av} {pos p q : Pos} {x : Str} {CX : CXT} {k C : Nat} {f : Addr} {fd : FuncData} {ps : List Str} {fl : Str}
theorem ss_raise1 (T : OexC X.K (c.cm C)) (iC : PySem.W.findIn X.K (.ref (c.cm C)) "__init__" = some (some (.ref f))) (tI : PySem.W.typeIn X.K (.ref f) = some (.type "function"))
    (F : FnOk X.prog X.w X.K X.mg X.base CX k f fd ps (spE1 (c.cm C) fl)) (hr : Room (k + 1) X.A) (hb : Binds X.K fd ps []) (hx : Passes CX X (fun _ _ _ => False)) (hg : Gl X x) (hm : X.mg x = some (.ref (c.cm C))) (hc : X.calm = true) (tk : Takes X (fun cls d _ H => c.E cls d H))
    (ha : SE c X e ea) (hdb : (x == ("__debug__" : Str)) = false := by decide) (he : starEach [e] X.env = (false, eval e X.env) :: starEach [] X.env := by rfl) :
    SS c X (.Raise (some (.Call (.Name x p) [e] [] pos)) none q) (fun ρ => Out.of (ea ρ) fun d => .exc C [(fl, d)]) := by
  refine ⟨ps_imp (ps_raise hc tk (pmk_oex T iC tI F hr hb .nil hx hg hm (pa_cons ha.pe pa_nil he) hdb he (by rfl))) fun D σ H ⟨F, ρ, r, q⟩ => ?_⟩
  refine tG_st r q fun v d H1 F1 g r1 rp q1 => ?_
  refine ⟨by show [v].length ≤ 1000; exact Nat.le_of_ble_eq_true rfl, fun a hn => ⟨a, v, rfl, upd_same, fun dx hd hne => ⟨rfl, dx, [(fl, v)], upd_same, ?_, ?_, ?_⟩⟩⟩
  · rw [upd_ne hne, upd_same]
  · rw [upd_ne hne] at hd; exact hd
  · have hd1 : H1 dx = none := by rw [upd_ne hne] at hd; exact hd
    have big : ∀ b o, H1 b = some o → upd (L2.del (upd (upd (upd H1 a (exo a (c.cm C) none)) dx (exd dx [(fl, v)])) a (exo a (c.cm C) (some dx))) a) dx (.xd [(fl, v)]) b = some o := fun b o e => by
      have nd : b ≠ dx := fun z => by rw [z, hd1] at e; cases e
      have na : b ≠ a := fun z => by rw [z, hn] at e; cases e
      rw [upd_ne nd, L2.del_ne na, upd_ne na, upd_ne nd, upd_ne na]; exact e
    exact q1 _ dx F1 [(fl, v)] (fun b o e => big b o (r1.b b o e)) upd_same (fun b o e => big b o (r1.le b o e)) (.cons rp .nil)
end

/-! ### try .. except X: -/
/-- the body, then (of an exception that is taken) the suite, that knows of no name -/
def sTry (cu : Nat → Option Bool) (s t : Sv) : Sv := fun ρ => match s ρ with
  | .exc C fs => match cu C with
    | some true => (match t (List.replicate ρ.length .un) with
      | .exc _ _ => .stuck
      | o => o)
    | some false => .exc C fs
    | none => .stuck
  | o => o
def uni (A B : Hp) : Hp := fun a => match A a with
  | some o => some o
  | none => B a
theorem uni_none {A B : Hp} {a : Addr} (h1 : A a = none) (h2 : B a = none) : uni A B a = none := by unfold uni; rw [h1]; exact h2
theorem uni_l {A B : Hp} : Same A (uni A B) := fun a o e => by unfold uni; rw [e]
theorem uni_le {A B H : Hp} (h1 : Same A H) (h2 : Same B H) : Same (uni A B) H := fun a o e => by
  unfold uni at e
  split at e
  · rename_i o' h; cases e; exact h1 _ _ h
  · exact h2 _ _ e
theorem uni_r {A B H : Hp} (h1 : Same A H) (h2 : Same B H) : Same B (uni A B) := fun a o e => by
  unfold uni
  split
  · rename_i o' h
    have := h1 _ _ h
    rw [h2 _ _ e] at this
    exact this.symm
  · exact e
theorem uni_n2 {A B : Hp} {a : Addr} (h : uni A B a = none) : A a = none ∧ B a = none := by
  unfold uni at h
  split at h
  · cases h
  · rename_i h'; exact ⟨h', h⟩
abbrev Cc.at (c : Cc) (F : Hp) (E : XK) : Cc := ⟨c.cm, uni F c.B, F, E, c.io, c.n, c.pins⟩
section
variable {K : Kc} {c : Cc} {F F' H H' : Hp} {ρ ρ' : PEnv} {σ σ' : Sg} {E : XK}
theorem Rel.toAt (r : Rel K c F ρ σ H) : Rel K (c.at F E) F ρ σ H := by
  obtain ⟨oa, h1, h2, h3, h4⟩ := r.sl
  exact ⟨uni_le r.le r.b, Same.refl F, r.le, fun a o e => .inl e, r.len, r.len2, oa, h1, h2, fun i a e => ⟨(h3 i a e).1, uni_none (h3 i a e).1 (h3 i a e).2.1, (h3 i a e).2.2⟩, h4⟩
theorem Rel.ofAt (r0 : Rel K c F ρ σ H) (r : Rel K (c.at F E) F' ρ' σ' H') : Rel K c F' ρ' σ' H' := by
  obtain ⟨oa, h1, h2, h3, h4⟩ := r.sl
  refine ⟨(uni_r r0.le r0.b).trans r.b, r0.f0.trans r.f0, r.le, fun a o e => ?_, r.len, r.len2, oa, h1, h2, fun i a e => ⟨(h3 i a e).1, (uni_n2 (h3 i a e).2.1).2, (h3 i a e).2.2⟩, h4⟩
  rcases r.nw a o e with z | z
  · exact r0.nw a o z
  · exact .inr (uni_n2 z).2
theorem RelR.ofAt {v : V} {t : Slot} (r0 : Rel K c F ρ σ H) (r : RelR K (c.at F E) F' ρ' σ' H' v t) : RelR K c F' ρ' σ' H' v t := by
  obtain ⟨oa, r, st⟩ := r
  refine ⟨oa, ⟨(uni_r r0.le r0.b).trans r.b, r0.f0.trans r.f0, r.le, fun a o e => ?_, r.len, r.len2, r.s1, r.s2, fun i a e => ⟨(r.s3 i a e).1, (uni_n2 (r.s3 i a e).2.1).2, (r.s3 i a e).2.2⟩, r.s4⟩, st⟩
  rcases r.nw a o e with z | z
  · exact r0.nw a o z
  · exact .inr (uni_n2 z).2
theorem RelR.unnox {v : V} {t : Slot} (r : RelR K c.nox F ρ σ H v t) : RelR K c F ρ σ H v t := by
  obtain ⟨oa, r, st⟩ := r
  exact ⟨oa, ⟨r.b, r.f0, r.le, r.nw, r.len, r.len2, r.s1, r.s2, r.s3, r.s4⟩, st⟩
theorem Bot.ofAt {F1 : Hp} (r0 : Rel K c F ρ σ H) (b : Bot (c.at F E) F1 F' H') (m : Same F F') : Bot c F F' H' := by
  refine ⟨m, b.le, (uni_r r0.le r0.b).trans b.b, fun a o e => ?_⟩
  rcases b.nw a o e with z | z
  · exact r0.nw a o z
  · exact .inr (uni_n2 z).2
end
section
variable {c : Cc} {X : Cx} {x : Str} {cv : Value} {body suite : List Stmt} {b₀ : Stmt} {np pos pos' : Pos} {s t : Sv} {cu : Nat → Option Bool}
theorem ss_try (hs : X.stack = X.env :: X.outer) (hf : X.env.frame = some X.env.locals) (hc : Names X x cv) (tk : Takes X (fun cls d _ H => c.E cls d H)) (io : c.io = none) (hpn : c.pins = fun _ => none)
    (hcu : ∀ C b, cu C = some b → PySem.W.exmOne X.K (.ref (c.cm C)) cv = some b)
    (hb : ∀ (B F0 : Hp) (E : XK) (pn : List (Addr × Obj)) (xe : Value → Shared → Prop), Passes (L2.CX X.prog X.w) (X.tr pn xe) E → Takes (X.tr pn xe) (fun cls d _ H => E cls d H) → PassesOwn (model X.prog X.w) X.A X.env xe → SSs ⟨c.cm, B, F0, E, none, c.n, fun _ => none⟩ (X.tr pn xe) body s)
    (hsu : ∀ (a : Addr) (oe : Obj) (pn : List (Addr × Obj)), SSs c.nox (X.suite a ((a, oe) :: pn)) (b₀ :: suite) t) :
    SS c X (.Try body [.ExceptHandler (some (.Name x np)) none (b₀ :: suite) pos'] [] [] pos) (sTry cu s t) := by
  refine ⟨⟨fun pins sh σ H D I ⟨F, ρ, r, q⟩ => ?_⟩⟩
  have hN : c.n = X.N.length := r.len.symm.trans I.len
  refine (ps_try_only hs hf hc tk (tb := fun W D σ H => ∃ F ρ, Rel (X.kc c) c F ρ σ H ∧ FinS (X.kc c) (c.at F (fun cls d H => ∀ σ : L2.St, σ.length = X.N.length → W cls d σ H)) F (s ρ) D) (ts := fun _ _ _ => tSt (X.kc c) c.nox t) ?_ ?_).run pins sh σ H D I ?_
  · intro W pn xe tkW po
    have tk2 : Takes (X.tr pn xe) (fun cls d _ H => ∀ σ : L2.St, σ.length = X.N.length → W cls d σ H) := fun u s' ⟨a, B, sI, pins, σ, H, cls, d, e, I, nb, up, sky, na, os, ag, w⟩ =>
      tkW u s' ⟨a, B, sI, pins, σ, H, cls, d, e, I, nb, up, sky, na, os, ag, w σ I.len⟩
    refine ⟨fun pins sh σ H D I ⟨F, ρ, r, q⟩ => ?_⟩
    have io' : (c.at F (fun cls d H => ∀ σ : L2.St, σ.length = X.N.length → W cls d σ H)) = ⟨c.cm, uni F c.B, F, fun cls d H => ∀ σ : L2.St, σ.length = X.N.length → W cls d σ H, none, c.n, fun _ => none⟩ := by
      unfold Cc.at; rw [io, hpn]
    refine (hb (uni F c.B) F _ pn xe (passes_call tk2 fun _ _ _ _ z => z) tk2 po).ps.run pins sh σ H D I ⟨F, ρ, ?_, ?_⟩
    · rw [← io']; exact r.toAt
    · rw [← io']; exact q
  · intro a oe cls d pn _ _
    exact (hsu a oe pn).ps
  · refine ⟨F, ρ, r, ?_⟩
    unfold sTry at q
    cases z : s ρ with
    | nx ρ' =>
      rw [z] at q
      exact fun σ' H' F' m r' => q σ' H' F' m (r.ofAt r')
    | bk ρ' =>
      rw [z] at q
      exact fun σ' H' F' m r' => q σ' H' F' m (r.ofAt r')
    | ct ρ' =>
      rw [z] at q
      exact fun σ' H' F' m r' => q σ' H' F' m (r.ofAt r')
    | rt d =>
      rw [z] at q
      exact fun v H' F' b rp => q v H' F' (Bot.ofAt r b b.f) rp
    | rm t' ρ' =>
      rw [z] at q
      exact fun v σ' H' F' m r' => q v σ' H' F' m (RelR.ofAt r r')
    | stuck => rw [z] at q; exact q.elim
    | exc C fs =>
      rw [z] at q
      intro H' d F' fv sB hd hF rf σ2 hl2
      cases zc : cu C with
      | none =>
        simp only [zc] at q
        exact q.elim
      | some b =>
        refine ⟨b, hcu C b zc, fun hbt a ha => ?_, fun hbf => ?_⟩
        · subst hbt
          simp only [zc] at q
          refine ⟨F, List.replicate ρ.length .un, ⟨(uni_r r.le r.b).trans sB, r.f0, (uni_l).trans sB, r.nw, ?_, ?_, fun _ => none, fun i s hs => ?_, fun i j a h => (nomatch h), fun i a h => (nomatch h), fun i a h => ?_⟩, ?_⟩
          · exact hl2.trans hN.symm
          · rw [List.length_replicate]; exact r.len2
          · rw [List.getElem?_replicate] at hs
            split at hs
            · cases hs; rfl
            · cases hs
          · rcases h with h | ⟨_, _, h⟩
            · rw [show c.nox.io = none from io] at h; cases h
            · rw [show c.nox.pins = _ from hpn] at h; cases h
          · cases zt : t (List.replicate ρ.length .un) with
            | nx ρ' => rw [zt] at q; exact fun σ' H' F' m r' => q σ' H' F' m r'.unnox
            | bk ρ' => rw [zt] at q; exact fun σ' H' F' m r' => q σ' H' F' m r'.unnox
            | ct ρ' => rw [zt] at q; exact fun σ' H' F' m r' => q σ' H' F' m r'.unnox
            | rt d => rw [zt] at q; exact fun v H' F' b rp => q v H' F' ⟨b.f, b.le, b.b, b.nw⟩ rp
            | rm t' ρ' => rw [zt] at q; exact fun v σ' H' F' m r' => q v σ' H' F' m r'.unnox
            | exc C fs => rw [zt] at q; exact q.elim
            | stuck => rw [zt] at q; exact q.elim
        · subst hbf
          simp only [zc] at q
          exact q H' d F' fv ((uni_r r.le r.b).trans sB) hd hF rf
def sThru (s : Sv) : Sv := fun ρ => match s ρ with
  | .exc _ _ => .stuck
  | o => o
/-- try .. except ..: nothing is raised -/
theorem ss_thru {h₀ : ExceptHandler} {hs : List ExceptHandler} (hb : SSs c.nox X.nox body s) : SS c X (.Try body (h₀ :: hs) [] [] pos) (sThru s) := by
  refine ⟨ps_imp (ps_try_thru0 hb.ps) fun D σ H ⟨F, ρ, r, q⟩ => ⟨F, ρ, r.nox, ?_⟩⟩
  unfold sThru at q
  cases z : s ρ with
  | nx ρ' => rw [z] at q; exact fun σ' H' F' m r' => q σ' H' F' m r'.unnox
  | bk ρ' => rw [z] at q; exact fun σ' H' F' m r' => q σ' H' F' m r'.unnox
  | ct ρ' => rw [z] at q; exact fun σ' H' F' m r' => q σ' H' F' m r'.unnox
  | rt d => rw [z] at q; exact fun v H' F' b rp => q v H' F' ⟨b.f, b.le, b.b, b.nw⟩ rp
  | rm t' ρ' => rw [z] at q; exact fun v σ' H' F' m r' => q v σ' H' F' m r'.unnox
  | exc C fs => rw [z] at q; exact q.elim
  | stuck => rw [z] at q; exact q.elim
end
end Pu

namespace Pu
open PySem PySem.Spec PyProof.Rows L2
section
variable {c : Cc} {X : Cx} {e a b d o : Expr} {av : Av} {pos p : Pos}
/-- tuple(x) -/
def eTupF (as : Av) : Ev := fun ρ => (as ρ).bind fun xs => match xs with
  | [.lst ds] => .ok (.tup ds)
  | [.tup ds] => .ok (.tup ds)
  | _ => .stuck
theorem se_tupF (hg : Gl X "tuple") (hm : X.mg "tuple" = none) (ha : SAB c X [e] av) (he : starEach [e] X.env = (false, eval e X.env) :: starEach [] X.env := by rfl) (hpl : (backTo pos (starEach [] X.env)).any (·.1) = false := by rfl) :
    SE c X (.Call (.Name "tuple" p) [e] [] pos) (eTupF av) := by
  refine ⟨pe_imp (pe_callTy call_tuple_of hg hm (by decide +kernel) ha.pa (by decide) (by decide) he hpl) fun σ H Q ⟨F, ρ, r, q⟩ => ?_⟩
  refine tG_bind r q fun vs ds H1 F1 g r1 rp q1 => ?_
  split at q1
  · rename_i ds
    obtain ⟨v, rfl, rv⟩ := repsB1 rp
    obtain ⟨a, ys, rfl, ea, rs⟩ := rv.lst r1.le
    refine ⟨a, ys, rfl, .inl ⟨.inl (.inl ea), fun l hl => ?_⟩⟩
    exact q1 _ _ _ (Grow.laid (o := .tup ys) r1.le hl) (.tup (.inl (.inl upd_same)) (rs.mono (same_upd (r1.le.free hl))))
  · rename_i ds
    obtain ⟨v, rfl, rv⟩ := repsB1 rp
    rcases rv with rv | ⟨a, vs, es, h1, h2, h3, h4⟩
    · cases rv with
      | tup h r =>
        refine ⟨_, _, rfl, .inr ⟨same_seqT r1.le h, ?_⟩⟩
        exact q1 _ _ _ r1.refl (.tup h r)
    · cases h2
  · exact q1.elim
/-- self.f = e, self an instance of class C -/
def sFldC (C i : Nat) (f : Str) (a : Ev) : Sv := fun ρ => match ρ[i]? with
  | some (.ob C' fs) => if C' = C then sFld i f a ρ else .stuck
  | _ => .stuck
/-- the one class that is taken -/
def cuIs (k : Nat) : Nat → Option Bool := fun C => if C = k then some true else none
theorem cuIs_ok {K : PySem.W.Frag} {cm : Nat → Addr} {k : Nat} (h : PySem.W.exmOne K (.ref (cm k)) (.ref (cm k)) = some true) : ∀ C b, cuIs k C = some b → PySem.W.exmOne K (.ref (cm C)) (.ref (cm k)) = some b := fun C b e => by
  unfold cuIs at e
  split at e
  · rename_i h'; subst h'; cases e; exact h
  · cases e
theorem ioN {ix : List Nat} : ∀ j ∈ ix, ∀ a : Addr, (none : Option (Nat × Addr)) ≠ some (j, a) := fun _ _ _ h => nomatch h
theorem joN {i : Nat} : ∀ a : Addr, (none : Option (Nat × Addr)) ≠ some (i, a) := fun _ h => nomatch h
theorem io0 {x : Addr} {ix : List Nat} (n : 0 ∉ ix) : ∀ j ∈ ix, ∀ a : Addr, some (0, x) ≠ some (j, a) := fun j hj a h => by cases h; exact n hj
theorem jo0 {x : Addr} {i : Nat} (n : ¬ 0 = i) : ∀ a : Addr, some (0, x) ≠ some (i, a) := fun a h => by cases h; exact n rfl
theorem ioI {k : Nat} {x : Addr} {ix : List Nat} (n : k ∉ ix) : ∀ j ∈ ix, ∀ a : Addr, some (k, x) ≠ some (j, a) := fun j hj a h => by cases h; exact n hj
theorem joI {k : Nat} {x : Addr} {i : Nat} (n : ¬ k = i) : ∀ a : Addr, some (k, x) ≠ some (i, a) := fun a h => by cases h; exact n rfl
theorem ebinds {P : Program} {K : PySem.W.Frag} {x qual : Str} {st : Stmt} {f C cc cda : Addr} {fd : FuncData} {ps : List Str} (F : EFun P K x qual st f C cc cda fd)
    (h : ∀ (kV doc pm : Value) (an : Option Addr) (ct : Value) (us : List Value), us.length = ps.length → bindArgs (PySem.W.fnX x qual (defArgs st) (defBody st) (defScope st) [("__class__", cc)] .none kV doc pm an (.ref cda) ct) ⟨us, []⟩ = pure (ps.zip us)) : Binds K fd ps [] := by
  obtain ⟨oc, od, kV, doc, pm, an, ct, osl, rfl, lk, hcd⟩ := F.ex
  exact .all (h kV doc pm an ct)
theorem rmA {b n j : Nat} {A : Around} (r : Room (b + n) A) (h : j ≤ b) : Room j A := r.mono (Nat.le_trans h (Nat.le_add_right b n))
theorem takes_nox {X : Cx} : Takes X.nox (fun cls d _ H => (fun _ _ _ => False : XK) cls d H) := fun u s' ⟨a, B, sI, pins, σ, H, cls, d, e, I, nb, up, sky, na, os, ag, w⟩ => w.elim
theorem fnO_none {P : Program} {w : World} {K : Kc} {mg : Str → Option Value} {base : Heap} {CX : CXT} {k : Nat} {f : Addr} {fd : FuncData} {ps : List Str} : FnOk P w K.K mg base CX k f fd ps (PIO K fun _ _ => .stuck) :=
  ⟨fun vs H Q E ⟨_, _, _, _, _, _, _, _, _, _, _, _, _, e, _⟩ => (nomatch e), fun A outer s H args us vs Q E _ _ _ _ ⟨_, _, _, _, _, _, _, _, _, _, _, _, _, e, _⟩ => (nomatch e)⟩
end
end Pu

namespace Pu
open PySem PySem.Spec PyProof.Rows L2
/-! ### o.index(e), of a list of ints -/
def opIndex (ds : List D) : D → Option D
  | .int i => match ints? ds with
    | some ns => (ns.findIdx? (· == i)).map fun j => .int (j : Nat)
    | none => none
  | _ => none
def eIdx (a b : Ev) : Ev := fun ρ => (a ρ).bind fun x => match x with
  | .lst ds => (b ρ).bind fun y => Res.of (opIndex ds y)
  | _ => .stuck
section
variable {c : Cc} {X : Cx} {o e : Expr} {eo ea : Ev} {apos p2 : Pos}
theorem se_index (ho : SB c X o eo) (he : SE c X e ea) (hs : starEach [e] X.env = (false, eval e X.env) :: starEach [] X.env := by rfl)
    (hbase : attributeBase o "index" X.env (eval o X.env) = eval o X.env := by rfl)
    (hfew : ((backTo p2 (starEach [e] X.env)).all (fun x => !x.1) && (backToKw p2 (keywordEach [] X.env)).all (fun x => x.1.isSome)
      && decide ([e].length + ([] : List Keyword).length + (if ([] : List Keyword).isEmpty then 0 else 1) < 30)) = true := by rfl)
    (hline : (apos.endLine == p2.line) = true := by rfl) (hplain : (backTo p2 (starEach [] X.env)).any (·.1) = false := by rfl) : SE c X (.Call (.Attribute o "index" apos) [e] [] p2) (eIdx eo ea) := by
  refine ⟨pe_imp (pe_bm PySem.F.plainAttrs_list PySem.F.slot_list_index PySem.F.type_list_index mt_index ho.pe (pa_cons he.pe pa_nil hs) hbase hfew hline hs hplain) fun σ H Q ⟨F, ρ, r, q⟩ => ?_⟩
  unfold eIdx at q
  refine tG_bind r q fun v d H1 F1 g r1 rb q1 => ?_
  cases d with
  | lst ds =>
    obtain ⟨a, vs, rfl, ha, rs⟩ := rb.lst r1.le
    refine ⟨.inl ⟨rfl, vs, .inl (.inl ha)⟩, ?_⟩
    refine tG_bind r1 q1 fun w dy H2 F2 g2 r2 rw2 q2 => ?_
    unfold opIndex at q2
    split at q2
    · rename_i i
      split at q2
      · rename_i ns hns
        cases z : ns.findIdx? (· == i) with
        | none => rw [z] at q2; exact q2.elim
        | some j =>
          rw [z] at q2
          have e1 := ints?_eq hns; subst e1
          have e2 := rs.ints; subst e2
          cases rw2
          obtain ⟨hj, hp, hm⟩ := List.findIdx?_eq_some_iff_getElem.mp z
          have hji : ns[j] = i := by simpa using hp
          refine ⟨a, _, .int i, j, .int i, rfl, rfl, .inl (.inl (g2.h _ _ ha)), rfl, ?_, ?_, ?_, fun m z' hl hz => ?_, q2 _ H2 F2 r2.refl (.int _)⟩
          · simp [flatV]
          · rw [List.getElem?_map, List.getElem?_eq_getElem hj, hji]; rfl
          · simp [eqV]
          · rw [List.getElem?_map, List.getElem?_eq_getElem (by omega)] at hz
            cases hz
            have := hm m hl
            simpa [eqV] using this
      · exact q2.elim
    · exact q2.elim
  | _ => exact q1.elim
/-! a and b, a or b, as values: bools -/
def eAnd (a b : Ev) : Ev := fun ρ => (a ρ).bind fun x => match x with
  | .bl true => b ρ
  | .bl false => .ok (.bl false)
  | _ => .stuck
def eOr (a b : Ev) : Ev := fun ρ => (a ρ).bind fun x => match x with
  | .bl true => .ok (.bl true)
  | .bl false => b ρ
  | _ => .stuck
variable {a b : Expr} {rest : List Expr} {eb : Ev} {pos : Pos} {op : BoolOp}
theorem se_bone (h : SE c X a ea) : SE c X (.BoolOp op [a] pos) ea := ⟨pe_one h.pe⟩
theorem se_and (ha : SE c X a ea) (hb : SE c X (.BoolOp .And (b :: rest) pos) eb) : SE c X (.BoolOp .And (a :: b :: rest) pos) (eAnd ea eb) := by
  refine ⟨pe_imp (pe_and ha.pe hb.pe) fun σ H Q ⟨F, ρ, r, q⟩ => ?_⟩
  unfold eAnd at q
  refine tG_bind r q fun v d H1 F1 g r1 rv q1 => ?_
  split at q1
  · cases rv; exact ⟨true, rfl, iteT ⟨F1, ρ, r1, q1⟩⟩
  · cases rv; exact ⟨false, rfl, iteF (q1 _ H1 F1 r1.refl (.bl false))⟩
  · exact q1.elim
theorem se_or (ha : SE c X a ea) (hb : SE c X (.BoolOp .Or (b :: rest) pos) eb) : SE c X (.BoolOp .Or (a :: b :: rest) pos) (eOr ea eb) := by
  refine ⟨pe_imp (pe_or ha.pe hb.pe) fun σ H Q ⟨F, ρ, r, q⟩ => ?_⟩
  unfold eOr at q
  refine tG_bind r q fun v d H1 F1 g r1 rv q1 => ?_
  split at q1
  · cases rv; exact ⟨true, rfl, iteT (q1 _ H1 F1 r1.refl (.bl true))⟩
  · cases rv; exact ⟨false, rfl, iteF ⟨F1, ρ, r1, q1⟩⟩
  · exact q1.elim
/-! ### cells: the places stay -/
section
variable {K : Kc} {F F' H H' : Hp} {ρ : PEnv} {σ : Sg} {oa : Nat → Option Addr}
theorem RelO.grow (r : RelO K c F ρ σ H oa) (g : Grow F H F' H') : RelO K c F' ρ σ H' oa := by
  refine ⟨r.b.trans g.h, r.f0.trans g.f, g.le, fun a o e => ?_, r.len, r.len2, fun i s e => (r.s1 i s e).grow g, r.s2, fun i a e => ?_, r.s4⟩
  · rcases g.nw a o e with q | q
    · exact r.nw a o q
    · exact .inr (r.b.free q)
  · obtain ⟨f, b, l⟩ := r.s3 i a e
    refine ⟨?_, b, l⟩
    cases q : F' a with
    | none => rfl
    | some o =>
      rcases g.nw a o q with z | z
      · rw [f] at z; cases z
      · obtain ⟨u, hu⟩ := (r.s1 i _ (List.getElem?_eq_getElem l)).there e
        rw [z] at hu; cases hu
theorem RelO.there (r : RelO K c F ρ σ H oa) {i : Nat} {a : Addr} (e : oa i = some a) : ∃ u, H a = some u := (r.s1 i _ (List.getElem?_eq_getElem (r.s3 i a e).2.2)).there e
/-- what an object of ours holds is changed: at its place alone -/
theorem SlotOk.but {n : Nat} {x : Option (Option V)} {o : Option Addr} {a : Addr} {u : HO} (ne : o ≠ some a) : ∀ {s : Slot}, SlotOk K n F H oa x o s → SlotOk K n F (upd H a u) oa x o s
  | .un, h => h
  | .val d, h => h
  | .al k, h => h
  | .own ds, ⟨b, vs, p1, p2, p3, p4⟩ => ⟨b, vs, p1, p2, by rw [upd_ne (fun z => ne (by rw [p1, z]))]; exact p3, p4⟩
  | .ob C fs, ⟨b, dx, vs, p1, p2, p3, p4⟩ => ⟨b, dx, vs, p1, p2, by rw [upd_ne (fun z => ne (by rw [p1, z]))]; exact p3, p4⟩
  | .own2 ks, ⟨b, vs, p1, p2, p3, p4⟩ => ⟨b, vs, p1, p2, by rw [upd_ne (fun z => ne (by rw [p1, z]))]; exact p3, p4⟩
  | .ins C fs, ⟨b, dx, vs, p1, p2, p3, p4⟩ => ⟨b, dx, vs, p1, p2, by rw [upd_ne (fun z => ne (by rw [p1, z]))]; exact p3, p4⟩
/-- slot i's object, at a, becomes u -/
theorem RelO.put {i : Nat} {s : Slot} {a : Addr} {u : HO} (r : RelO K c F ρ σ H oa) (e : oa i = some a) (h : SlotOk K c.n F (upd H a u) oa σ[i]? (some a) s) : RelO K c F (ρ.set i s) σ (upd H a u) oa := by
  obtain ⟨f, bb, l⟩ := r.s3 i a e
  have oth : ∀ {Z : Hp}, Z a = none → Same Z H → Same Z (upd H a u) := fun {Z} z s x o q => by
    by_cases w : x = a
    · subst w; rw [z] at q; cases q
    · rw [upd_ne w]; exact s x o q
  refine ⟨oth bb r.b, r.f0, oth f r.le, r.nw, r.len, by simp [r.len2], fun j t q => ?_, r.s2, fun j x q => ?_, r.s4⟩
  · by_cases w : j = i
    · subst w
      rw [List.getElem?_set_self l] at q; cases q
      rw [e]; exact h
    · rw [List.getElem?_set_ne (Ne.symm w)] at q
      exact (r.s1 j t q).but fun z => w (r.s2 j i a z e)
  · obtain ⟨f', b', l'⟩ := r.s3 j x q
    exact ⟨f', b', by simpa using l'⟩
/-- name i gets a value, or another name of a cell -/
theorem RelO.nameV {i : Nat} {s : Slot} {x : V} (r : RelO K c F ρ σ H oa) (hi : ∀ a, c.io ≠ some (i, a)) (hl : i < c.n) (hs : SlotOk K c.n F H oa (some (some x)) none s) : Rel K c F (ρ.set i s) (σ.set i (some x)) H := by
  refine ⟨r.b, r.f0, r.le, r.nw, by simp [r.len], by simp [r.len2], oaSet oa i none, fun j t e => ?_, fun j k a e1 e2 => ?_, fun j a e => ?_, fun j a e => ?_⟩
  · by_cases q : j = i
    · subst q
      rw [List.getElem?_set_self (Nat.lt_of_lt_of_le hl r.len2)] at e
      cases e
      rw [oaSet_same, List.getElem?_set_self (by rw [r.len]; exact hl)]
      exact hs.oaNe (oaSet_far hl)
    · rw [List.getElem?_set_ne (Ne.symm q)] at e
      rw [oaSet_ne q, List.getElem?_set_ne (Ne.symm q)]
      exact (r.s1 j t e).oaNe (oaSet_far hl)
  · by_cases q : j = i
    · rw [q, oaSet_same] at e1; cases e1
    · by_cases q' : k = i
      · rw [q', oaSet_same] at e2; cases e2
      · rw [oaSet_ne q] at e1; rw [oaSet_ne q'] at e2; exact r.s2 j k a e1 e2
  · by_cases q : j = i
    · rw [q, oaSet_same] at e; cases e
    · rw [oaSet_ne q] at e
      obtain ⟨f, b, l⟩ := r.s3 j a e
      exact ⟨f, b, by simpa using l⟩
  · have q : j ≠ i := fun z => Cc.pin_ne hi hl (by rw [← z]; exact e)
    rw [oaSet_ne q]; exact r.s4 j a e
/-- a new cell -/
theorem RelO.cell {p : Addr} {u : HO} {s : Slot} (r : RelO K c F ρ σ H oa) (n : H p = none) (h : SlotOk K c.n F (upd H p u) oa none (some p) s) :
    RelO K c F (ρ ++ [s]) σ (upd H p u) (oaSet oa ρ.length (some p)) ∧ ∀ i a, oa i = some a → oaSet oa ρ.length (some p) i = some a := by
  have far : ∀ i a, oa i = some a → oaSet oa ρ.length (some p) i = some a := fun i a e => by
    have := (r.s3 i a e).2.2
    rw [oaSet_ne (by omega)]; exact e
  have far' : ∀ j, c.n ≤ j → (oa j).isSome = true → oaSet oa ρ.length (some p) j = oa j := fun j _ q => by
    obtain ⟨a, e⟩ := Option.isSome_iff_exists.mp q
    rw [far j a e, e]
  have np : ∀ j a, oa j = some a → a ≠ p := fun j a e z => by
    subst z
    obtain ⟨u, hu⟩ := r.there e
    rw [n] at hu; cases hu
  refine ⟨⟨r.b.trans (same_upd n), r.f0, r.le.trans (same_upd n), r.nw, r.len, by simp only [List.length_append]; have := r.len2; omega, fun j t e => ?_, fun j k a e1 e2 => ?_, fun j a e => ?_, fun j a e => far j a (r.s4 j a e)⟩, far⟩
  · by_cases q : j = ρ.length
    · subst q
      rw [List.getElem?_append_right (Nat.le_refl _), Nat.sub_self] at e
      cases e
      rw [oaSet_same, List.getElem?_eq_none_iff.mpr (by rw [r.len]; exact r.len2)]
      exact h.oaNe far'
    · have jl : j < ρ.length := by
        have := (List.getElem?_eq_some_iff.mp e).1
        simp at this; omega
      rw [List.getElem?_append_left jl] at e
      rw [oaSet_ne q]
      exact ((r.s1 j t e).but fun z => np j p z rfl).oaNe far'
  · by_cases q : j = ρ.length
    · rw [q, oaSet_same] at e1; cases e1
      by_cases q' : k = ρ.length
      · rw [q, q']
      · rw [oaSet_ne q'] at e2; exact absurd rfl (np k p e2)
    · rw [oaSet_ne q] at e1
      by_cases q' : k = ρ.length
      · rw [q', oaSet_same] at e2; cases e2; exact absurd rfl (np j p e1)
      · rw [oaSet_ne q'] at e2; exact r.s2 j k a e1 e2
  · by_cases q : j = ρ.length
    · rw [q, oaSet_same] at e; cases e
      exact ⟨r.le.free n, r.b.free n, by simp [q]⟩
    · rw [oaSet_ne q] at e
      obtain ⟨f, b, l⟩ := r.s3 j a e
      exact ⟨f, b, by simp; omega⟩
end
/-! ### cells: paths to them -/
abbrev Pv := PEnv → Res Nat
def FinR (K : Kc) (c : Cc) (oa : Nat → Option Addr) (F H : Hp) (r : Res Nat) (Q : VK) : Prop := match r with
  | .ok k => ∀ p H' F', Grow F H F' H' → oa (k + c.n) = some p → Q (.ref p) H'
  | .exc C fs => ExcW K c C fs
  | .stuck => False
def tRf (K : Kc) (c : Cc) (pv : Pv) : TE := fun σ H Q => ∃ F ρ oa, RelO K c F ρ σ H oa ∧ FinR K c oa F H (pv ρ) Q
structure SR (c : Cc) (X : Cx) (e : Expr) (pv : Pv) : Prop where
  pe : PE X e (tRf (X.kc c) c pv)
/-- a name of a cell -/
def pvN (i : Nat) : Pv := fun ρ => match ρ[i]? with
  | some (.al k) => .ok k
  | _ => .stuck
theorem sr_nm (i : Nat) {x : Str} {p : Pos} (hN : X.N[i]? = some x := by rfl) (hv : Vis X.env.scope x := by first | exact Or.inl rfl | exact Or.inr (Or.inl rfl) | exact Or.inr (Or.inr rfl)) (hd : (x == ("__debug__" : Str)) = false := by decide)
    (hcd : (x == ("__classdict__" : Str)) = false := by decide) : SR c X (.Name x p) (pvN i) := by
  refine ⟨pe_imp (pe_var hN hv hd hcd) fun σ H Q ⟨F, ρ, oa, r, q⟩ => ?_⟩
  unfold pvN at q
  split at q
  · rename_i k h
    obtain ⟨_, p, e1, e2⟩ := r.s1 i _ h
    exact ⟨.ref p, e2, q p H F (Grow.refl r.le) e1⟩
  · exact q.elim
/-- what stands in a cell, n names ahead -/
def cell (n : Nat) (ρ : PEnv) (k : Nat) : Option Slot := ρ[k + n]?
/-- a cell, read -/
def eCell (n : Nat) (pv : Pv) : Ev := fun ρ => (pv ρ).bind fun k => match cell n ρ k with
  | some (.own ds) => .ok (.lst ds)
  | _ => .stuck
theorem tRf_bind {β : Type} {K : Kc} {R' : Hp → Hp → V → β → Prop} {F H : Hp} {ρ : PEnv} {σ : Sg} {pv : Pv} {k : Nat → Res β} {Q : V → Hp → Prop} {T : V → Hp → Prop}
    (r : Rel K c F ρ σ H) (h : FinG K c R' F H ((pv ρ).bind k) Q) (ht : ∀ p j H1 F1 oa, Grow F H F1 H1 → RelO K c F1 ρ σ H1 oa → oa (j + c.n) = some p → FinG K c R' F1 H1 (k j) Q → T (.ref p) H1) : tRf K c pv σ H T := by
  obtain ⟨oa, r⟩ := r.o
  refine ⟨F, ρ, oa, r, ?_⟩
  cases q : pv ρ with
  | ok j =>
    rw [q] at h
    exact fun p H1 F1 g e => ht p j H1 F1 oa g (r.grow g) e (FinG.grow g h)
  | exc C fs => rw [q] at h; exact h
  | stuck => rw [q] at h; exact h
theorem RelO.ownAt {K : Kc} {F H : Hp} {ρ : PEnv} {σ : Sg} {oa : Nat → Option Addr} {i : Nat} {p : Addr} {ds : List D} (r : RelO K c F ρ σ H oa) (e : oa i = some p) (h : ρ[i]? = some (.own ds)) : ∃ vs, H p = some (.lst vs) ∧ Reps K F vs ds := by
  obtain ⟨b, vs, e3, _, e4, e5⟩ := r.s1 i _ h
  rw [e] at e3; cases e3
  exact ⟨vs, e4, e5⟩
theorem RelO.own2At {K : Kc} {F H : Hp} {ρ : PEnv} {σ : Sg} {oa : Nat → Option Addr} {i : Nat} {p : Addr} {ks : List Nat} (r : RelO K c F ρ σ H oa) (e : oa i = some p) (h : ρ[i]? = some (.own2 ks)) : ∃ ps : List Addr, H p = some (.lst (ps.map V.ref)) ∧ ps.map some = ks.map fun k => oa (k + c.n) := by
  obtain ⟨b, ps, e3, _, e4, e5⟩ := r.s1 i _ h
  rw [e] at e3; cases e3
  exact ⟨ps, e4, e5⟩
theorem RelO.insAt {K : Kc} {F H : Hp} {ρ : PEnv} {σ : Sg} {oa : Nat → Option Addr} {i C : Nat} {p : Addr} {fs : List (Str × Rv)} (r : RelO K c F ρ σ H oa) (e : oa i = some p) (h : ρ[i]? = some (.ins C fs)) : ∃ dx fv, H p = some (.ins (K.cm C) dx fv) ∧ RepFR K F (fun k => oa (k + c.n)) fv fs := by
  obtain ⟨b, dx, fv, e3, _, e4, e5⟩ := r.s1 i _ h
  rw [e] at e3; cases e3
  exact ⟨dx, fv, e4, e5⟩
variable {n : Nat} {pv : Pv}
theorem sb_cell (h : SR c X e pv) (hn : c.n = n := by rfl) : SB c X e (eCell n pv) := by
  subst hn
  refine ⟨pe_imp h.pe fun σ H Q ⟨F, ρ, r, q⟩ => ?_⟩
  unfold eCell at q
  refine tRf_bind r q fun p j H1 F1 oa g r1 ep q1 => ?_
  split at q1
  · rename_i ds hk
    obtain ⟨vs, e1, e2⟩ := r1.ownAt ep hk
    exact q1 (.ref p) H1 F1 (Grow.refl r1.le) (.inr ⟨p, vs, ds, rfl, rfl, e1, e2⟩)
  · exact q1.elim
/-- e[j], e a list of cells -/
def pvIx (n : Nat) (pv : Pv) (ej : Ev) : Pv := fun ρ => (pv ρ).bind fun k => match cell n ρ k with
  | some (.own2 ks) => (ej ρ).bind fun y => match y with
    | .int i => Res.of (atI ks i)
    | _ => .stuck
  | _ => .stuck
theorem atI_get {α : Type} {xs : List α} {i : Int} {x : α} (h : atI xs i = some x) : ∃ n, ixN xs.length i = some n ∧ xs[n]? = some x := by
  unfold atI at h
  obtain ⟨n, h1, h2⟩ := Option.bind_eq_some_iff.mp h
  exact ⟨n, h1, h2⟩
theorem atI_refs {oa : Nat → Option Addr} {m : Nat} {ps : List Addr} {ks : List Nat} {i : Int} {k : Nat} (e : ps.map some = ks.map fun k => oa (k + m)) (h : atI ks i = some k) : ∃ p, atI (ps.map V.ref) i = some (.ref p) ∧ oa (k + m) = some p := by
  have len : ps.length = ks.length := by simpa using congrArg List.length e
  obtain ⟨n, h1, h2⟩ := atI_get h
  have hl : n < ps.length := by rw [len]; exact (List.getElem?_eq_some_iff.mp h2).1
  refine ⟨ps[n], ?_, ?_⟩
  · unfold atI
    rw [List.length_map, len, h1]
    show (ps.map V.ref)[n]? = _
    rw [List.getElem?_map, List.getElem?_eq_getElem hl]; rfl
  · have := congrArg (·[n]?) e
    simp only [List.getElem?_map, h2, List.getElem?_eq_getElem hl, Option.map_some] at this
    exact (Option.some.inj this).symm
theorem sr_ix (ha : SR c X a pv) (hb : SB c X b eb) (hs : PlainIx b := by exact fun _ _ => rfl) (hn : c.n = n := by rfl) : SR c X (.Subscript a b pos) (pvIx n pv eb) := by
  subst hn
  refine ⟨pe_imp (pe_ix ix_list ha.pe hb.pe hs) fun σ H Q ⟨F, ρ, oa, r, q⟩ => ⟨F, ρ, oa, r, ?_⟩⟩
  unfold pvIx at q
  cases z : pv ρ with
  | ok j =>
    rw [z] at q
    intro p H1 F1 g ep
    have r1 := r.grow g
    have q' : FinR (X.kc c) c oa F H (match cell c.n ρ j with
      | some (.own2 ks) => (eb ρ).bind fun y => (match y with
        | .int i => Res.of (atI ks i)
        | _ => .stuck)
      | _ => .stuck) Q := q
    split at q'
    · rename_i ks hk
      refine ⟨F1, ρ, r1.r, ?_⟩
      cases w : eb ρ with
      | ok y =>
        rw [w] at q'
        intro v H2 F2 g2 rv
        have r2 := r1.grow g2
        cases y with
        | int i =>
          have q2 : FinR (X.kc c) c oa F H (Res.of (atI ks i)) Q := q'
          obtain ⟨ps, e1, e2⟩ := r2.own2At ep hk
          cases zk : atI ks i with
          | none => rw [zk] at q2; exact q2.elim
          | some k =>
            rw [zk] at q2
            obtain ⟨pk, f1, f2⟩ := atI_refs e2 zk
            exact ⟨p, _, i, _, rfl, rv.int, .inl (.inl e1), f1, q2 pk H2 F2 (g.trans g2) f2⟩
        | _ => exact (show False from q').elim
      | exc C fs => rw [w] at q'; exact q'
      | stuck => rw [w] at q'; exact q'
    · exact q'.elim
  | exc C fs => rw [z] at q; exact q
  | stuck => rw [z] at q; exact q
end
end Pu

namespace Pu
open PySem PySem.Spec PyProof.Rows L2
/-! ### statements on cells -/
/-- a path, then a statement's rest -/
theorem tRf_st {K : Kc} {c : Cc} {F H : Hp} {ρ : PEnv} {σ : Sg} {pv : Pv} {k : Nat → Out} {D : Ends} {T : V → Hp → Prop}
    (r : Rel K c F ρ σ H) (h : FinS K c F (Out.of (pv ρ) k) D) (ht : ∀ p j H1 F1 oa, Grow F H F1 H1 → RelO K c F1 ρ σ H1 oa → oa (j + c.n) = some p → FinS K c F1 (k j) D → T (.ref p) H1) : tRf K c pv σ H T := by
  obtain ⟨oa, r⟩ := r.o
  refine ⟨F, ρ, oa, r, ?_⟩
  cases q : pv ρ with
  | ok j =>
    rw [q] at h
    exact fun p H1 F1 g e => ht p j H1 F1 oa g (r.grow g) e (FinS.mono g.f h)
  | exc C fs => rw [q] at h; exact h
  | stuck => rw [q] at h; exact h
/-- an expression, the places kept -/
theorem tG_stO {α β : Type} {K : Kc} {c : Cc} {R : Hp → Hp → α → β → Prop} {F H : Hp} {ρ : PEnv} {σ : Sg} {oa : Nat → Option Addr} {ev : PEnv → Res β} {k : β → Out} {D : Ends} {T : α → Hp → Prop}
    (r : RelO K c F ρ σ H oa) (h : FinS K c F (Out.of (ev ρ) k) D) (ht : ∀ v d H1 F1, Grow F H F1 H1 → RelO K c F1 ρ σ H1 oa → R F1 H1 v d → FinS K c F1 (k d) D → T v H1) : tG K c R ev σ H T := by
  refine ⟨F, ρ, r.r, ?_⟩
  cases q : ev ρ with
  | ok d =>
    rw [q] at h
    exact fun v H1 F1 g rp => ht v d H1 F1 g (r.grow g) rp (FinS.mono g.f h)
  | exc C fs => rw [q] at h; exact h
  | stuck => rw [q] at h; exact h
theorem RelO.putOwn {K : Kc} {c : Cc} {F H : Hp} {ρ : PEnv} {σ : Sg} {oa : Nat → Option Addr} {i : Nat} {a : Addr} {ds ds' : List D} {vs' : List V} (r : RelO K c F ρ σ H oa) (e : oa i = some a) (hi : ρ[i]? = some (.own ds)) (h : Reps K F vs' ds') :
    RelO K c F (ρ.set i (.own ds')) σ (upd H a (.lst vs')) oa := by
  refine r.put e ?_
  obtain ⟨b, vs, o1, o2, o3, o4⟩ := r.s1 i _ hi
  rw [e] at o1; cases o1
  exact ⟨a, vs', rfl, o2, upd_same, h⟩
/-- path[j] = e -/
def sPutC (n : Nat) (pv : Pv) (ej ea : Ev) : Sv := fun ρ => Out.of (ea ρ) fun d => Out.of (pv ρ) fun k => match cell n ρ k with
  | some (.own ds) => Out.of (ej ρ) fun j => putAt (k + n) ρ ds d j
  | _ => .stuck
/-- path.append(e) -/
def sAppC (n : Nat) (pv : Pv) (ea : Ev) : Sv := fun ρ => Out.of (pv ρ) fun k => match cell n ρ k with
  | some (.own ds) => Out.of (ea ρ) fun d => if ds.length < sizeLine then .nx (ρ.set (k + n) (.own (ds ++ [d]))) else .stuck
  | _ => .stuck
/-- x[j] op= e, x a list of one's own -/
def augAt (f : D → D → Option D) (i : Nat) (ρ : PEnv) (ds : List D) (ea : Ev) (j : D) : Out := match j with
  | .int z => if 0 ≤ z then (match ds[z.toNat]? with
    | some x => Out.of (ea ρ) fun d => (match f x d with
      | some y => .nx (ρ.set i (.own (ds.set z.toNat y)))
      | none => .stuck)
    | none => .stuck) else .stuck
  | _ => .stuck
def sAugS (f : D → D → Option D) (i : Nat) (ej ea : Ev) : Sv := fun ρ => match ρ[i]? with
  | some (.own ds) => Out.of (ej ρ) fun j => augAt f i ρ ds ea j
  | _ => .stuck
def sAugC (f : D → D → Option D) (n : Nat) (pv : Pv) (ej ea : Ev) : Sv := fun ρ => Out.of (pv ρ) fun k => match cell n ρ k with
  | some (.own ds) => Out.of (ej ρ) fun j => augAt f (k + n) ρ ds ea j
  | _ => .stuck
/-- x = path -/
def sRefC (i : Nat) (pv : Pv) : Sv := fun ρ => Out.of (pv ρ) fun k => .nx (ρ.set i (.al k))
/-- x = [..]: a new cell -/
def sNewC (n i : Nat) (lv : Av) : Sv := fun ρ => match lv ρ with
  | .ok ds => .nx ((ρ ++ [Slot.own ds]).set i (.al (ρ.length - n)))
  | .exc C fs => .exc C fs
  | .stuck => .stuck
section
variable {c : Cc} {X : Cx} {o e a b : Expr} {ea eb ej : Ev} {lv : Av} {pv : Pv} {pos p p2 apos : Pos} {x : Str} {i n : Nat}
theorem ss_putC (ho : SR c X o pv) (hj : SE c X b ej) (he : SE c X e ea) (hn : c.n = n := by rfl)
    (ha : ∀ v, assign (.Subscript o b p2) X.env v = (do
      let ov ← holding [v] (eval o X.env)
      let iv ← holding [v, ov] (eval b X.env)
      standAt p2
      holding [v, ov, iv] (setItem ov iv v)
      release [v, ov, iv] []) := by intro _; rfl) (hs : swapsWithSole [.Subscript o b p2] e pos.line X.env = pure false := by rfl) (hw : swappedStores [.Subscript o b p2] e X.env = pure none := by rfl)
    (h1 : (assignEach [.Subscript o b p2] X.env).map (·.2) = [assign (.Subscript o b p2) X.env] := by rfl) : SS c X (.Assign [.Subscript o b p2] e pos) (sPutC n pv ej ea) := by
  subst hn
  refine ⟨ps_imp (ps_asg he.pe (pg_sub ho.pe hj.pe set_list ha) hs hw h1) fun D σ H ⟨F, ρ, r, q⟩ => ?_⟩
  unfold sPutC at q
  refine tG_st r q fun v dv H1 F1 g r1 rp q1 => ?_
  refine tRf_st r1 q1 fun l j H2 F2 oa g2 r2 ep q2 => ?_
  split at q2
  · rename_i ds hk
    refine tG_stO r2 q2 fun w dk H3 F3 g3 r3 rk q3 => ?_
    obtain ⟨vs, e2, e3⟩ := r3.ownAt ep hk
    cases dk with
    | int z =>
      have q3' : FinS (X.kc c) c F3 (match ixN ds.length z with | some m => .nx (ρ.set (j + c.n) (.own (ds.set m dv))) | none => .stuck) D := q3
      cases rk
      split at q3'
      · rename_i m hm
        exact ⟨l, vs, z, m, rfl, rfl, e2, by rw [e3.length]; exact hm, q3' σ _ F3 (Same.refl F3) (r3.putOwn ep hk (Reps.set (rp.mono (g2.f.trans g3.f)) m e3)).r⟩
      · exact q3'.elim
    | _ => exact (show False from q3).elim
  · exact q2.elim
theorem ss_appC (ho : SR c X o pv) (he : SE c X e ea) (hn : c.n = n := by rfl)
    (hbase : attributeBase o "append" X.env (eval o X.env) = eval o X.env := by rfl)
    (hfew : ((backTo p2 (starEach [e] X.env)).all (fun x => !x.1) && (backToKw p2 (keywordEach [] X.env)).all (fun x => x.1.isSome)
      && decide ([e].length + ([] : List Keyword).length + (if ([] : List Keyword).isEmpty then 0 else 1) < 30)) = true := by rfl)
    (hline : (apos.endLine == p2.line) = true := by rfl) (hs : starEach [e] X.env = (false, eval e X.env) :: starEach [] X.env := by rfl) (hplain : (backTo p2 (starEach [] X.env)).any (·.1) = false := by rfl)
    (hsw : swapsWith (.Call (.Attribute o "append" apos) [e] [] p2) none pos.line X.env = pure false := by rfl) :
    SS c X (.Expr (.Call (.Attribute o "append" apos) [e] [] p2) pos) (sAppC n pv ea) := by
  subst hn
  refine ⟨ps_imp (ps_expr (pe_bm PySem.F.plainAttrs_list PySem.F.slot_list_append PySem.F.type_list_append mt_append ho.pe (pa_cons he.pe pa_nil hs) hbase hfew hline hs hplain) hsw) fun D σ H ⟨F, ρ, r, q⟩ => ?_⟩
  unfold sAppC at q
  refine tRf_st r q fun l j H1 F1 oa g r1 ep q1 => ?_
  split at q1
  · rename_i ds hk
    obtain ⟨vs0, e20, _⟩ := r1.ownAt ep hk
    refine ⟨.inl ⟨rfl, vs0, .inl (.inl e20)⟩, tG_stO r1 q1 fun v dv H2 F2 g2 r2 rp q2 => ?_⟩
    obtain ⟨vs, e2, e3⟩ := r2.ownAt ep hk
    have q2' : FinS (X.kc c) c F2 (if ds.length < sizeLine then .nx (ρ.set (j + c.n) (.own (ds ++ [dv]))) else .stuck) D := q2
    by_cases hl : ds.length < sizeLine
    · rw [if_pos hl] at q2'
      exact ⟨l, vs, v, rfl, rfl, e2, by rw [e3.length]; exact hl, q2' σ _ F2 (Same.refl F2) (r2.putOwn ep hk (e3.append (.cons rp .nil))).r⟩
    · rw [if_neg hl] at q2'; exact q2'.elim
  · exact q1.elim
/-- x[j], by values, x a list -/
def rGetL (K : PySem.W.Frag) : V → V → Hp → VK → Prop := fun o i H Q => ∃ p xs k v, o = .ref p ∧ i = .int k ∧ 0 ≤ k ∧ SqL K H p xs ∧ xs[k.toNat]? = some v ∧ Q v H
theorem get_list : PGet X (rGetL X.K) := by
  intro pins s σ H ov iv u w Q I ro ri h
  obtain ⟨p, xs, k, v, rfl, rfl, h0, hq, he, q⟩ := h
  cases ro
  obtain ⟨t, rfl⟩ := ri
  obtain ⟨its, r, pl, hz⟩ := I.list hq
  obtain ⟨w, ew, rw'⟩ := r.get he
  have hl := r.length
  have hn := line63
  have hk : k.toNat < xs.length := (List.getElem?_eq_some_iff.mp he).1
  exact wpAny_getItem_list pl.isList h0 (by omega) (by simpa using ew) ⟨v, H, I, rw', q⟩
theorem aug_fin {F H : Hp} {ρ : PEnv} {σ : Sg} {De : Ends} {oa : Nat → Option Addr} {f : D → D → Option D} {ti : TIp} {j : Nat} {l : Addr} {ds : List D} (lf : LiftI (X.kc c) ti f) (r : RelO (X.kc c) c F ρ σ H oa) (ep : oa j = some l) (hk : ρ[j]? = some (.own ds))
    {dj : D} {w : V} (rj : Rep (X.kc c) F w dj) (q : FinS (X.kc c) c F (augAt f j ρ ds ea dj) De) :
    rGetL X.K (.ref l) w H fun x H3 => (tE (X.kc c) c ea) σ H3 fun y H4 => ti x y H4 fun z H5 => rSetL (.ref l) w z H5 fun H6 => De.nx σ H6 := by
  unfold augAt at q
  cases dj with
  | int z =>
    cases rj
    have q' : FinS (X.kc c) c F (if 0 ≤ z then (match ds[z.toNat]? with
      | some x => Out.of (ea ρ) fun d => (match f x d with
        | some y => .nx (ρ.set j (.own (ds.set z.toNat y)))
        | none => .stuck)
      | none => .stuck) else .stuck) De := q
    by_cases h0 : 0 ≤ z
    · rw [if_pos h0] at q'
      obtain ⟨vs, e2, e3⟩ := r.ownAt ep hk
      cases hx : ds[z.toNat]? with
      | none => simp only [hx] at q'; exact q'.elim
      | some xd =>
        simp only [hx] at q'
        obtain ⟨xv, hxv, rx⟩ := e3.get hx
        refine ⟨l, vs, z, xv, rfl, rfl, h0, .inl (.inl e2), hxv, tG_stO r q' fun v dv H3 F3 g3 r3 rv q3 => ?_⟩
        cases hf : f xd dv with
        | none => simp only [hf] at q3; exact q3.elim
        | some y =>
          simp only [hf] at q3
          refine lf r3.le (rx.mono g3.f) rv hf fun w rw' => ?_
          obtain ⟨vs', f2, f3⟩ := r3.ownAt ep hk
          have hl : z.toNat < vs'.length := by rw [f3.length]; exact (List.getElem?_eq_some_iff.mp hx).1
          refine ⟨l, vs', z, z.toNat, rfl, rfl, f2, ?_, q3 σ _ F3 (Same.refl F3) (r3.putOwn ep hk (Reps.set rw' z.toNat f3)).r⟩
          unfold ixN
          rw [if_pos h0, if_pos (by omega)]
    · rw [if_neg h0] at q'; exact q'.elim
  | _ => exact q.elim
theorem ss_augC {op : Operator} {ti : TIp} {f : D → D → Option D} (ho : SR c X o pv) (hj : SE c X b ej) (he : SE c X e ea) (hp : PIp X op ti) (lf : LiftI (X.kc c) ti f) (hn : c.n = n := by rfl)
    (ha : ∀ ov iv new, augStore b ov iv new = (do holding [new, ov, iv] (setItem ov iv new); release [new, ov, iv] []; pure .next) := by intros; rfl) : SS c X (.AugAssign (.Subscript o b p2) op e pos) (sAugC f n pv ej ea) := by
  subst hn
  refine ⟨ps_imp (ps_augS ho.pe hj.pe get_list he.pe hp set_list ha) fun De σ H ⟨F, ρ, r, q⟩ => ?_⟩
  unfold sAugC at q
  refine tRf_st r q fun l j H1 F1 oa g r1 ep q1 => ?_
  split at q1
  · rename_i ds hk
    exact tG_stO r1 q1 fun w dj H2 F2 g2 r2 rj q2 => aug_fin lf r2 ep hk rj q2
  · exact q1.elim
theorem ss_augS {i : Nat} {op : Operator} {ti : TIp} {f : D → D → Option D} (hj : SE c X b ej) (he : SE c X e ea) (hp : PIp X op ti) (lf : LiftI (X.kc c) ti f) (hN : X.N[i]? = some x := by rfl) (hn0 : c.n = X.N.length := by rfl) (hv : Vis X.env.scope x := by first | exact Or.inl rfl | exact Or.inr (Or.inl rfl) | exact Or.inr (Or.inr rfl)) (hd : (x == ("__debug__" : Str)) = false := by decide)
    (hcd : (x == ("__classdict__" : Str)) = false := by decide)
    (ha : ∀ ov iv new, augStore b ov iv new = (do holding [new, ov, iv] (setItem ov iv new); release [new, ov, iv] []; pure .next) := by intros; rfl) : SS c X (.AugAssign (.Subscript (.Name x p) b p2) op e pos) (sAugS f i ej ea) := by
  refine ⟨ps_imp (ps_augS (pe_var hN hv hd hcd) hj.pe get_list he.pe hp set_list ha) fun De σ H ⟨F, ρ, r, q⟩ => ?_⟩
  unfold sAugS at q
  split at q
  · rename_i ds hi
    obtain ⟨oa, r⟩ := r.o
    obtain ⟨l, vs, e1, e2, _, _⟩ := r.s1 i _ hi
    have hs : σ[i]? = some (some (.ref l)) := by
      rcases e2 with e2 | e2
      · rw [List.getElem?_eq_none_iff, r.len, hn0] at e2
        have := (List.getElem?_eq_some_iff.mp hN).1
        omega
      · exact e2
    exact ⟨.ref l, hs, tG_stO r q fun w dj H2 F2 g2 r2 rj q2 => aug_fin lf r2 e1 hi rj q2⟩
  · exact q.elim
theorem ss_refC (he : SR c X e pv) (hN : X.N.Nodup) (hi : X.N[i]? = some x := by rfl) (hx : Loc X.env.scope x := by first | exact Or.inl rfl | exact Or.inr rfl) (io : ∀ a, c.io ≠ some (i, a) := by intro _ h; cases h)
    (hs : swapsWith e (some (.Name x p)) pos.line X.env = pure false := by rfl) (hf : X.fn x = true ∨ X.env.scope.names.lookup x = some .local := by first | exact .inl rfl | exact .inr rfl | assumption) (hn : c.n = X.N.length := by rfl) : SS c X (.Assign [.Name x p] e pos) (sRefC i pv) := by
  refine ⟨ps_imp (ps_set hN hi hx he.pe hs hf) fun De σ H ⟨F, ρ, r, q⟩ => ?_⟩
  unfold sRefC at q
  exact tRf_st r q fun l j H1 F1 oa g r1 ep q1 => q1 _ _ F1 (Same.refl F1) (r1.nameV io (lt_n hn hi) ⟨rfl, l, ep, rfl⟩)
theorem ss_newC (he : SN c X e lv) (hN : X.N.Nodup) (hi : X.N[i]? = some x := by rfl) (hx : Loc X.env.scope x := by first | exact Or.inl rfl | exact Or.inr rfl) (io : ∀ a, c.io ≠ some (i, a) := by intro _ h; cases h)
    (hs : swapsWith e (some (.Name x p)) pos.line X.env = pure false := by rfl) (hf : X.fn x = true ∨ X.env.scope.names.lookup x = some .local := by first | exact .inl rfl | exact .inr rfl | assumption) (hn : c.n = X.N.length := by rfl) (hn2 : c.n = n := by rfl) : SS c X (.Assign [.Name x p] e pos) (sNewC n i lv) := by
  subst hn2
  refine ⟨ps_imp (ps_set hN hi hx he.pe hs hf) fun De σ H ⟨F, ρ, r, q⟩ => ⟨F, ρ, r, ?_⟩⟩
  unfold sNewC at q
  cases z : lv ρ with
  | ok ds =>
    rw [z] at q
    intro p vs H1 F1 g nn rp _
    obtain ⟨oa, r⟩ := r.o
    obtain ⟨r2, far⟩ := (r.grow g).cell (s := .own ds) nn ⟨p, vs, rfl, .inl rfl, upd_same, rp⟩
    have hl := r.len2
    exact q _ _ F1 g.f (r2.nameV io (lt_n hn hi) ⟨rfl, p, by rw [show ρ.length - c.n + c.n = ρ.length by omega]; exact oaSet_same, rfl⟩)
  | exc C fs => rw [z] at q; exact q
  | stuck => rw [z] at q; exact q.elim
end
end Pu

namespace Pu
open PySem PySem.Spec PyProof.Rows L2
/-! ### defs that change cells of their callers -/
abbrev FnM := List Slot → List Slot → Res (Slot × List Slot)
inductive ArgOk (K : Kc) (F : Hp) (oc : Nat → Option Addr) : V → Slot → Prop
  | val {v : V} {d : D} : Rep K F v d → ArgOk K F oc v (.val d)
  | al {p : Addr} {k : Nat} : oc k = some p → ArgOk K F oc (.ref p) (.al k)
inductive ArgsOk (K : Kc) (F : Hp) (oc : Nat → Option Addr) : List V → List Slot → Prop
  | nil : ArgsOk K F oc [] []
  | cons {v : V} {vs : List V} {s : Slot} {ss : List Slot} : ArgOk K F oc v s → ArgsOk K F oc vs ss → ArgsOk K F oc (v :: vs) (s :: ss)
theorem ArgOk.mono {K : Kc} {F F' : Hp} {oc oc' : Nat → Option Addr} {v : V} {s : Slot} (m : Same F F') (g : ∀ k a, oc k = some a → oc' k = some a) (h : ArgOk K F oc v s) : ArgOk K F' oc' v s := by
  cases h with
  | val h => exact .val (h.mono m)
  | al h => exact .al (g _ _ h)
theorem ArgsOk.mono {K : Kc} {F F' : Hp} {oc oc' : Nat → Option Addr} (m : Same F F') (g : ∀ k a, oc k = some a → oc' k = some a) : ∀ {vs : List V} {ss : List Slot}, ArgsOk K F oc vs ss → ArgsOk K F' oc' vs ss
  | _, _, .nil => .nil
  | _, _, .cons h r => .cons (h.mono m g) (ArgsOk.mono m g r)
theorem ArgsOk.length {K : Kc} {F : Hp} {oc : Nat → Option Addr} : ∀ {vs : List V} {ss : List Slot}, ArgsOk K F oc vs ss → vs.length = ss.length
  | _, _, .nil => rfl
  | _, _, .cons _ r => congrArg Nat.succ (ArgsOk.length r)
theorem ArgsOk.get {K : Kc} {F : Hp} {oc : Nat → Option Addr} : ∀ {vs : List V} {ss : List Slot} {i : Nat} {s : Slot}, ArgsOk K F oc vs ss → ss[i]? = some s → ∃ v, vs[i]? = some v ∧ ArgOk K F oc v s
  | _, _, _, _, .nil, h => by simp at h
  | _, _, 0, _, .cons h _, e => by simp at e; subst e; exact ⟨_, rfl, h⟩
  | _, _, i + 1, _, .cons _ r, e => by
    obtain ⟨v, h1, h2⟩ := ArgsOk.get (i := i) r (by simpa using e)
    exact ⟨v, by simpa using h1, h2⟩
structure CellsOk (K : Kc) (F H : Hp) (M : List Slot) (oc : Nat → Option Addr) : Prop where
  le : Same F H
  ok : ∀ k s, M[k]? = some s → SlotOk K 0 F H oc none (oc k) s
  inj : ∀ i j a, oc i = some a → oc j = some a → i = j
  fr : ∀ k a, oc k = some a → F a = none ∧ k < M.length
/-- what is promised of a change of cells -/
structure After (K : Kc) (F H : Hp) (oc : Nat → Option Addr) (F' H' : Hp) (M' : List Slot) (oc' : Nat → Option Addr) : Prop where
  cells : CellsOk K F' H' M' oc'
  f : Same F F'
  old : ∀ k a, oc k = some a → oc' k = some a
  frame : ∀ x o, H x = some o → (∀ k, oc k ≠ some x) → H' x = some o
  nf : ∀ a o, F' a = some o → F a = some o ∨ H a = none
  nc : ∀ k a, oc' k = some a → oc k = some a ∨ H a = none
def PM (K : Kc) (Fn : FnM) : Sp := fun vs H Q _ => ∃ F M oc as s M', CellsOk K F H M oc ∧ ArgsOk K F oc vs as ∧ Fn as M = .ok (s, M') ∧ ∀ v H' F' oc', After K F H oc F' H' M' oc' → ArgOk K F' oc' v s → Q v H'
def iniM (m : Nat) (as M : List Slot) : PEnv := as ++ List.replicate (m - as.length) .un ++ M
def Out.resM (m : Nat) : Out → Res (Slot × List Slot)
  | .nx ρ => .ok (.val .non, ρ.drop m)
  | .rm (.val d) ρ => .ok (.val d, ρ.drop m)
  | .rm (.al k) ρ => .ok (.al k, ρ.drop m)
  | _ => .stuck
def runM (n m : Nat) (s : Sv) : FnM := fun as M => if as.length = n then (s (iniM m as M)).resM m else .stuck
open Classical in
/-- the heap without the cells -/
noncomputable def delC (H : Hp) (oc : Nat → Option Addr) : Hp := fun x => if ∃ k, oc k = some x then none else H x
theorem delC_le {H : Hp} {oc : Nat → Option Addr} : Same (delC H oc) H := fun x o e => by
  unfold delC at e
  split at e
  · cases e
  · exact e
theorem delC_at {H : Hp} {oc : Nat → Option Addr} {k : Nat} {a : Addr} (e : oc k = some a) : delC H oc a = none := by
  unfold delC
  rw [if_pos ⟨k, e⟩]
theorem delC_ne {H : Hp} {oc : Nat → Option Addr} {x : Addr} (h : ∀ k, oc k ≠ some x) : delC H oc x = H x := by
  unfold delC
  rw [if_neg]
  rintro ⟨k, e⟩
  exact h k e
theorem delC_none {H : Hp} {oc : Nat → Option Addr} {x : Addr} (h : delC H oc x = none) : H x = none ∨ ∃ k, oc k = some x := by
  by_cases q : ∃ k, oc k = some x
  · exact .inr q
  · left
    rw [delC_ne (fun k e => q ⟨k, e⟩)] at h
    exact h
theorem SlotOk.toCell {K : Kc} {n : Nat} {F H : Hp} {oa : Nat → Option Addr} {o : Option Addr} : ∀ {s : Slot}, SlotOk K n F H oa none o s → SlotOk K 0 F H (fun k => oa (k + n)) none o s
  | .un, h => h
  | .val d, h => h
  | .own ds, h => h
  | .ob C fs, h => h
  | .own2 ks, h => h
  | .al k, ⟨_, _, _, h⟩ => by cases h
  | .ins C fs, h => h
theorem SlotOk.ofCell {K : Kc} {n : Nat} {F H : Hp} {oa oc : Nat → Option Addr} {o : Option Addr} (g : ∀ k, oa (k + n) = oc k) : ∀ {s : Slot}, SlotOk K 0 F H oc none o s → SlotOk K n F H oa none o s
  | .un, h => h
  | .val d, h => h
  | .own ds, h => h
  | .ob C fs, h => h
  | .own2 ks, ⟨a, ps, h1, h2, h3, h4⟩ => ⟨a, ps, h1, h2, h3, h4.trans (List.map_congr_left fun k _ => (g k).symm)⟩
  | .al k, ⟨_, _, _, h⟩ => by cases h
  | .ins C fs, ⟨a, dx, fv, h1, h2, h3, h4⟩ => ⟨a, dx, fv, h1, h2, h3, h4.mono (Same.refl F) fun k p e => by rw [g k]; exact e⟩
theorem ArgOk.slot {K : Kc} {n : Nat} {F H : Hp} {oa oc : Nat → Option Addr} {v : V} {s : Slot} (g : ∀ k, oa (k + n) = oc k) (h : ArgOk K F oc v s) : SlotOk K n F H oa (some (some v)) none s := by
  cases h with
  | val h => exact ⟨rfl, _, rfl, h⟩
  | al h => exact ⟨rfl, _, by rw [g]; exact h, rfl⟩
theorem SlotOk.arg {K : Kc} {n : Nat} {F H : Hp} {oa : Nat → Option Addr} {v : V} {s : Slot} (h : SlotOk K n F H oa (some (some v)) none s) (hs : (∃ d, s = .val d) ∨ ∃ k, s = .al k) : ArgOk K F (fun k => oa (k + n)) v s := by
  rcases hs with ⟨d, rfl⟩ | ⟨k, rfl⟩
  · obtain ⟨_, w, e, h⟩ := h
    cases e
    exact .val h
  · obtain ⟨_, p, e1, e2⟩ := h
    cases e2
    exact .al e1
section
variable {K : Kc} {c : Cc} {F F' H H' : Hp} {ρ : PEnv} {σ : Sg} {oa oc : Nat → Option Addr} {M : List Slot}
theorem RelO.cells (r : RelO K c F ρ σ H oa) : CellsOk K F H (ρ.drop c.n) (fun k => oa (k + c.n)) := by
  refine ⟨r.le, fun k s e => ?_, fun i j a e1 e2 => ?_, fun k a e => ?_⟩
  · rw [List.getElem?_drop] at e
    have := r.s1 (k + c.n) s (by rw [Nat.add_comm]; exact e)
    rw [List.getElem?_eq_none_iff.mpr (by rw [r.len]; omega)] at this
    exact this.toCell
  · have := r.s2 _ _ a e1 e2
    omega
  · obtain ⟨f, _, l⟩ := r.s3 _ a e
    exact ⟨f, by rw [List.length_drop]; omega⟩
/-- the caller, after a change of its cells -/
theorem RelO.after {M' : List Slot} {oc' : Nat → Option Addr} (r : RelO K c F ρ σ H oa) (h : After K F H (fun k => oa (k + c.n)) F' H' M' oc') :
    RelO K c F' (ρ.take c.n ++ M') σ H' (fun i => if i < c.n then oa i else oc' (i - c.n)) := by
  have hl := r.len2
  have htl : (ρ.take c.n).length = c.n := by rw [List.length_take]; omega
  have notc : ∀ i a, i < c.n → oa i = some a → ∀ k, oa (k + c.n) ≠ some a := fun i a hi e k z => by
    have := r.s2 _ _ a e z
    omega
  have fr : ∀ i a, i < c.n → oa i = some a → ∃ u, H a = some u ∧ H' a = some u := fun i a hi e => by
    obtain ⟨u, hu⟩ := r.there e
    exact ⟨u, hu, h.frame a u hu (notc i a hi e)⟩
  have ex : ∀ j, c.n ≤ j → (oa j).isSome = true → (if j < c.n then oa j else oc' (j - c.n)) = oa j := fun j hj q => by
    rw [if_neg (by omega)]
    obtain ⟨a, e⟩ := Option.isSome_iff_exists.mp q
    have := h.old (j - c.n) a (by show oa (j - c.n + c.n) = _; rw [show j - c.n + c.n = j by omega]; exact e)
    rw [this, e]
  refine ⟨fun x o e => ?_, r.f0.trans h.f, h.cells.le, fun a o e => ?_, r.len, by rw [List.length_append, htl]; omega, fun i s e => ?_, fun i j a e1 e2 => ?_, fun i a e => ?_, fun i a e => ?_⟩
  · refine h.frame x o (r.b x o e) fun k z => ?_
    have := (r.s3 _ x z).2.1
    rw [e] at this; cases this
  · rcases h.nf a o e with z | z
    · exact r.nw a o z
    · exact .inr (r.b.free z)
  · by_cases hi : i < c.n
    · rw [if_pos hi]
      rw [List.getElem?_append_left (by rw [htl]; exact hi), List.getElem?_take, if_pos hi] at e
      have o := r.s1 i s e
      have o' : SlotOk K c.n F' H' oa σ[i]? (oa i) s := by
        cases s with
        | un => exact o
        | al k => exact o
        | val d => exact ⟨o.1, o.2.choose, o.2.choose_spec.1, o.2.choose_spec.2.mono h.f⟩
        | own ds =>
          obtain ⟨a, vs, p1, p2, p3, p4⟩ := o
          obtain ⟨u, u1, u2⟩ := fr i a hi p1
          rw [p3] at u1; cases u1
          exact ⟨a, vs, p1, p2, u2, p4.mono h.f⟩
        | own2 ks =>
          obtain ⟨a, vs, p1, p2, p3, p4⟩ := o
          obtain ⟨u, u1, u2⟩ := fr i a hi p1
          rw [p3] at u1; cases u1
          exact ⟨a, vs, p1, p2, u2, p4⟩
        | ob C fs =>
          obtain ⟨a, dx, vs, p1, p2, p3, p4⟩ := o
          obtain ⟨u, u1, u2⟩ := fr i a hi p1
          rw [p3] at u1; cases u1
          exact ⟨a, dx, vs, p1, p2, u2, p4.mono h.f⟩
        | ins C fs =>
          obtain ⟨a, dx, vs, p1, p2, p3, p4⟩ := o
          obtain ⟨u, u1, u2⟩ := fr i a hi p1
          rw [p3] at u1; cases u1
          exact ⟨a, dx, vs, p1, p2, u2, p4.mono h.f fun _ _ e => e⟩
      exact o'.oaNe ex
    · rw [if_neg hi]
      rw [List.getElem?_append_right (by rw [htl]; omega), htl] at e
      rw [List.getElem?_eq_none_iff.mpr (by rw [r.len]; omega)]
      exact (h.cells.ok _ s e).ofCell fun k => by rw [if_neg (by omega), Nat.add_sub_cancel]
  · by_cases hi : i < c.n
    · by_cases hj : j < c.n
      · rw [if_pos hi] at e1; rw [if_pos hj] at e2; exact r.s2 i j a e1 e2
      · rw [if_pos hi] at e1; rw [if_neg hj] at e2
        exfalso
        rcases h.nc _ a e2 with z | z
        · exact notc i a hi e1 _ z
        · obtain ⟨u, hu⟩ := r.there e1
          rw [z] at hu; cases hu
    · by_cases hj : j < c.n
      · rw [if_neg hi] at e1; rw [if_pos hj] at e2
        exfalso
        rcases h.nc _ a e1 with z | z
        · exact notc j a hj e2 _ z
        · obtain ⟨u, hu⟩ := r.there e2
          rw [z] at hu; cases hu
      · rw [if_neg hi] at e1; rw [if_neg hj] at e2
        have := h.cells.inj _ _ a e1 e2
        omega
  · by_cases hi : i < c.n
    · rw [if_pos hi] at e
      obtain ⟨f, b, l⟩ := r.s3 i a e
      refine ⟨?_, b, by rw [List.length_append, htl]; omega⟩
      cases q : F' a with
      | none => rfl
      | some o =>
        rcases h.nf a o q with z | z
        · rw [f] at z; cases z
        · obtain ⟨u, hu⟩ := r.there e
          rw [z] at hu; cases hu
    · rw [if_neg hi] at e
      obtain ⟨f, l⟩ := h.cells.fr _ a e
      refine ⟨f, ?_, by rw [List.length_append, htl]; omega⟩
      rcases h.nc _ a e with z | z
      · exact (r.s3 _ a z).2.1
      · exact r.b.free z
  · have e' := r.s4 i a e
    by_cases hi : i < c.n
    · rw [if_pos hi]; exact e'
    · exact (ex i (by omega) (by rw [e']; rfl)).trans e'
theorem rel_startM {E : XK} {vs : List V} {as : List Slot} {N : List Str} (hM : CellsOk K F H M oc) (ha : ArgsOk K F oc vs as) (hl : as.length ≤ N.length) :
    RelO K ⟨K.cm, delC H oc, F, E, none, N.length, oc⟩ F (iniM N.length as M) (L2.start N vs) H (fun i => if i < N.length then none else oc (i - N.length)) := by
  have e := ha.length
  have hal : (as ++ List.replicate (N.length - as.length) Slot.un).length = N.length := by rw [List.length_append, List.length_replicate]; omega
  refine ⟨delC_le, Same.refl F, hM.le, fun a o e => .inl e, ?_, ?_, fun i s hs => ?_, fun i j a e1 e2 => ?_, fun i a h => ?_, fun i a h => ?_⟩
  · unfold L2.start
    simp only [List.length_append, List.length_map, List.length_replicate]; omega
  · unfold iniM
    rw [List.length_append, hal]; exact Nat.le_add_right _ _
  · unfold iniM at hs
    by_cases hi : i < N.length
    · rw [if_pos hi]
      rw [List.getElem?_append_left (by rw [hal]; exact hi)] at hs
      by_cases hi2 : i < as.length
      · rw [List.getElem?_append_left hi2] at hs
        obtain ⟨v, e1, e2⟩ := ha.get hs
        rw [start_get e1]
        exact e2.slot fun k => by rw [if_neg (show ¬ k + N.length < N.length by omega), Nat.add_sub_cancel]
      · rw [List.getElem?_append_right (by omega), List.getElem?_replicate] at hs
        split at hs
        · cases hs; rfl
        · cases hs
    · rw [if_neg hi]
      rw [List.getElem?_append_right (by rw [hal]; omega), hal] at hs
      have hn : (L2.start N vs)[i]? = none := by
        rw [List.getElem?_eq_none_iff]
        unfold L2.start
        simp only [List.length_append, List.length_map, List.length_replicate]; omega
      rw [hn]
      exact (hM.ok _ s hs).ofCell fun k => by rw [if_neg (show ¬ k + N.length < N.length by omega), Nat.add_sub_cancel]
  · by_cases hi : i < N.length
    · rw [if_pos hi] at e1; cases e1
    · by_cases hj : j < N.length
      · rw [if_pos hj] at e2; cases e2
      · rw [if_neg hi] at e1; rw [if_neg hj] at e2
        have := hM.inj _ _ a e1 e2
        omega
  · by_cases hi : i < N.length
    · rw [if_pos hi] at h; cases h
    · rw [if_neg hi] at h
      obtain ⟨f, l⟩ := hM.fr _ a h
      refine ⟨f, delC_at h, ?_⟩
      unfold iniM
      rw [List.length_append, hal]; omega
  · rcases h with h | ⟨k, rfl, h⟩
    · cases h
    · show (if k + N.length < N.length then none else oc (k + N.length - N.length)) = _
      rw [if_neg (by omega), Nat.add_sub_cancel]; exact h
/-- the callee's end is the caller's change -/
theorem RelO.after_of {E : XK} {m : Nat} {ρ' : PEnv} {σ' : Sg} {oa' : Nat → Option Addr} (hM : CellsOk K F H M oc) (m' : Same F F') (r : RelO K ⟨K.cm, delC H oc, F, E, none, m, oc⟩ F' ρ' σ' H' oa') : After K F H oc F' H' (ρ'.drop m) (fun k => oa' (k + m)) := by
  have pin : ∀ k a, oc k = some a → oa' (k + m) = some a := fun k a e => r.s4 (k + m) a (.inr ⟨k, rfl, e⟩)
  refine ⟨r.cells, m', pin, fun x o e n => r.b x o (by show delC H oc x = _; rw [delC_ne n]; exact e), fun a o e => ?_, fun k a e => ?_⟩
  · rcases r.nw a o e with z | z
    · exact .inl z
    · rcases delC_none z with z | ⟨k, z⟩
      · exact .inr z
      · have := (r.s3 _ a (pin k a z)).1
        rw [e] at this; cases this
  · rcases delC_none (r.s3 _ a e).2.1 with z | ⟨j, z⟩
    · exact .inr z
    · have := r.s2 _ _ a e (pin j a z)
      have : k = j := by omega
      subst this
      exact .inl z
end
section
variable {P : Program} {w : World} {K : Kc} {mg : Str → Option Value} {base : Heap}
theorem fnM {x qual : Str} {st : Stmt} {f : Addr} {fd : FuncData} {N ps : List Str} {k n m : Nat} {s : Sv} (F : Fun K.K x qual st f fd) (S : FnScope N ps (defScope st)) (hn : ps.length = n) (hm : N.length = m)
    (hb : ∀ (cdv : Value) (A : Around) (outer : List PySem.Env) (s' : Shared) (H B Fz : Hp) (E : XK) (oc : Nat → Option Addr), Room k (A.deeper (envOfC qual (defScope st) s'.heap.objs.size f cdv)) →
      SSs ⟨K.cm, B, Fz, fun _ _ _ => False, none, N.length, oc⟩ (cxOf CX0 P w K.K mg base N qual (defScope st) f cdv A outer s' H E).nox (defBody st) s) : FnOk P w K.K mg base CX0 (k + 1) f fd ps (PM K (runM n m s)) := by
  subst hn hm
  have len : ∀ {as M : List Slot} {r : Slot × List Slot}, runM ps.length N.length s as M = .ok r → as.length = ps.length := fun {as M r} e => by
    unfold runM at e
    split at e
    · assumption
    · cases e
  refine F.ok S (fun vs H Q E h => ?_) (fun cdv A outer s' H vs Q E hr h => ?_)
  · obtain ⟨F, M, oc, as, r, M', hM, ha, e, _⟩ := h
    rw [ha.length]; exact len e
  · obtain ⟨Fz, M, oc, as, sr, M', hM, ha, e, q⟩ := h
    have hl := len e
    have hN : ps.length ≤ N.length := by
      have := congrArg List.length S.pre
      rw [List.length_take] at this; omega
    refine ⟨_, (hb cdv A outer s' H (delC H oc) Fz E oc hr).ps, Fz, iniM N.length as M, (rel_startM hM ha (by omega)).r, ?_⟩
    unfold runM at e
    rw [if_pos hl] at e
    cases z : s (iniM N.length as M) with
    | nx ρ' =>
      rw [z] at e
      cases e
      intro σ' H' F' m r'
      obtain ⟨oa, r'⟩ := r'.o
      exact q .non H' F' _ (r'.after_of hM m) (.val .non)
    | rm t ρ' =>
      rw [z] at e
      cases t with
      | val d =>
        cases e
        rintro v σ' H' F' m ⟨oa, r', st⟩
        obtain ⟨_, w, e, h⟩ := st
        cases e
        exact q v H' F' _ (r'.after_of hM m) (.val h)
      | al k =>
        cases e
        rintro v σ' H' F' m ⟨oa, r', st⟩
        obtain ⟨_, p, e1, e2⟩ := st
        cases e2
        exact q _ H' F' _ (r'.after_of hM m) (.al e1)
      | _ => cases e
    | rt d => rw [z] at e; cases e
    | bk ρ' => rw [z] at e; cases e
    | ct ρ' => rw [z] at e; cases e
    | exc C fs => rw [z] at e; cases e
    | stuck => rw [z] at e; cases e
end
end Pu

namespace Pu
open PySem PySem.Spec PyProof.Rows L2
/-! ### expressions that change cells -/
abbrev Xv := PEnv → Res (Slot × PEnv)
abbrev Axv := PEnv → Res (List Slot)
def FinX (K : Kc) (c : Cc) (F : Hp) (σ : Sg) (r : Res (Slot × PEnv)) (Q : VK) : Prop := match r with
  | .ok (s, ρ') => ∀ v H' F', Same F F' → RelR K c F' ρ' σ H' v s → Q v H'
  | .exc C fs => ExcW K c C fs
  | .stuck => False
def tX (K : Kc) (c : Cc) (xv : Xv) : TE := fun σ H Q => ∃ F ρ, Rel K c F ρ σ H ∧ FinX K c F σ (xv ρ) Q
structure SX (c : Cc) (X : Cx) (e : Expr) (xv : Xv) : Prop where
  pe : PE X e (tX (X.kc c) c xv)
def FinAx (K : Kc) (c : Cc) (oa : Nat → Option Addr) (F H : Hp) (r : Res (List Slot)) (R : List V → Hp → Prop) : Prop := match r with
  | .ok as => ∀ vs H' F', Grow F H F' H' → ArgsOk K F' (fun k => oa (k + c.n)) vs as → R vs H'
  | .exc C fs => ExcW K c C fs
  | .stuck => False
structure SAx (c : Cc) (X : Cx) (es : List Expr) (av : Axv) : Prop where
  pa : PA X es (fun σ H R => ∃ F ρ oa, RelO (X.kc c) c F ρ σ H oa ∧ FinAx (X.kc c) c oa F H (av ρ) R)
def axN : Axv := fun _ => .ok []
def axV (ea : Ev) (av : Axv) : Axv := fun ρ => (ea ρ).bind fun d => (av ρ).bind fun as => .ok (.val d :: as)
def axC (pv : Pv) (av : Axv) : Axv := fun ρ => (pv ρ).bind fun k => (av ρ).bind fun as => .ok (.al k :: as)
def xvE (ea : Ev) : Xv := fun ρ => (ea ρ).bind fun d => .ok (.val d, ρ)
def xvR (pv : Pv) : Xv := fun ρ => (pv ρ).bind fun k => .ok (.al k, ρ)
def callM (n : Nat) (Fn : FnM) (as : List Slot) (ρ : PEnv) : Res (Slot × PEnv) := (Fn as (ρ.drop n)).nx.bind fun r => .ok (r.1, ρ.take n ++ r.2)
/-- f(..), f changes cells -/
def xCall (n : Nat) (Fn : FnM) (av : Axv) : Xv := fun ρ => (av ρ).bind fun as => callM n Fn as ρ
/-- o.m(..), o a cell -/
def xMeth (n C : Nat) (m : Str) (Fn : FnM) (pv : Pv) (av : Axv) : Xv := fun ρ => (pv ρ).bind fun k => match cell n ρ k with
  | some (.ins C' fs) => if (decide (C' = C) && (fs.lookup m).isNone) = true then (av ρ).bind fun as => callM n Fn (.al k :: as) ρ else .stuck
  | _ => .stuck
/-- o.f, a property -/
def xProp (n C : Nat) (Fn : FnM) (pv : Pv) : Xv := fun ρ => (pv ρ).bind fun k => match cell n ρ k with
  | some (.ins C' fs) => if C' = C then callM n Fn [.al k] ρ else .stuck
  | _ => .stuck
/-- C(..): a new cell -/
def xMake (n C : Nat) (Fn : FnM) (av : Axv) : Xv := fun ρ => (av ρ).bind fun as => match Fn (.al (ρ.length - n) :: as) (ρ.drop n ++ [.ins C []]) with
  | .ok (.val .non, M') => .ok (.al (ρ.length - n), ρ.take n ++ M')
  | _ => .stuck
section
variable {K : Kc} {c : Cc} {F F' H H' : Hp} {ρ : PEnv} {σ : Sg} {oa : Nat → Option Addr}
theorem call_fin {n : Nat} (hn : c.n = n) {E : XK} {Fn : FnM} {vs : List V} {as : List Slot} {Q : VK} (r : RelO K c F ρ σ H oa) (ha : ArgsOk K F (fun k => oa (k + c.n)) vs as) (q : FinX K c F σ (callM n Fn as ρ) Q) : PM K Fn vs H Q E := by
  subst hn
  unfold callM at q
  cases z : Fn as (ρ.drop c.n) with
  | ok r' =>
    rw [z] at q
    obtain ⟨s, M'⟩ := r'
    refine ⟨F, ρ.drop c.n, _, as, s, M', r.cells, ha, z, fun v H' F' oc' af av => ?_⟩
    refine q v H' F' af.f ⟨_, r.after af, av.slot fun k => ?_⟩
    rw [if_neg (by omega), Nat.add_sub_cancel]
  | exc C fs => rw [z] at q; exact q.elim
  | stuck => rw [z] at q; exact q.elim
theorem RepFR.lookN {oc : Nat → Option Addr} {f : Str} : ∀ {vs : List (Str × V)} {fs : List (Str × Rv)}, RepFR K F oc vs fs → fs.lookup f = none → vs.lookup f = none
  | _, _, .nil, _ => rfl
  | _, _, .val (n := n) h r, e => by
    rw [List.lookup_cons] at e ⊢
    cases q : f == n with
    | true => rw [q] at e; cases e
    | false => rw [q] at e; exact RepFR.lookN r e
  | _, _, .cel (n := n) h r, e => by
    rw [List.lookup_cons] at e ⊢
    cases q : f == n with
    | true => rw [q] at e; cases e
    | false => rw [q] at e; exact RepFR.lookN r e
theorem RepFR.lookV {oc : Nat → Option Addr} {f : Str} {d : D} : ∀ {vs : List (Str × V)} {fs : List (Str × Rv)}, RepFR K F oc vs fs → fs.lookup f = some (.v d) → ∃ v, vs.lookup f = some v ∧ Rep K F v d
  | _, _, .nil, e => by cases e
  | _, _, .val (n := n) h r, e => by
    rw [List.lookup_cons] at e ⊢
    cases q : f == n with
    | true => rw [q] at e; cases e; exact ⟨_, rfl, h⟩
    | false => rw [q] at e; exact RepFR.lookV r e
  | _, _, .cel (n := n) h r, e => by
    rw [List.lookup_cons] at e ⊢
    cases q : f == n with
    | true => rw [q] at e; cases e
    | false => rw [q] at e; exact RepFR.lookV r e
theorem RepFR.lookC {oc : Nat → Option Addr} {f : Str} {k : Nat} : ∀ {vs : List (Str × V)} {fs : List (Str × Rv)}, RepFR K F oc vs fs → fs.lookup f = some (.c k) → ∃ p, vs.lookup f = some (.ref p) ∧ oc k = some p
  | _, _, .nil, e => by cases e
  | _, _, .val (n := n) h r, e => by
    rw [List.lookup_cons] at e ⊢
    cases q : f == n with
    | true => rw [q] at e; cases e
    | false => rw [q] at e; exact RepFR.lookC r e
  | _, _, .cel (n := n) h r, e => by
    rw [List.lookup_cons] at e ⊢
    cases q : f == n with
    | true => rw [q] at e; cases e; exact ⟨_, rfl, h⟩
    | false => rw [q] at e; exact RepFR.lookC r e
theorem RepFR.length {oc : Nat → Option Addr} : ∀ {vs : List (Str × V)} {fs : List (Str × Rv)}, RepFR K F oc vs fs → vs.length = fs.length
  | _, _, .nil => rfl
  | _, _, .val _ r => congrArg Nat.succ (RepFR.length r)
  | _, _, .cel _ r => congrArg Nat.succ (RepFR.length r)
end
section
variable {c : Cc} {X : Cx} {o e a b : Expr} {es : List Expr} {ea eb ej : Ev} {av : Axv} {lv : Av} {pv : Pv} {xv : Xv} {pos p p2 apos : Pos} {x : Str} {i n k C : Nat} {f : Addr} {fd : FuncData} {ps : List Str} {CX : CXT} {Fn : FnM} {m : Str}
theorem sax_nil : SAx c X [] axN := ⟨pa_imp pa_nil fun σ H Q ⟨F, ρ, oa, r, q⟩ => q [] H F (Grow.refl r.le) .nil⟩
theorem sax_val (ha : SE c X e ea) (hr : SAx c X es av) (hs : starEach (e :: es) X.env = (false, eval e X.env) :: starEach es X.env := by rfl) : SAx c X (e :: es) (axV ea av) := by
  refine ⟨pa_imp (pa_cons ha.pe hr.pa hs) fun σ H Q ⟨F, ρ, oa, r, q⟩ => ⟨F, ρ, r.r, ?_⟩⟩
  unfold axV at q
  cases z : ea ρ with
  | ok d =>
    rw [z] at q
    intro v H1 F1 g rp
    refine ⟨F1, ρ, oa, r.grow g, ?_⟩
    cases w : av ρ with
    | ok as =>
      rw [w] at q
      exact fun vs H2 F2 g2 rs => q (v :: vs) H2 F2 (g.trans g2) (.cons (.val (rp.mono g2.f)) rs)
    | exc C fs => rw [w] at q; exact q
    | stuck => rw [w] at q; exact q
  | exc C fs => rw [z] at q; exact q
  | stuck => rw [z] at q; exact q
theorem sax_cell (ha : SR c X e pv) (hr : SAx c X es av) (hs : starEach (e :: es) X.env = (false, eval e X.env) :: starEach es X.env := by rfl) : SAx c X (e :: es) (axC pv av) := by
  refine ⟨pa_imp (pa_cons ha.pe hr.pa hs) fun σ H Q ⟨F, ρ, oa, r, q⟩ => ⟨F, ρ, oa, r, ?_⟩⟩
  unfold axC at q
  cases z : pv ρ with
  | ok j =>
    rw [z] at q
    intro p H1 F1 g ep
    refine ⟨F1, ρ, oa, r.grow g, ?_⟩
    cases w : av ρ with
    | ok as =>
      rw [w] at q
      exact fun vs H2 F2 g2 rs => q (.ref p :: vs) H2 F2 (g.trans g2) (.cons (.al ep) rs)
    | exc C fs => rw [w] at q; exact q
    | stuck => rw [w] at q; exact q
  | exc C fs => rw [z] at q; exact q
  | stuck => rw [z] at q; exact q
theorem FinX.mono {K : Kc} {c : Cc} {F F' : Hp} {σ : Sg} {r : Res (Slot × PEnv)} {Q : VK} (m : Same F F') (h : FinX K c F σ r Q) : FinX K c F' σ r Q := by
  cases r with
  | ok d => exact fun v H' F2 s rr => h v H' F2 (m.trans s) rr
  | exc C fs => exact h
  | stuck => exact h
theorem sx_e (ha : SE c X e ea) : SX c X e (xvE ea) := by
  refine ⟨pe_imp ha.pe fun σ H Q ⟨F, ρ, r, q⟩ => ⟨F, ρ, r, ?_⟩⟩
  unfold xvE at q
  cases z : ea ρ with
  | ok d =>
    rw [z] at q
    intro v H1 F1 g rp
    obtain ⟨oa, r⟩ := r.o
    exact q v H1 F1 g.f ⟨oa, r.grow g, rfl, v, rfl, rp⟩
  | exc C fs => rw [z] at q; exact q
  | stuck => rw [z] at q; exact q
theorem sx_r (ha : SR c X e pv) : SX c X e (xvR pv) := by
  refine ⟨pe_imp ha.pe fun σ H Q ⟨F, ρ, r, q⟩ => ?_⟩
  unfold xvR at q
  obtain ⟨oa, r⟩ := r.o
  refine ⟨F, ρ, oa, r, ?_⟩
  cases z : pv ρ with
  | ok j =>
    rw [z] at q
    intro p H1 F1 g ep
    exact q (.ref p) H1 F1 g.f ⟨oa, r.grow g, rfl, p, ep, rfl⟩
  | exc C fs => rw [z] at q; exact q
  | stuck => rw [z] at q; exact q
/-- arguments, then a call -/
theorem ax_bind {F H : Hp} {ρ : PEnv} {σ : Sg} {oa : Nat → Option Addr} {kk : List Slot → Res (Slot × PEnv)} {Q : VK} {T : List V → Hp → Prop} (r : RelO (X.kc c) c F ρ σ H oa) (q : FinX (X.kc c) c F σ ((av ρ).bind kk) Q)
    (ht : ∀ vs as H1 F1, Grow F H F1 H1 → RelO (X.kc c) c F1 ρ σ H1 oa → ArgsOk (X.kc c) F1 (fun k => oa (k + c.n)) vs as → FinX (X.kc c) c F1 σ (kk as) Q → T vs H1) : ∃ F ρ oa, RelO (X.kc c) c F ρ σ H oa ∧ FinAx (X.kc c) c oa F H (av ρ) T := by
  refine ⟨F, ρ, oa, r, ?_⟩
  cases z : av ρ with
  | ok as =>
    rw [z] at q
    exact fun vs H1 F1 g rs => ht vs as H1 F1 g (r.grow g) rs (FinX.mono g.f q)
  | exc C fs => rw [z] at q; exact q
  | stuck => rw [z] at q; exact q
theorem sx_call (F : FnOk X.prog X.w X.K X.mg X.base CX k f fd ps (PM (X.kc c) Fn)) (hr : Room k X.A) (hg : Gl X x) (hm : X.mg x = some (.ref f)) (hk : PySem.W.keepIn X.K (.ref f) = true) (hb : Binds X.K fd ps []) (hx : Passes CX X E0)
    (ha : SAx c X (e :: es) av) (hn : c.n = n := by rfl) (hdb : (x == ("__debug__" : Str)) = false := by decide) (he : starEach (e :: es) X.env = (false, eval e X.env) :: starEach es X.env := by rfl) (hpl : (backTo pos (starEach es X.env)).any (·.1) = false := by rfl) :
    SX c X (.Call (.Name x p) (e :: es) [] pos) (xCall n Fn av) := by
  refine ⟨pe_imp (pe_call (E := E0) F hr hg hm hk hb .nil hx ha.pa hdb he hpl) fun σ H Q ⟨F, ρ, r, q⟩ => ?_⟩
  obtain ⟨oa, r⟩ := r.o
  refine ax_bind r q fun vs as H1 F1 g r1 rs q1 => ?_
  rw [List.append_nil]
  exact call_fin hn r1 rs q1
/-- a path, then an effect -/
theorem tRf_x {F H : Hp} {ρ : PEnv} {σ : Sg} {kk : Nat → Res (Slot × PEnv)} {Q : VK} {T : V → Hp → Prop}
    (r : Rel (X.kc c) c F ρ σ H) (h : FinX (X.kc c) c F σ ((pv ρ).bind kk) Q) (ht : ∀ p j H1 F1 oa, Grow F H F1 H1 → RelO (X.kc c) c F1 ρ σ H1 oa → oa (j + c.n) = some p → FinX (X.kc c) c F1 σ (kk j) Q → T (.ref p) H1) : tRf (X.kc c) c pv σ H T := by
  obtain ⟨oa, r⟩ := r.o
  refine ⟨F, ρ, oa, r, ?_⟩
  cases q : pv ρ with
  | ok j =>
    rw [q] at h
    exact fun p H1 F1 g e => ht p j H1 F1 oa g (r.grow g) e (FinX.mono g.f h)
  | exc C fs => rw [q] at h; exact h
  | stuck => rw [q] at h; exact h
theorem sx_meth {pl : Sem Bool} (he : SR c X o pv) (hC : Cls X.K (c.cm C)) (hm : Meth X.K (c.cm C) m f) (F : FnOk X.prog X.w X.K X.mg X.base CX k f fd ps (PM (X.kc c) Fn)) (hr : Room k X.A) (hb : Binds X.K fd ps []) (hx : Passes CX X E0) (ha : SAx c X (e :: es) av) (hn : c.n = n := by rfl)
    (hst : starEach (e :: es) X.env = (false, eval e X.env) :: starEach es X.env := by rfl) (hpl : (backTo pos (starEach es X.env)).any (·.1) = false := by rfl)
    (ht : eval (.Call (.Attribute o m apos) (e :: es) [] pos) X.env = (do
      let ov ← eval o X.env
      standAt apos.atName
      let (f, first) ← holding [ov] (getMethod ov m pl)
      callWith pos f first (backTo pos (starEach (e :: es) X.env)) (backToKw pos (keywordEach [] X.env))) := by rfl) :
    SX c X (.Call (.Attribute o m apos) (e :: es) [] pos) (xMeth n C m Fn pv av) := by
  subst hn
  refine ⟨pe_imp (pe_meth (E := E0) he.pe hC hm F hr hb .nil hx ha.pa hst hpl ht) fun σ H Q ⟨F, ρ, r, q⟩ => ?_⟩
  unfold xMeth at q
  refine tRf_x r q fun l j H1 F1 oa g r1 ep q1 => ?_
  split at q1
  · rename_i C' fs hc
    split at q1
    · rename_i hok
      rw [Bool.and_eq_true, decide_eq_true_eq] at hok
      obtain ⟨rfl, hlk⟩ := hok
      obtain ⟨dx, fv, e1, e2⟩ := r1.insAt ep hc
      refine ⟨l, dx, fv, rfl, e1, e2.lookN (Option.isNone_iff_eq_none.mp hlk), ax_bind r1 q1 fun vs as H2 F2 g2 r2 rs q2 => ?_⟩
      rw [List.append_nil]
      exact call_fin rfl r2 (.cons (.al ep) rs) q2
    · exact q1.elim
  · exact q1.elim
theorem sx_meth0 {pl : Sem Bool} (he : SR c X o pv) (hC : Cls X.K (c.cm C)) (hm : Meth X.K (c.cm C) m f) (F : FnOk X.prog X.w X.K X.mg X.base CX k f fd ps (PM (X.kc c) Fn)) (hr : Room k X.A) (hb : Binds X.K fd ps []) (hx : Passes CX X E0) (hn : c.n = n := by rfl)
    (ht : eval (.Call (.Attribute o m apos) [] [] pos) X.env = (do
      let ov ← eval o X.env
      standAt apos.atName
      let (f, first) ← holding [ov] (getMethod ov m pl)
      callWith pos f first (backTo pos (starEach [] X.env)) (backToKw pos (keywordEach [] X.env))) := by rfl) :
    SX c X (.Call (.Attribute o m apos) [] [] pos) (xMeth n C m Fn pv axN) := by
  subst hn
  refine ⟨pe_imp (pe_meth0 (E := E0) he.pe hC hm F hr hb .nil hx ht) fun σ H Q ⟨F, ρ, r, q⟩ => ?_⟩
  unfold xMeth at q
  refine tRf_x r q fun l j H1 F1 oa g r1 ep q1 => ?_
  split at q1
  · rename_i C' fs hc
    split at q1
    · rename_i hok
      rw [Bool.and_eq_true, decide_eq_true_eq] at hok
      obtain ⟨rfl, hlk⟩ := hok
      obtain ⟨dx, fv, e1, e2⟩ := r1.insAt ep hc
      refine ⟨l, dx, fv, rfl, e1, e2.lookN (Option.isNone_iff_eq_none.mp hlk), ?_⟩
      exact call_fin (vs := [.ref l]) (E := E0) rfl r1 (.cons (.al ep) .nil) q1
    · exact q1.elim
  · exact q1.elim
theorem sx_prop {nm : Str} {pp : Addr} (he : SR c X o pv) (hC : Cls X.K (c.cm C)) (hp : PropOf X.K (c.cm C) nm pp f) (F : FnOk X.prog X.w X.K X.mg X.base CX k f fd ps (PM (X.kc c) Fn)) (hr : Room (k + 1) X.A) (hb : Binds X.K fd ps []) (hx : Passes CX X.nox E0) (hn : c.n = n := by rfl)
    (hab : attributeBase o nm X.env (eval o X.env) = eval o X.env := by rfl) : SX c X (.Attribute o nm pos) (xProp n C Fn pv) := by
  subst hn
  refine ⟨pe_imp (pe_prop (E := E0) he.pe hC hp F hr hb .nil hx hab) fun σ H Q ⟨F, ρ, r, q⟩ => ?_⟩
  unfold xProp at q
  refine tRf_x r q fun l j H1 F1 oa g r1 ep q1 => ?_
  split at q1
  · rename_i C' fs hc
    split at q1
    · rename_i hcc
      subst hcc
      obtain ⟨dx, fv, e1, e2⟩ := r1.insAt ep hc
      exact ⟨l, dx, fv, rfl, e1, call_fin rfl r1 (.cons (.al ep) .nil) q1⟩
    · exact q1.elim
  · exact q1.elim
theorem sx_make (M : Mk X.K (c.cm C) f) (F : FnOk X.prog X.w X.K X.mg X.base CX k f fd ps (PM (X.kc c) Fn)) (hr : Room (k + 1) X.A) (hg : Gl X x) (hm : X.mg x = some (.ref (c.cm C))) (hb : Binds X.K fd ps []) (hx : Passes CX X E0)
    (ha : SAx c X (e :: es) av) (hn : c.n = n := by rfl) (hdb : (x == ("__debug__" : Str)) = false := by decide) (he : starEach (e :: es) X.env = (false, eval e X.env) :: starEach es X.env := by rfl) (hpl : (backTo pos (starEach es X.env)).any (·.1) = false := by rfl) :
    SX c X (.Call (.Name x p) (e :: es) [] pos) (xMake n C Fn av) := by
  subst hn
  refine ⟨pe_imp (pe_make (E := E0) M F hr hg hm hb .nil hx ha.pa hdb he hpl) fun σ H Q ⟨F, ρ, r, q⟩ => ?_⟩
  unfold xMake at q
  obtain ⟨oa, r⟩ := r.o
  refine ax_bind r q fun vs as H1 F1 g r1 rs q1 => ?_
  intro x dx hx hd hne
  rw [List.append_nil]
  have hl := r1.len2
  have s1 : Same H1 (upd H1 dx (.own x)) := same_upd hd
  have r1' : RelO (X.kc c) c F1 ρ σ (upd H1 dx (.own x)) oa := r1.grow ⟨Same.refl F1, s1, r1.le.trans s1, fun a o e => .inl e⟩
  have hx' : upd H1 dx (.own x) x = none := by rw [upd_ne (Ne.symm hne)]; exact hx
  obtain ⟨r2, far⟩ := r1'.cell (s := .ins C []) (u := .ins ((X.kc c).cm C) dx []) hx' ⟨x, dx, [], rfl, rfl, upd_same, .nil⟩
  split at q1
  · rename_i M' z
    refine ⟨F1, ρ.drop c.n ++ [.ins C []], _, _, _, M', ?_, .cons (.al (k := ρ.length - c.n) ?_) (rs.mono (Same.refl F1) fun k a e => far _ a e), z, fun v H' F' oc' af av => ?_⟩
    · have := r2.cells
      rw [List.drop_append_of_le_length hl] at this
      exact this
    · show oaSet oa ρ.length (some x) (ρ.length - c.n + c.n) = _
      rw [show ρ.length - c.n + c.n = ρ.length by omega]; exact oaSet_same
    · cases av with
      | val rv =>
        cases rv
        refine ⟨rfl, q1 (.ref x) H' F' af.f ⟨fun i => if i < c.n then oaSet oa ρ.length (some x) i else oc' (i - c.n), ?_, rfl, x, ?_, rfl⟩⟩
        · have := r2.after af
          rw [List.take_append_of_le_length hl] at this
          exact this
        · show (if ρ.length - c.n + c.n < c.n then _ else oc' (ρ.length - c.n + c.n - c.n)) = _
          rw [if_neg (by omega), Nat.add_sub_cancel]
          refine af.old _ _ ?_
          show oaSet oa ρ.length (some x) (ρ.length - c.n + c.n) = _
          rw [show ρ.length - c.n + c.n = ρ.length by omega]; exact oaSet_same
  · exact q1.elim
/-! statements -/
def Out.ofX (r : Res (Slot × PEnv)) (k : Slot → PEnv → Out) : Out := match r with
  | .ok (s, ρ) => k s ρ
  | .exc C fs => .exc C fs
  | .stuck => .stuck
@[simp] theorem Out.ofX_ok (s : Slot) (ρ : PEnv) (k : Slot → PEnv → Out) : Out.ofX (.ok (s, ρ)) k = k s ρ := rfl
@[simp] theorem Out.ofX_exc (C : Nat) (fs : List (Str × D)) (k : Slot → PEnv → Out) : Out.ofX (.exc C fs) k = .exc C fs := rfl
@[simp] theorem Out.ofX_stuck (k : Slot → PEnv → Out) : Out.ofX .stuck k = .stuck := rfl
theorem tX_st {F H : Hp} {ρ : PEnv} {σ : Sg} {kk : Slot → PEnv → Out} {De : Ends} {T : V → Hp → Prop} (r : Rel (X.kc c) c F ρ σ H) (h : FinS (X.kc c) c F (Out.ofX (xv ρ) kk) De)
    (ht : ∀ v s ρ1 H1 F1, Same F F1 → RelR (X.kc c) c F1 ρ1 σ H1 v s → FinS (X.kc c) c F1 (kk s ρ1) De → T v H1) : tX (X.kc c) c xv σ H T := by
  refine ⟨F, ρ, r, ?_⟩
  cases q : xv ρ with
  | ok sr =>
    rw [q] at h
    exact fun v H1 F1 m rr => ht v sr.1 sr.2 H1 F1 m rr (FinS.mono m h)
  | exc C fs => rw [q] at h; exact h
  | stuck => rw [q] at h; exact h
/-- x = e -/
def sSetX (i : Nat) (xv : Xv) : Sv := fun ρ => Out.ofX (xv ρ) fun s ρ' => .nx (ρ'.set i s)
/-- e, alone -/
def sDropX (xv : Xv) : Sv := fun ρ => Out.ofX (xv ρ) fun _ ρ' => .nx ρ'
/-- return e, the cells being the caller's -/
def sRetM (xv : Xv) : Sv := fun ρ => Out.ofX (xv ρ) fun s ρ' => .rm s ρ'
/-- return e, the cells being one's own -/
def sRetP (xv : Xv) : Sv := fun ρ => Out.ofX (xv ρ) fun s _ => match s with
  | .val d => .rt d
  | _ => .stuck
/-- x.append(e), x a list of one's own -/
def sAppX (i : Nat) (xv : Xv) : Sv := fun ρ => match ρ[i]? with
  | some (.own _) => Out.ofX (xv ρ) fun s ρ' => match s, ρ'[i]? with
    | .val d, some (.own ds) => if ds.length < sizeLine then .nx (ρ'.set i (.own (ds ++ [d]))) else .stuck
    | _, _ => .stuck
  | _ => .stuck
theorem ss_setX (he : SX c X e xv) (hN : X.N.Nodup) (hi : X.N[i]? = some x := by rfl) (hx : Loc X.env.scope x := by first | exact Or.inl rfl | exact Or.inr rfl) (io : ∀ a, c.io ≠ some (i, a) := by intro _ h; cases h)
    (hs : swapsWith e (some (.Name x p)) pos.line X.env = pure false := by rfl) (hf : X.fn x = true ∨ X.env.scope.names.lookup x = some .local := by first | exact .inl rfl | exact .inr rfl | assumption) (hn : c.n = X.N.length := by rfl) : SS c X (.Assign [.Name x p] e pos) (sSetX i xv) := by
  refine ⟨ps_imp (ps_set hN hi hx he.pe hs hf) fun De σ H ⟨F, ρ, r, q⟩ => ?_⟩
  refine tX_st r q fun v s ρ1 H1 F1 m ⟨oa, r1, st⟩ q1 => ?_
  exact q1 _ _ F1 (Same.refl F1) (r1.nameV io (lt_n hn hi) st)
theorem ss_dropX (he : SX c X e xv) (hs : swapsWith e none pos.line X.env = pure false := by rfl) : SS c X (.Expr e pos) (sDropX xv) := by
  refine ⟨ps_imp (ps_expr he.pe hs) fun De σ H ⟨F, ρ, r, q⟩ => ?_⟩
  refine tX_st r q fun v s ρ1 H1 F1 m ⟨oa, r1, st⟩ q1 => ?_
  exact q1 _ _ F1 (Same.refl F1) r1.r
theorem ss_retM (he : SX c X e xv) : SS c X (.Return (some e) pos) (sRetM xv) := by
  refine ⟨ps_imp (ps_ret he.pe) fun De σ H ⟨F, ρ, r, q⟩ => ?_⟩
  refine tX_st r q fun v s ρ1 H1 F1 m rr q1 => ?_
  exact q1 v σ H1 F1 (Same.refl F1) rr
theorem ss_retMN : SS c X (.Return none pos) (fun ρ => .rm (.val .non) ρ) := by
  refine ⟨ps_imp ps_retN fun De σ H ⟨F, ρ, r, q⟩ => ?_⟩
  obtain ⟨oa, r⟩ := r.o
  exact q .non σ H F (Same.refl F) ⟨oa, r, rfl, .non, rfl, .non⟩
theorem ss_retP (he : SX c X e xv) : SS c X (.Return (some e) pos) (sRetP xv) := by
  refine ⟨ps_imp (ps_ret he.pe) fun De σ H ⟨F, ρ, r, q⟩ => ?_⟩
  refine tX_st r q fun v s ρ1 H1 F1 m ⟨oa, r1, st⟩ q1 => ?_
  cases s with
  | val d =>
    obtain ⟨_, w, e, h⟩ := st
    cases e
    exact q1 v H1 F1 (r1.r.bot (Same.refl F1)) h
  | _ => exact q1.elim
theorem ss_appX (he : SX c X e xv) (hN : X.N[i]? = some x := by rfl) (hn0 : c.n = X.N.length := by rfl) (hv : Vis X.env.scope x := by first | exact Or.inl rfl | exact Or.inr (Or.inl rfl) | exact Or.inr (Or.inr rfl)) (hd : (x == ("__debug__" : Str)) = false := by decide)
    (hcd : (x == ("__classdict__" : Str)) = false := by decide)
    (hbase : attributeBase (.Name x p) "append" X.env (eval (.Name x p) X.env) = eval (.Name x p) X.env := by rfl)
    (hfew : ((backTo p2 (starEach [e] X.env)).all (fun x => !x.1) && (backToKw p2 (keywordEach [] X.env)).all (fun x => x.1.isSome)
      && decide ([e].length + ([] : List Keyword).length + (if ([] : List Keyword).isEmpty then 0 else 1) < 30)) = true := by rfl)
    (hline : (apos.endLine == p2.line) = true := by rfl) (hs : starEach [e] X.env = (false, eval e X.env) :: starEach [] X.env := by rfl) (hplain : (backTo p2 (starEach [] X.env)).any (·.1) = false := by rfl)
    (hsw : swapsWith (.Call (.Attribute (.Name x p) "append" apos) [e] [] p2) none pos.line X.env = pure false := by rfl) :
    SS c X (.Expr (.Call (.Attribute (.Name x p) "append" apos) [e] [] p2) pos) (sAppX i xv) := by
  refine ⟨ps_imp (ps_expr (pe_bm PySem.F.plainAttrs_list PySem.F.slot_list_append PySem.F.type_list_append mt_append (pe_var hN hv hd hcd) (pa_cons he.pe pa_nil hs) hbase hfew hline hs hplain) hsw) fun De σ H ⟨F, ρ, r, q⟩ => ?_⟩
  unfold sAppX at q
  split at q
  · rename_i ds hi
    obtain ⟨l, vs, e1, e2, e3⟩ := r.own hi (lt_n hn0 hN)
    refine ⟨.ref l, e1, .inl ⟨rfl, vs, .inl (.inl e2)⟩, ?_⟩
    refine tX_st r q fun v s ρ1 H1 F1 m ⟨oa, r1, st⟩ q1 => ?_
    cases s with
    | val d =>
      obtain ⟨_, w, ew, rp⟩ := st
      cases ew
      cases hi' : ρ1[i]? with
      | none => simp only [hi'] at q1; exact q1.elim
      | some t =>
        simp only [hi'] at q1
        cases t with
        | own ds' =>
          obtain ⟨l', vs', e1', e2', e3'⟩ := r1.r.own hi' (lt_n hn0 hN)
          rw [e1] at e1'; cases e1'
          have q1' : FinS (X.kc c) c F1 (if ds'.length < sizeLine then .nx (ρ1.set i (.own (ds' ++ [d]))) else .stuck) De := q1
          by_cases hl : ds'.length < sizeLine
          · rw [if_pos hl] at q1'
            exact ⟨l, vs', v, rfl, rfl, e2', by rw [e3'.length]; exact hl, q1' σ _ F1 (Same.refl F1) (r1.r.putOwn hi' e1 (e3'.append (.cons rp .nil)))⟩
          · rw [if_neg hl] at q1'; exact q1'.elim
        | _ => exact q1.elim
    | _ => exact q1.elim
  · exact q.elim
end
end Pu

namespace Pu
open PySem PySem.Spec PyProof.Rows L2
/-! ### [[..] for ..]: new lists in a new list -/
/-- new lists at qs, nobody's yet; H0 is the heap before -/
inductive Inn (K : Kc) (F H0 H : Hp) : List Addr → List (List D) → Prop
  | nil : Inn K F H0 H [] []
  | cons {q : Addr} {vs : List V} {ds : List D} {qs : List Addr} {dss : List (List D)} : H0 q = none → H q = some (.lst vs) → F q = none → Reps K F vs ds → q ∉ qs → Inn K F H0 H qs dss → Inn K F H0 H (q :: qs) (ds :: dss)
theorem Inn.snoc {K : Kc} {F H0 H : Hp} {q : Addr} {vs : List V} {ds : List D} (h1 : H0 q = none) (h2 : H q = some (.lst vs)) (h3 : F q = none) (h4 : Reps K F vs ds) : ∀ {qs : List Addr} {dss : List (List D)}, Inn K F H0 H qs dss → q ∉ qs → Inn K F H0 H (qs ++ [q]) (dss ++ [ds])
  | _, _, .nil, _ => .cons h1 h2 h3 h4 (by simp) .nil
  | _, _, .cons (q := x) a b c d e r, n => .cons a b c d (fun z => by
      rcases List.mem_append.mp z with z | z
      · exact e z
      · exact n (by rw [List.mem_singleton.mp z]; exact List.mem_cons_self)) (Inn.snoc h1 h2 h3 h4 r fun z => n (List.mem_cons_of_mem _ z))
theorem Inn.grow {K : Kc} {F H0 H F' H' : Hp} (f : Same F F') (h : Same H H') (nw : ∀ a o, F' a = some o → F a = some o ∨ H a = none) : ∀ {qs : List Addr} {dss : List (List D)}, Inn K F H0 H qs dss → Inn K F' H0 H' qs dss
  | _, _, .nil => .nil
  | _, _, .cons (q := x) a b c d e r => .cons a (h _ _ b) (by
      cases z : F' x with
      | none => rfl
      | some o =>
        rcases nw x o z with y | y
        · rw [c] at y; cases y
        · rw [b] at y; cases y) (d.mono f) e (Inn.grow f h nw r)
theorem Inn.length {K : Kc} {F H0 H : Hp} : ∀ {qs : List Addr} {dss : List (List D)}, Inn K F H0 H qs dss → qs.length = dss.length
  | _, _, .nil => rfl
  | _, _, .cons _ _ _ _ _ r => congrArg Nat.succ (Inn.length r)
theorem Inn.there {K : Kc} {F H0 H : Hp} {q : Addr} : ∀ {qs : List Addr} {dss : List (List D)}, Inn K F H0 H qs dss → q ∈ qs → ∃ vs, H q = some (.lst vs) ∧ F q = none
  | _, _, .nil, h => by cases h
  | _, _, .cons a b c d e r, h => by
    rcases List.mem_cons.mp h with rfl | h
    · exact ⟨_, b, c⟩
    · exact Inn.there r h
theorem Inn.base {K : Kc} {F H0 H1 H : Hp} (s : Same H0 H1) : ∀ {qs : List Addr} {dss : List (List D)}, Inn K F H1 H qs dss → Inn K F H0 H qs dss
  | _, _, .nil => .nil
  | _, _, .cons a b c d e r => .cons (s.free a) b c d e (Inn.base s r)
def lcGoN (g : Gv) (tt : Tv) (lv : Av) (ρ : PEnv) : List D → Res (List (List D))
  | [] => .ok []
  | d :: ds => match g d ρ with
    | none => .stuck
    | some ρ1 => (tt ρ1).nx.bind fun b => if b = true then (lv ρ1).nx.bind fun y => (lcGoN g tt lv ρ ds).bind fun ys => .ok (y :: ys) else lcGoN g tt lv ρ ds
abbrev Nv := PEnv → Res (List (List D))
def nLc (it : Av) (g : Gv) (ix : List Nat) (tt : Tv) (lv : Av) : Nv := fun ρ => (it ρ).bind fun ds => if ds.length ≤ sizeLine then lcGoN g tt lv (wipeR ρ ix) ds else .stuck
def FinNN (K : Kc) (c : Cc) (F H : Hp) (r : Res (List (List D))) (Q : VK) : Prop := match r with
  | .ok dss => ∀ p qs H1 F1, Grow F H F1 H1 → H1 p = none → Inn K F1 H H1 qs dss → qs.length ≤ sizeLine → Q (.ref p) (upd H1 p (.lst (qs.map V.ref)))
  | .exc C fs => ExcW K c C fs
  | .stuck => False
theorem lcGoN_exc {g : Gv} {tt : Tv} {lv : Av} {ρ : PEnv} {C : Nat} {fs : List (Str × D)} : ∀ {ds : List D}, lcGoN g tt lv ρ ds ≠ .exc C fs
  | [], e => by cases e
  | d :: ds, e => by
    unfold lcGoN at e
    split at e
    · cases e
    · rename_i ρ1 _
      cases zt : tt ρ1 with
      | ok b =>
        rw [zt] at e
        cases b with
        | true =>
          have e' : (lv ρ1).nx.bind (fun y => (lcGoN g tt lv ρ ds).bind fun ys => .ok (y :: ys)) = .exc C fs := e
          cases ze : lv ρ1 with
          | ok y =>
            rw [ze] at e'
            cases zr : lcGoN g tt lv ρ ds with
            | ok zs => rw [zr] at e'; cases e'
            | exc C fs => exact lcGoN_exc zr
            | stuck => rw [zr] at e'; cases e'
          | exc C fs => rw [ze] at e'; cases e'
          | stuck => rw [ze] at e'; cases e'
        | false => exact lcGoN_exc (show lcGoN g tt lv ρ ds = _ from e)
      | exc C fs => rw [zt] at e; cases e
      | stuck => rw [zt] at e; cases e
section
variable {c : Cc} {X : Cx} {elt tg iter : Expr} {ifs : List Expr} {scope : Scope} {own : List (Str × Nat)} {pos spos py p : Pos} {it : Av} {g : Gv} {ix : List Nat} {tt : Tv} {lv : Av} {y : Str} {i n : Nat}
theorem tLcN_of {K : Kc} {σ : Sg} {H : Hp} {Q : VK} {F : Hp} {ρ : PEnv} (hix : ∀ j ∈ ix, ∀ a, c.io ≠ some (j, a)) (hlt : ∀ j ∈ ix, j < c.n) (r : Rel K c F ρ σ H) (q : FinNN K c F H (nLc it g ix tt lv ρ) Q) :
    tLc (tIt K c it) (tGt K c.nox ix g) (tT K c.nox tt) (tNw K c.nox lv) ix σ H Q := by
  refine ⟨F, ρ, r, ?_⟩
  unfold nLc at q
  cases z : it ρ with
  | exc C fs => rw [z] at q; exact q
  | stuck => rw [z] at q; exact q
  | ok ds =>
    rw [z] at q
    intro J H1 F1 g1 w D nD
    have q0 : FinNN K c F H (if ds.length ≤ sizeLine then lcGoN g tt lv (wipeR ρ ix) ds else .stuck) Q := q
    by_cases hz : ds.length ≤ sizeLine
    · rw [if_pos hz] at q0
      have nF1 : F1 D = none := g1.le.free nD
      have q1 : FinNN K c F1 H1 (lcGoN g tt lv (wipeR ρ ix) ds) Q := by
        cases zz : lcGoN g tt lv (wipeR ρ ix) ds with
        | ok ys => rw [zz] at q0; exact fun p vs H2 F2 g2 n rs hz => q0 p vs H2 F2 (g1.trans g2) n (rs.base g1.h) hz
        | exc C fs => exact absurd zz lcGoN_exc
        | stuck => rw [zz] at q0; exact q0
      have r1 := r.grow g1
      -- what holds between the turns
      refine lc_it w (fun i H' => ∃ F' qs done, Grow F1 H1 F' (del H' D) ∧ H' D = some (.lst (qs.map V.ref)) ∧ Inn K F' H1 (del H' D) qs done ∧ F' D = none ∧ qs.length ≤ i ∧
        ∃ ys, lcGoN g tt lv (wipeR ρ ix) (ds.drop i) = .ok ys ∧ lcGoN g tt lv (wipeR ρ ix) ds = .ok (done ++ ys)) ?_ ?_ ?_ ?_
      · cases zz : lcGoN g tt lv (wipeR ρ ix) ds with
        | ok ys =>
          refine ⟨F1, [], [], ?_, upd_same, .nil, nF1, Nat.le_refl _, ys, by simpa using zz, rfl⟩
          rw [del_upd]
          have e : del H1 D = H1 := by
            funext b
            by_cases e : b = D
            · subst e; rw [del_same, nD]
            · rw [del_ne e]
          rw [e]
          exact r1.refl
        | exc C fs => exact absurd zz lcGoN_exc
        | stuck => rw [zz] at q1; exact q1.elim
      · rintro i H' _ ⟨F', qs, done, g2, _⟩
        exact (g2.f.trans g2.le).trans del_le
      · rintro i x H' H2 hi ⟨F', qs, done, g2, eD, rs, nD', hl, ys, e1, e2⟩ yy
        have le' : Same F' H' := g2.le.trans del_le
        obtain ⟨F2, d, g3, ed, rp⟩ := yy F' g2.f le'
        have hd : ds.drop i = d :: ds.drop (i + 1) := by
          have hi' : i < ds.length := hi
          rw [List.drop_eq_getElem_cons hi']
          congr 1
          rw [List.getElem?_eq_getElem hi'] at ed
          exact Option.some.inj ed
        rw [hd] at e1
        unfold lcGoN at e1
        have nF2 : F2 D = none := by
          cases w : F2 D with
          | none => rfl
          | some o =>
            rcases g3.nw D o w with v | v
            · rw [nD'] at v; cases v
            · rw [eD] at v; cases v
        -- growth without D
        have noD : ∀ {F3 H3 : Hp}, Grow F' H' F3 H3 → F3 D = none ∧ H3 D = some (.lst (qs.map V.ref)) ∧ Grow F1 H1 F3 (del H3 D) ∧ Inn K F3 H1 (del H3 D) qs done := fun {F3 H3} g5 => by
          have n3 : F3 D = none := by
            cases w : F3 D with
            | none => rfl
            | some o =>
              rcases g5.nw D o w with v | v
              · rw [nD'] at v; cases v
              · rw [eD] at v; cases v
          have sD : Same (del H' D) (del H3 D) := fun b o e => by
            have nb : b ≠ D := fun z => by rw [z, del_same] at e; cases e
            rw [del_ne nb] at e ⊢
            exact g5.h _ _ e
          have nwD : ∀ a o, F3 a = some o → F' a = some o ∨ (del H' D) a = none := fun a o e => by
            rcases g5.nw a o e with v | v
            · exact .inl v
            · exact .inr (del_le.free v)
          refine ⟨n3, g5.h _ _ eD, ⟨g2.f.trans g5.f, g2.h.trans sD, le_del g5.le n3, fun b o e => ?_⟩, rs.grow g5.f sD nwD⟩
          rcases nwD b o e with v | v
          · exact g2.nw b o v
          · exact .inr (g2.h.free v)
        obtain ⟨_, eD2, g4, rs2⟩ := noD g3
        have r2 : Rel K c F2 ρ σ H2 := (r1.grow g4).hmono del_le
        have r2w : Rel K c.nox F2 (wipeR ρ ix) (wipe σ ix) H2 := (Rel.wipe r2 ix hix hlt).nox
        split at e1
        · cases e1
        · rename_i ρ1 zg
          refine ⟨F2, _, d, ρ1, r2w, rp, zg, fun σ2 r3 w3 => ⟨w3.trans (wipe_wipe σ ix), ?_⟩⟩
          refine ⟨F2, ρ1, r3, ?_⟩
          cases zt : tt ρ1 with
          | exc C fs => rw [zt] at e1; cases e1
          | stuck => rw [zt] at e1; cases e1
          | ok b =>
            rw [zt] at e1
            intro b' H3 F3 g5 eb
            cases (show b' = b from eb)
            cases b with
            | false =>
              refine iteF ?_
              obtain ⟨n3, e3, g6, rs3⟩ := noD (g3.trans g5)
              exact ⟨F3, qs, done, g6, e3, rs3, n3, Nat.le_succ_of_le hl, ys, e1, e2⟩
            | true =>
              refine iteT ⟨F3, ρ1, r3.grow g5, ?_⟩
              have e1' : (lv ρ1).nx.bind (fun y => (lcGoN g tt lv (wipeR ρ ix) (ds.drop (i + 1))).bind fun ys => .ok (y :: ys)) = .ok ys := e1
              cases ze : lv ρ1 with
              | exc C fs => rw [ze] at e1'; cases e1'
              | stuck => rw [ze] at e1'; cases e1'
              | ok yd =>
                rw [ze] at e1'
                intro q' vs H4 F4 g7 nq rv _
                obtain ⟨n4, e4, g8, rs4⟩ := noD ((g3.trans g5).trans g7)
                have nqD : q' ≠ D := fun z => by rw [z, e4] at nq; cases nq
                cases zr : lcGoN g tt lv (wipeR ρ ix) (ds.drop (i + 1)) with
                | exc C fs => rw [zr] at e1'; cases e1'
                | stuck => rw [zr] at e1'; cases e1'
                | ok zs =>
                  rw [zr] at e1'
                  cases e1'
                  have hi' : i < ds.length := hi
                  have nqH : (del H4 D) q' = none := del_le.free nq
                  have nqF : F4 q' = none := g7.le.free nq
                  have eH : del (upd (upd H4 q' (.lst vs)) D (.lst (qs.map V.ref ++ [.ref q']))) D = upd (del H4 D) q' (.lst vs) := by
                    rw [del_upd]
                    funext b
                    by_cases hb : b = D
                    · subst hb; rw [del_same, upd_ne (Ne.symm nqD), del_same]
                    · rw [del_ne hb]
                      by_cases hb2 : b = q'
                      · subst hb2; rw [upd_same, upd_same]
                      · rw [upd_ne hb2, upd_ne hb2, del_ne hb]
                  have sq : Same (del H4 D) (upd (del H4 D) q' (.lst vs)) := same_upd nqH
                  have mem : q' ∉ qs := fun z => by
                    obtain ⟨vs', h1, _⟩ := rs4.there z
                    rw [nqH] at h1; cases h1
                  refine ⟨qs.map V.ref, by rw [upd_ne (Ne.symm nqD)]; exact e4, by rw [List.length_map]; omega, F4, qs ++ [q'], done ++ [yd], ?_, by rw [upd_same, List.map_append]; rfl, ?_, n4, by rw [List.length_append]; exact Nat.succ_le_succ hl, zs, rfl, by rw [e2, List.append_assoc]; rfl⟩
                  · rw [eH]
                    exact ⟨g8.f, g8.h.trans sq, g8.le.trans sq, g8.nw⟩
                  · rw [eH]
                    exact (rs4.grow (Same.refl F4) sq fun a o e => .inl e).snoc (g8.h.free nqH) upd_same nqF rv mem
      · rintro H' ⟨F', qs, done, g2, eD, rs, nD', hl, ys, e1, e2⟩
        rw [List.drop_length] at e1
        cases e1
        rw [List.append_nil] at e2
        rw [e2] at q1
        have := q1 D qs (del H' D) F' g2 del_same rs (Nat.le_trans hl hz)
        rwa [upd_del eD] at this
    · rw [if_neg hz] at q0; exact q0.elim
/-- a list that is there already becomes a cell -/
theorem RelO.adopt {K : Kc} {F H : Hp} {ρ : PEnv} {σ : Sg} {oa : Nat → Option Addr} {q : Addr} {s : Slot} (r : RelO K c F ρ σ H oa) (n : ∀ i, oa i ≠ some q) (f : F q = none) (b : c.B q = none) (h : SlotOk K c.n F H oa none (some q) s) :
    RelO K c F (ρ ++ [s]) σ H (oaSet oa ρ.length (some q)) ∧ ∀ i a, oa i = some a → oaSet oa ρ.length (some q) i = some a := by
  have far : ∀ i a, oa i = some a → oaSet oa ρ.length (some q) i = some a := fun i a e => by
    have := (r.s3 i a e).2.2
    rw [oaSet_ne (by omega)]; exact e
  have far' : ∀ j, c.n ≤ j → (oa j).isSome = true → oaSet oa ρ.length (some q) j = oa j := fun j _ q => by
    obtain ⟨a, e⟩ := Option.isSome_iff_exists.mp q
    rw [far j a e, e]
  refine ⟨⟨r.b, r.f0, r.le, r.nw, r.len, by simp only [List.length_append]; have := r.len2; omega, fun j t e => ?_, fun j k a e1 e2 => ?_, fun j a e => ?_, fun j a e => far j a (r.s4 j a e)⟩, far⟩
  · by_cases z : j = ρ.length
    · subst z
      rw [List.getElem?_append_right (Nat.le_refl _), Nat.sub_self] at e
      cases e
      rw [oaSet_same, List.getElem?_eq_none_iff.mpr (by rw [r.len]; exact r.len2)]
      exact h.oaNe far'
    · have jl : j < ρ.length := by
        have := (List.getElem?_eq_some_iff.mp e).1
        simp at this; omega
      rw [List.getElem?_append_left jl] at e
      rw [oaSet_ne z]
      exact (r.s1 j t e).oaNe far'
  · by_cases z : j = ρ.length
    · rw [z, oaSet_same] at e1; cases e1
      by_cases z' : k = ρ.length
      · rw [z, z']
      · rw [oaSet_ne z'] at e2; exact absurd e2 (n k)
    · rw [oaSet_ne z] at e1
      by_cases z' : k = ρ.length
      · rw [z', oaSet_same] at e2; cases e2; exact absurd e1 (n j)
      · rw [oaSet_ne z'] at e2; exact r.s2 j k a e1 e2
  · by_cases z : j = ρ.length
    · rw [z, oaSet_same] at e; cases e
      exact ⟨f, b, by simp [z]⟩
    · rw [oaSet_ne z] at e
      obtain ⟨f, b, l⟩ := r.s3 j a e
      exact ⟨f, b, by simp; omega⟩
theorem RelO.adopts {K : Kc} {F H0 H : Hp} {σ : Sg} : ∀ {qs : List Addr} {dss : List (List D)} {ρ : PEnv} {oa : Nat → Option Addr}, RelO K c F ρ σ H oa → Inn K F H0 H qs dss → (∀ q ∈ qs, c.B q = none) → (∀ i, ∀ q ∈ qs, oa i ≠ some q) →
    ∃ oa', RelO K c F (ρ ++ dss.map Slot.own) σ H oa' ∧ (∀ i a, oa i = some a → oa' i = some a) ∧ qs.map some = (List.range dss.length).map fun k => oa' (k + ρ.length)
  | [], _, ρ, oa, r, .nil, _, _ => ⟨oa, by simpa using r, fun _ _ e => e, rfl⟩
  | q :: qs, ds :: dss, ρ, oa, r, .cons (vs := vs) a b d e f t, hb, hn => by
    obtain ⟨r1, far⟩ := r.adopt (s := .own ds) (fun i => hn i q List.mem_cons_self) d (hb q List.mem_cons_self) ⟨q, vs, rfl, .inl rfl, b, e⟩
    obtain ⟨oa', r2, far2, e2⟩ := RelO.adopts r1 t (fun x hx => hb x (List.mem_cons_of_mem _ hx)) fun i x hx => by
      by_cases z : i = ρ.length
      · rw [z, oaSet_same]
        intro y
        cases y
        exact f hx
      · rw [oaSet_ne z]; exact hn i x (List.mem_cons_of_mem _ hx)
    refine ⟨oa', by rw [List.append_assoc] at r2; exact r2, fun i a e => far2 i a (far i a e), ?_⟩
    rw [List.map_cons, e2, List.length_cons, List.range_succ_eq_map, List.map_cons, List.map_map]
    have h0 : oa' (0 + ρ.length) = some q := by rw [Nat.zero_add]; exact far2 _ _ oaSet_same
    rw [h0]
    congr 1
    apply List.map_congr_left
    intro k _
    show oa' (k + (ρ ++ [Slot.own ds]).length) = oa' (k + 1 + ρ.length)
    rw [List.length_append]
    show oa' (k + (ρ.length + 1)) = _
    congr 1
    omega
/-- x = [[..] for ..]: new cells -/
def sNewCC (n i : Nat) (nv : Nv) : Sv := fun ρ => match nv ρ with
  | .ok dss => .nx ((ρ ++ dss.map Slot.own ++ [Slot.own2 ((List.range dss.length).map (· + (ρ.length - n)))]).set i (.al (ρ.length - n + dss.length)))
  | .exc C fs => .exc C fs
  | .stuck => .stuck
theorem new_cells {K : Kc} {F H F1 H1 : Hp} {ρ : PEnv} {σ : Sg} {p : Addr} {qs : List Addr} {dss : List (List D)} (r : Rel K c F ρ σ H) (g : Grow F H F1 H1) (nn : H1 p = none) (rs : Inn K F1 H H1 qs dss) :
    ∃ oa', RelO K c F1 (ρ ++ dss.map Slot.own ++ [Slot.own2 ((List.range dss.length).map (· + (ρ.length - c.n)))]) σ (upd H1 p (.lst (qs.map V.ref))) oa' ∧ oa' (ρ.length - c.n + dss.length + c.n) = some p := by
  obtain ⟨oa, r⟩ := r.o
  have hl := r.len2
  have nq : ∀ q ∈ qs, H q = none := fun q hq => by
    clear nn
    induction rs with
    | nil => cases hq
    | cons a b d e f t ih =>
      rcases List.mem_cons.mp hq with rfl | hq
      · exact a
      · exact ih hq
  obtain ⟨oa1, r1, far1, e1⟩ := (r.grow g).adopts rs (fun q hq => r.b.free (nq q hq)) fun i q hq z => by
    obtain ⟨u, hu⟩ := r.there z
    rw [nq q hq] at hu; cases hu
  obtain ⟨r2, far2⟩ := r1.cell (s := .own2 ((List.range dss.length).map (· + (ρ.length - c.n)))) (u := .lst (qs.map V.ref)) nn ⟨p, qs, rfl, .inl rfl, upd_same, by
    rw [e1, List.map_map]
    apply List.map_congr_left
    intro k _
    show oa1 (k + ρ.length) = oa1 (k + (ρ.length - c.n) + c.n)
    congr 1
    omega⟩
  refine ⟨_, r2, ?_⟩
  have : ρ.length - c.n + dss.length + c.n = (ρ ++ dss.map Slot.own).length := by rw [List.length_append, List.length_map]; omega
  rw [this]; exact oaSet_same
theorem ss_newCC (hc : X.calm = true) (hN : X.N.Nodup) (hy : X.N[i]? = some y) (hyl : X.env.scope.names.lookup y = some .local) (hsw : swapsWith (.ListComp elt [⟨tg, iter, ifs, 0⟩] scope pos) (some (.Name y py)) spos.line X.env = pure true)
    (hi : SI c X tg iter it) (ok : BlkOk X.N X.env.scope scope own) (hix : own.map (·.2) = ix) (io : ∀ j ∈ ix, ∀ a, c.io ≠ some (j, a)) (io2 : ∀ a, c.io ≠ some (i, a))
    (hg : ∀ (s : Shared) (H : Hp) (C : Addr) (cl : List (Str × Addr)) (fp : List Addr), SG c.nox (Bk X s H C cl fp scope) tg ix g) (ht : ∀ (s : Shared) (H : Hp) (C : Addr) (cl : List (Str × Addr)) (fp : List Addr), STs c.nox (Bk X s H C cl fp scope) ifs tt)
    (he : ∀ (s : Shared) (H : Hp) (C : Addr) (cl : List (Str × Addr)) (fp : List Addr), SN c.nox (Bk X s H C cl fp scope) elt lv) (hs : ∀ x, foldedSetIterable iter X.env x = pure x := by intro _; rfl) (hlt : (ix.all fun j => decide (j < c.n)) = true := by rfl) (hn : c.n = X.N.length := by rfl) (hn2 : c.n = n := by rfl) :
    SS c X (.Assign [.Name y py] (.ListComp elt [⟨tg, iter, ifs, 0⟩] scope pos) spos) (sNewCC n i (nLc it g ix tt lv)) := by
  subst hix hn2
  refine ⟨ps_imp (ps_setLc (te := tNw (X.kc c) c.nox lv) (g := tGt (X.kc c) c.nox _ g) (tt := tT (X.kc c) c.nox tt) hc hN hy hyl hsw hi.pi ok (fun s H C cl fp => (hg s H C cl fp).pg) (fun s H C cl fp => (ht s H C cl fp).pts) (fun s H C cl fp => (he s H C cl fp).pe) hs) fun De σ H ⟨F, ρ, r, q⟩ => ?_⟩
  refine tLcN_of io (all_lt hlt) r ?_
  unfold sNewCC at q
  cases z : nLc it g (own.map (·.2)) tt lv ρ with
  | ok dss =>
    rw [z] at q
    intro p qs H1 F1 g nn rs _
    obtain ⟨oa', r2, e2⟩ := new_cells r g nn rs
    exact q _ _ F1 g.f (r2.nameV io2 (lt_n hn hy) ⟨rfl, p, e2, rfl⟩)
  | exc C fs => rw [z] at q; exact q
  | stuck => rw [z] at q; exact q
end
end Pu

namespace Pu
open PySem PySem.Spec PyProof.Rows L2
/-! ### sorted(x), x a list of tuples -/
def encD (d : D) : PyData := (D.toPy d).getD .none
/-- Python's order -/
def leD (a b : D) : Bool := PySem.W.dataLe false encD a b
def isTp : PyData → Bool
  | .tuple (_ :: _) => true
  | _ => false
def srtOk (ds : List D) : Bool := ds.all (fun d => (D.toPy d).isSome && isTp (encD d) && decide ((encD d).depth ≤ 8)) && ds.all fun a => ds.all fun b => PySem.W.alike (encD a) (encD b)
def rSrtD (K : Kc) : List V → Hp → VK → Prop := fun vs H Q => ∃ (a : Addr) (xs : List V) (ds : List D) (F : Hp), vs = [V.ref a] ∧ SqL K.K H a xs ∧ Same F H ∧ Reps K F xs ds ∧ srtOk ds = true ∧
  ∀ q ys, H q = none → Reps K F ys (ds.mergeSort leD) → ys.length ≤ sizeLine → Q (.ref q) (upd H q (.lst ys))
theorem each_zip : ∀ {xs : List V} {us : List Value} {ds : List D}, Vals xs us → xs.length = ds.length → PySem.W.EachIs (fun v (p : V × D) => RelV p.1 v) us (xs.zip ds)
  | [], _, [], h, _ => by cases h; exact .nil
  | [], _, _ :: _, _, e => by cases e
  | _ :: _, _, [], _, e => by cases e
  | x :: xs, _, d :: ds, h, e => by
    cases h with
    | cons r t => exact .cons r (each_zip t (Nat.succ.inj e))
theorem vals_fst : ∀ {us : List Value} {ps : List (V × D)}, PySem.W.EachIs (fun v (p : V × D) => RelV p.1 v) us ps → Vals (ps.map Prod.fst) us
  | _, _, .nil => .nil
  | _, _, .cons h t => .cons h (vals_fst t)
theorem reps_zip {K : Kc} {F : Hp} : ∀ {xs : List V} {ds : List D}, Reps K F xs ds → ∀ p ∈ xs.zip ds, Rep K F p.1 p.2
  | _, _, .nil, p, h => by cases h
  | _, _, .cons h r, p, hp => by
    rcases List.mem_cons.mp hp with rfl | hp
    · exact h
    · exact reps_zip r p hp
theorem reps_of {K : Kc} {F : Hp} : ∀ {ps : List (V × D)}, (∀ p ∈ ps, Rep K F p.1 p.2) → Reps K F (ps.map Prod.fst) (ps.map Prod.snd)
  | [], _ => .nil
  | p :: ps, h => .cons (h p List.mem_cons_self) (reps_of fun q hq => h q (List.mem_cons_of_mem _ hq))
theorem cr_sortedD {X : Cx} {c : Cc} (hu : X.A.units + 64 < cLine) : CallR X (.builtin "sorted") (rSrtD (X.kc c)) := by
  intro pins s σ H vs us Q I r h
  obtain ⟨a, xs, ds, F, rfl, hs, le, rs, hok, q⟩ := h
  obtain ⟨its, rv, hl, hz⟩ := I.list hs
  rw [Vals.ref1 r]
  unfold srtOk at hok
  rw [Bool.and_eq_true, List.all_eq_true, List.all_eq_true] at hok
  obtain ⟨ok1, ok2⟩ := hok
  have len := rs.length
  have mem : ∀ p ∈ xs.zip ds, p.2 ∈ ds := fun p hp => (List.of_mem_zip (show (p.1, p.2) ∈ xs.zip ds from hp)).2
  have e := each_zip rv len
  have hl2 : (xs.zip ds).length = xs.length := by rw [List.length_zip]; omega
  refine PySem.W.sorted_data (enc := fun p : V × D => encD p.2) (R := fun v (p : V × D) => RelV p.1 v) hl.isList e ?_ ?_ ?_ ?_ ?_ fun out h1 h2 => ?_
  · refine (PySem.W.each_mem e).mono fun v p ⟨hv, hp⟩ => ?_
    have h1 := ok1 p.2 (mem p hp)
    rw [Bool.and_eq_true, Bool.and_eq_true] at h1
    obtain ⟨x, hx⟩ := Option.isSome_iff_exists.mp h1.1.1
    have : encD p.2 = x := by unfold encD; rw [hx]; rfl
    rw [this]
    exact Dp.reads I x p.1 v (rep_dp le (reps_zip rs p hp) hx) hv
  · intro d hd d' hd'
    obtain ⟨p, hp, rfl⟩ := List.mem_map.mp hd
    obtain ⟨p', hp', rfl⟩ := List.mem_map.mp hd'
    exact List.all_eq_true.mp (ok2 p.2 (mem p hp)) p'.2 (mem p' hp')
  · refine .inl fun d hd => ?_
    obtain ⟨p, hp, rfl⟩ := List.mem_map.mp hd
    have h1 := ok1 p.2 (mem p hp)
    rw [Bool.and_eq_true, Bool.and_eq_true] at h1
    have h2 := h1.1.2
    unfold isTp at h2
    split at h2
    · rename_i x r z; exact ⟨x, r, z⟩
    · cases h2
  · rw [hl2]; exact hz
  · intro p hp
    have h1 := ok1 p.2 (mem p hp)
    rw [Bool.and_eq_true, Bool.and_eq_true, decide_eq_true_eq] at h1
    omega
  · obtain ⟨ep, he'⟩ := PyProof.Rows.sortedAll_at s.heap its out.toArray
    have hlen : (((xs.zip ds).mergeSort (PySem.W.dataLe false fun p : V × D => encD p.2)).map Prod.fst).length ≤ sizeLine := by
      rw [List.length_map, List.length_mergeSort, hl2]; exact hz
    have hsnd : ((xs.zip ds).mergeSort (PySem.W.dataLe false fun p : V × D => encD p.2)).map Prod.snd = ds.mergeSort leD := by
      have : (xs.zip ds).map Prod.snd = ds := List.map_snd_zip (by omega)
      conv => rhs; rw [← this]
      exact List.map_mergeSort fun a _ b _ => rfl
    have hreps : Reps (X.kc c) F (((xs.zip ds).mergeSort (PySem.W.dataLe false fun p : V × D => encD p.2)).map Prod.fst) (ds.mergeSort leD) := by
      rw [← hsnd]
      exact reps_of fun p hp => reps_zip rs p ((List.mergeSort_perm _ _).mem_iff.mp hp)
    exact ⟨.ref _, upd H (s.heap.objs.size + 1) (.lst _), I.laid (t' := s.toks) (fun _ _ => PyProof.Rows.sortedAll_old) (Nat.le_succ _) ⟨hlen, out, ep, vals_fst h2, he'⟩, rfl, q _ _ (I.hok.fresh (Nat.le_succ _)) hreps hlen⟩
def lSrt (a : Ev) : Av := fun ρ => (a ρ).bind fun x => match x with
  | .lst ds => if srtOk ds = true then .ok (ds.mergeSort leD) else .stuck
  | _ => .stuck
section
variable {c : Cc} {X : Cx} {e : Expr} {ea : Ev} {pos p : Pos}
theorem sn_sort (hu : X.A.units + 64 < cLine) (hg : Gl X "sorted") (hm : X.mg "sorted" = none) (he : SB c X e ea) (hs : starEach [e] X.env = (false, eval e X.env) :: starEach [] X.env := by rfl) (hpl : (backTo pos (starEach [] X.env)).any (·.1) = false := by rfl) :
    SN c X (.Call (.Name "sorted" p) [e] [] pos) (lSrt ea) := by
  refine ⟨pe_imp (pe_callB (cr_sortedD (c := c) hu) hg hm (by decide +kernel) (pa_cons he.pe pa_nil hs) (by decide) (by decide) hs hpl) fun σ H Q ⟨F, ρ, r, q⟩ => ⟨F, ρ, r, ?_⟩⟩
  unfold lSrt at q
  cases z : ea ρ with
  | ok d =>
    rw [z] at q
    cases d with
    | lst ds =>
      have q' : FinN (X.kc c) c F H (if srtOk ds = true then .ok (ds.mergeSort leD) else .stuck) Q := q
      by_cases hok : srtOk ds = true
      · rw [if_pos hok] at q'
        intro v H1 F1 g rb
        obtain ⟨a, vs, rfl, h1, h2⟩ := rb.lst g.le
        exact ⟨a, vs, ds, F1, rfl, .inl (.inl h1), g.le, h2, hok, fun p ys n rs hz => q' p ys H1 F1 g n rs hz⟩
      · rw [if_neg hok] at q'; exact q'.elim
    | _ => exact q.elim
  | exc C fs => rw [z] at q; exact q
  | stuck => rw [z] at q; exact q.elim
end
end Pu

namespace Pu
open PySem PySem.Spec PyProof.Rows L2
/-! ### isinstance(x, T), T one of int, bool, tuple, list -/
def tyD : D → Option String
  | .non => some "NoneType"
  | .bl _ => some "bool"
  | .int _ => some "int"
  | .str _ => some "str"
  | .lst _ => some "list"
  | .tup _ => some "tuple"
  | _ => none
inductive Ty4 where | int | bool | tuple | list
def Ty4.nm : Ty4 → String
  | .int => "int" | .bool => "bool" | .tuple => "tuple" | .list => "list"
def isTy (T : Ty4) : D → Option Bool
  | .non => some false
  | .bl _ => some (match T with | .int => true | .bool => true | _ => false)
  | .int _ => some (match T with | .int => true | _ => false)
  | .str _ => some false
  | .lst _ => some (match T with | .list => true | _ => false)
  | .tup _ => some (match T with | .tuple => true | _ => false)
  | _ => none
theorem kit_all (T : Ty4) : kitB "NoneType" T.nm = some false ∧ kitB "bool" T.nm = some (match T with | .int => true | .bool => true | _ => false) ∧ kitB "int" T.nm = some (match T with | .int => true | _ => false) ∧ kitB "str" T.nm = some false ∧
    kitB "list" T.nm = some (match T with | .list => true | _ => false) ∧ kitB "tuple" T.nm = some (match T with | .tuple => true | _ => false) := by
  cases T <;> refine ⟨?_, ?_, ?_, ?_, ?_, ?_⟩ <;> decide +kernel
def eIsi (T : Ty4) (a : Ev) : Ev := fun ρ => (a ρ).bind fun d => Res.of ((isTy T d).map .bl)
theorem tyx_of {K : Kc} {F H : Hp} {v : V} {d : D} (le : Same F H) (h : RepB K F H v d) {T : Ty4} {b : Bool} (e : isTy T d = some b) : ∃ t, TyX K.K H v (.type t) ∧ kitB t T.nm = some b := by
  obtain ⟨k1, k2, k3, k4, k5, k6⟩ := kit_all T
  have lst : ∀ {a : Addr} {vs : List V}, H a = some (.lst vs) → isTy T (.lst []) = some b → ∃ t, TyX K.K H (.ref a) (.type t) ∧ kitB t T.nm = some b := fun {a vs} ha e => by
    cases e; exact ⟨"list", .base (.lst ha), k5⟩
  rcases h with h | ⟨a, vs, ds, rfl, rfl, h1, h2⟩
  · cases h with
    | non => cases e; exact ⟨_, .base .non, k1⟩
    | bl x => cases e; exact ⟨_, .base (.bl x), k2⟩
    | int x => cases e; exact ⟨_, .base (.int x), k3⟩
    | str x => cases e; exact ⟨_, .base (.str x), k4⟩
    | lst h1 h2 => exact lst (le _ _ h1) e
    | tup h1 h2 =>
      cases e
      rcases same_seqT le h1 with (h | ⟨o, h⟩) | ⟨o, its, n, h3, h4, _⟩
      · exact ⟨"tuple", .base (.tup h), k6⟩
      · exact ⟨"tuple", .fTuple h, k6⟩
      · exact ⟨"tuple", .kTuple h3 h4, k6⟩
    | obj h1 h2 => cases e
    | scr h1 => cases e
  · exact lst h1 e
section
variable {c : Cc} {X : Cx} {e : Expr} {ea : Ev} {pos p p2 : Pos}
theorem se_isi (T : Ty4) {x : Str} (he : SB c X e ea) (hg : Gl X "isinstance") (hm : X.mg "isinstance" = none) (hg2 : Gl X x) (hm2 : X.mg x = none) (hb : bootBuiltins x = some (.type T.nm) := by decide +kernel) (hn : x ≠ "__name__" := by decide) (hd : (x == ("__debug__" : Str)) = false := by decide)
    (hs : starEach [e, .Name x p2] X.env = (false, eval e X.env) :: starEach [.Name x p2] X.env := by rfl) (hs2 : starEach [Expr.Name x p2] X.env = (false, eval (.Name x p2) X.env) :: starEach [] X.env := by rfl) (hpl : (backTo pos (starEach [Expr.Name x p2] X.env)).any (·.1) = false := by rfl) :
    SE c X (.Call (.Name "isinstance" p) [e, .Name x p2] [] pos) (eIsi T ea) := by
  refine ⟨pe_imp (pe_callB call_isi hg hm (by decide +kernel) (pa_cons he.pe (pa_cons (pe_bltn (v := .ty T.nm) hg2 hm2 hb rfl hn hd) pa_nil hs2) hs) (by decide) (by decide) hs hpl) fun σ H Q ⟨F, ρ, r, q⟩ => ?_⟩
  refine tG_bind r q fun v d H1 F1 g r1 rb q1 => ?_
  cases z : isTy T d with
  | none => rw [z] at q1; exact q1.elim
  | some b =>
    rw [z] at q1
    obtain ⟨t, ty, hk⟩ := tyx_of r1.le rb z
    exact ⟨v, .ty T.nm, _, _, b, rfl, .ty _, ty, kit_ty hk, q1 (.bl b) H1 F1 r1.refl (.bl b)⟩
/-! ### a global tuple of texts -/
def GTup (K : PySem.W.Frag) (a : Addr) (ss : List Str) : Prop := ∃ (o : Obj) (its : Array Value) (n : Nat), K.lookup a = some o ∧ o.cls = .type "tuple" ∧ o.data = .seq its n ∧ its.size ≤ sizeLine ∧ Vals (ss.map V.str) its.toList
theorem rep_strs {K : Kc} {F : Hp} : ∀ ss : List Str, Reps K F (ss.map V.str) (ss.map D.str)
  | [] => .nil
  | s :: ss => .cons (.str s) (rep_strs ss)
theorem se_gtup {x : Str} {a : Addr} {ss : List Str} (hg : Gl X x) (hm : X.mg x = some (.ref a)) (hk : GTup X.K a ss) (hd : (x == ("__debug__" : Str)) = false := by decide) : SE c X (.Name x p) (eC (.tup (ss.map D.str))) :=
  se_cst (pe_glob (v := .ref a) hg hm rfl hd) fun F => .tup (.inr hk) (rep_strs ss)
end
/-! ### all cells are told to change no more; name i's list of lists is kept -/
def allOwn (n : Nat) (ρ : PEnv) : List Nat → Option (List (List D))
  | [] => some []
  | k :: ks => match ρ[k + n]? with
    | some (.own ds) => (allOwn n ρ ks).map (ds :: ·)
    | _ => none
def Slot.noCell : Slot → Slot
  | .al _ => .un
  | .own2 _ => .un
  | .ins _ _ => .un
  | s => s
def frzC (n i : Nat) (ρ : PEnv) : PEnv := match ρ[i]? with
  | some (.al k) => match ρ[k + n]? with
    | some (.own2 ks) => match allOwn n ρ ks with
      | some dss => ((ρ.take n).map Slot.noCell).set i (.val (.lst (dss.map .lst)))
      | none => ρ
    | _ => ρ
  | _ => ρ
open Classical in
/-- the places at as are told to change no more -/
noncomputable def addF (F H : Hp) (as : List Addr) : Hp := fun x => if x ∈ as then H x else F x
theorem addF_f {F H : Hp} {as : List Addr} (n : ∀ a ∈ as, F a = none) : Same F (addF F H as) := fun x o e => by
  unfold addF
  rw [if_neg (fun z => by rw [n x z] at e; cases e)]
  exact e
theorem addF_le {F H : Hp} {as : List Addr} (le : Same F H) : Same (addF F H as) H := fun x o e => by
  unfold addF at e
  split at e
  · exact e
  · exact le x o e
theorem addF_in {F H : Hp} {as : List Addr} {a : Addr} (h : a ∈ as) : addF F H as a = H a := if_pos h
theorem addF_out {F H : Hp} {as : List Addr} {a : Addr} (h : a ∉ as) : addF F H as a = F a := if_neg h
theorem allOwn_reps {K : Kc} {c : Cc} {F H : Hp} {ρ : PEnv} {σ : Sg} {oa : Nat → Option Addr} (r : RelO K c F ρ σ H oa) : ∀ {ks : List Nat} {ps : List Addr} {dss : List (List D)}, allOwn c.n ρ ks = some dss → (ps.map some = ks.map fun k => oa (k + c.n)) →
    ∀ {F' : Hp}, Same F F' → (∀ p ∈ ps, F' p = H p) → Reps K F' (ps.map V.ref) (dss.map .lst)
  | [], [], _, e, _, _, _, _ => by cases e; exact .nil
  | [], _ :: _, _, _, e2, _, _, _ => by cases e2
  | _ :: _, [], _, _, e2, _, _, _ => by cases e2
  | k :: ks, p :: ps, dss, e, e2, F', m, hF => by
    unfold allOwn at e
    split at e
    · rename_i ds hk
      obtain ⟨rest, e3, rfl⟩ := Option.map_eq_some_iff.mp e
      injection e2 with e4 e5
      obtain ⟨vs, h1, h2⟩ := r.ownAt e4.symm hk
      exact .cons (.lst (by rw [hF p List.mem_cons_self]; exact h1) (h2.mono m)) (allOwn_reps r e3 e5 m fun q hq => hF q (List.mem_cons_of_mem _ hq))
    · cases e
def hasPl : Slot → Bool
  | .own _ => true
  | .ob _ _ => true
  | _ => false
open Classical in
noncomputable def keepN (n i : Nat) (ρ : PEnv) (oa : Nat → Option Addr) : Nat → Option Addr := fun j => if j < n ∧ j ≠ i ∧ (∀ s, ρ[j]? = some s → hasPl s = true) then oa j else none
theorem keepN_pos {n i j : Nat} {ρ : PEnv} {oa : Nat → Option Addr} (h1 : j < n) (h2 : j ≠ i) {t : Slot} (h3 : ρ[j]? = some t) (h4 : hasPl t = true) : keepN n i ρ oa j = oa j := if_pos ⟨h1, h2, fun s hs => by rw [h3] at hs; cases hs; exact h4⟩
theorem keepN_neg {n i j : Nat} {ρ : PEnv} {oa : Nat → Option Addr} {t : Slot} (h3 : ρ[j]? = some t) (h4 : hasPl t = false) : keepN n i ρ oa j = none := if_neg fun z => by have := z.2.2 t h3; rw [h4] at this; cases this
theorem keepN_i {n i : Nat} {ρ : PEnv} {oa : Nat → Option Addr} : keepN n i ρ oa i = none := if_neg fun z => z.2.1 rfl
theorem keepN_some {n i j : Nat} {ρ : PEnv} {oa : Nat → Option Addr} {a : Addr} (h : keepN n i ρ oa j = some a) : j < n ∧ oa j = some a := by
  unfold keepN at h
  split at h
  · rename_i z; exact ⟨z.1, h⟩
  · cases h
theorem Rel.frzC {K : Kc} {c : Cc} {F H : Hp} {ρ : PEnv} {σ : Sg} {i : Nat} (r : Rel K c F ρ σ H) (hio : c.io = none) (hpn : c.pins = fun _ => none) (hi : i < c.n) : ∃ F', Same F F' ∧ Rel K c F' (Pu.frzC c.n i ρ) σ H := by
  unfold Pu.frzC
  split
  · rename_i k hk
    split
    · rename_i ks h2
      split
      · rename_i dss hd
        obtain ⟨oa, r⟩ := r.o
        obtain ⟨_, p, e1, e2⟩ := r.s1 i _ hk
        obtain ⟨ps, e3, e4⟩ := r.own2At e1 h2
        have hl := r.len2
        have cellsN : ∀ a ∈ p :: ps, ∃ j, c.n ≤ j ∧ oa j = some a := fun a ha => by
          rcases List.mem_cons.mp ha with rfl | ha
          · exact ⟨_, by omega, e1⟩
          · have : some a ∈ ps.map some := List.mem_map_of_mem ha
            rw [e4] at this
            obtain ⟨k', _, e⟩ := List.mem_map.mp this
            exact ⟨_, by omega, e⟩
        have nF : ∀ a ∈ p :: ps, F a = none := fun a ha => by
          obtain ⟨j, _, e⟩ := cellsN a ha
          exact (r.s3 j a e).1
        have m := addF_f (H := H) nF
        have rp : Rep K (addF F H (p :: ps)) (.ref p) (.lst (dss.map .lst)) := .lst (by rw [addF_in List.mem_cons_self]; exact e3) (allOwn_reps r hd e4 m fun q hq => addF_in (List.mem_cons_of_mem _ hq))
        have nameOut : ∀ j a, j < c.n → oa j = some a → a ∉ p :: ps := fun j a hj e z => by
          obtain ⟨j', h', e'⟩ := cellsN a z
          have := r.s2 _ _ a e e'
          omega
        refine ⟨addF F H (p :: ps), m, r.b, r.f0.trans m, addF_le r.le, fun a o e => ?_, r.len, ?_, keepN c.n i ρ oa, fun j s e => ?_, fun j1 j2 a h1 h2 => ?_, fun j a e => ?_, fun j a e => ?_⟩
        · by_cases z : a ∈ p :: ps
          · obtain ⟨j, _, e'⟩ := cellsN a z
            exact .inr (r.s3 j a e').2.1
          · rw [addF_out z] at e; exact r.nw a o e
        · rw [List.length_set, List.length_map, List.length_take]; omega
        · have hj : j < c.n := by
            have := (List.getElem?_eq_some_iff.mp e).1
            rw [List.length_set, List.length_map, List.length_take] at this
            omega
          by_cases z : j = i
          · subst z
            rw [List.getElem?_set_self (by rw [List.length_map, List.length_take]; omega)] at e
            cases e
            exact ⟨keepN_i, .ref p, e2, rp⟩
          · rw [List.getElem?_set_ne (Ne.symm z), List.getElem?_map, List.getElem?_take, if_pos hj] at e
            obtain ⟨t, et, rfl⟩ := Option.map_eq_some_iff.mp e
            have o := r.s1 j t et
            cases t with
            | un => exact keepN_neg et rfl
            | al k => exact keepN_neg et rfl
            | own2 k => exact keepN_neg et rfl
            | ins C fs => exact keepN_neg et rfl
            | val d =>
              obtain ⟨_, v, h1, h2⟩ := o
              exact ⟨keepN_neg et rfl, v, h1, h2.mono m⟩
            | own ds =>
              obtain ⟨a, vs, h1, h2, h3, h4⟩ := o
              exact ⟨a, vs, by rw [keepN_pos hj z et rfl]; exact h1, h2, h3, h4.mono m⟩
            | ob C fs =>
              obtain ⟨a, dx, vs, h1, h2, h3, h4⟩ := o
              exact ⟨a, dx, vs, by rw [keepN_pos hj z et rfl]; exact h1, h2, h3, h4.mono m⟩
        · exact r.s2 _ _ a (keepN_some h1).2 (keepN_some h2).2
        · obtain ⟨hj, e'⟩ := keepN_some e
          obtain ⟨f, b, l⟩ := r.s3 j a e'
          exact ⟨by rw [addF_out (nameOut j a hj e')]; exact f, b, by rw [List.length_set, List.length_map, List.length_take]; omega⟩
        · rcases e with e | ⟨_, _, e⟩
          · rw [hio] at e; cases e
          · rw [hpn] at e; cases e
      · exact ⟨F, Same.refl F, r⟩
    · exact ⟨F, Same.refl F, r⟩
  · exact ⟨F, Same.refl F, r⟩
def sFrzC (n i : Nat) (s : Sv) : Sv := fun ρ => s (frzC n i ρ)
theorem ss_frzC {c : Cc} {X : Cx} {st : Stmt} {s : Sv} {n i : Nat} (h : SS c X st s) (hio : c.io = none := by rfl) (hpn : c.pins = fun _ => none := by rfl) (hi : decide (i < c.n) = true := by rfl) (hn : c.n = n := by rfl) : SS c X st (sFrzC n i s) := by
  subst hn
  refine ⟨ps_imp h.ps fun De σ H ⟨F, ρ, r, q⟩ => ?_⟩
  obtain ⟨F', m, r'⟩ := r.frzC hio hpn (of_decide_eq_true hi)
  exact ⟨F', _, r', FinS.mono m q⟩
end Pu

/-! itertools.permutations of a range, at the library's level -/
namespace Prm
open PySem PySem.Spec PyProof.Rows L2
open Sem (wp)
theorem mro_prm : mroOf (.type "itertools.permutations") = pure [.type "itertools.permutations", .type "object"] := by rw [mroOf_type]; kernel_rfl
theorem lookup_prm_new : typeLookup (.type "itertools.permutations") "__new__" = pure (some (.builtin "itertools.permutations.__new__")) := by rw [typeLookup_type, builtinLookup_eq_fast]; kernel_rfl
theorem slot_prm_init : PySem.Slot "itertools.permutations" "__init__" "object.__init__" :=
  .of (owner := "object") (n := "__init__") (by rw [typeLookup_type, builtinLookup_eq_fast]; kernel_rfl) (by decide +kernel) (by decide +kernel) (by decide +kernel)
    (by first | exact .inl (by decide +kernel) | exact .inr (by decide +kernel)) (by rw [isSubtype_type]; kernel_rfl)
theorem sub_prm : isSubtype (.type "itertools.permutations") (.type "itertools.permutations") = pure true := by rw [isSubtype_type]; kernel_rfl
theorem called_prm : TypeCalled "itertools.permutations" "itertools.permutations.__new__" "object.__init__" :=
  ⟨by decide +kernel, by decide +kernel, ⟨_, _, mro_prm⟩, madeBy_type mro_prm lookup_prm_new (by decide +kernel), by decide +kernel, sub_prm, slot_prm_init⟩
theorem typeCall_prm (a : Value) : checkTypeCall "itertools.permutations" ⟨[a], []⟩ = pure () := by kernel_rfl
theorem newCall_prm (a : Value) : checkBuiltinCall "itertools.permutations.__new__" ⟨[.type "itertools.permutations", a], []⟩ = pure () := by kernel_rfl
theorem entry_prm_new : entryFor table "itertools.permutations.__new__" = some Builtin.«itertools.permutations.__new__» := entryFor_of_tree (by kernel_rfl)
theorem slot_prm_iter : PySem.Slot "itertools.permutations" "__iter__" "itertools.permutations.__iter__" :=
  .of (owner := "itertools.permutations") (n := "__iter__") (by rw [typeLookup_type, builtinLookup_eq_fast]; kernel_rfl) (by decide +kernel) (by decide +kernel) (by decide +kernel)
    (by first | exact .inl (by decide +kernel) | exact .inr (by decide +kernel)) sub_prm
theorem slot_prm_next : PySem.Slot "itertools.permutations" "__next__" "itertools.permutations.__next__" :=
  .of (owner := "itertools.permutations") (n := "__next__") (by rw [typeLookup_type, builtinLookup_eq_fast]; kernel_rfl) (by decide +kernel) (by decide +kernel) (by decide +kernel)
    (by first | exact .inl (by decide +kernel) | exact .inr (by decide +kernel)) sub_prm
theorem entry_prm_iter : entryFor table "itertools.permutations.__iter__" = some Builtin.«dict_keyiterator.__iter__» :=
  entryFor_alias (id' := "dict_keyiterator.__iter__") (by kernel_rfl) (by first | rfl | decide +kernel | (unfold String.splitOn; simp +decide [String.splitOnAux])) (by decide +kernel) (by kernel_rfl)
theorem entry_prm_next : entryFor table "itertools.permutations.__next__" = some Builtin.«itertools.permutations.__next__» := entryFor_of_tree (by kernel_rfl)
theorem noDict_prm : typeHasDict (.type "itertools.permutations") = false := by decide +kernel
theorem owner_prm : Manifest.owners.lookup (String.ofList ("itertools.permutations".toList.reverse).reverse) = some Manifest.sig_itertools_permutations := by kernel_rfl
theorem args_prm_iter (a : Value) : argsOk "itertools.permutations.__iter__" ⟨[a], []⟩ := by
  unfold argsOk; rw [signature?_of (id := "itertools.permutations.__iter__") (n := ['_', '_', 'r', 'e', 't', 'i', '_', '_']) (o := "itertools.permutations".toList.reverse) (by kernel_rfl) owner_prm]; kernel_rfl
theorem args_prm_next (a : Value) : argsOk "itertools.permutations.__next__" ⟨[a], []⟩ := by
  unfold argsOk; rw [signature?_of (id := "itertools.permutations.__next__") (n := ['_', '_', 't', 'x', 'e', 'n', '_', '_']) (o := "itertools.permutations".toList.reverse) (by kernel_rfl) owner_prm]; kernel_rfl
end Prm

/-! itertools.permutations of a range: made, walked -/
namespace Prm
open PySem PySem.Spec PyProof.Rows L2
open Sem (wp)
/-- the record's fields: the items' tuple, how it stands, how many, the last one, places and cycles -/
def pf (T : Addr) (st n : Nat) (last : Value) (ns : List Nat) : Array Value := (([.ref T, rawInt st, rawInt n, last] : List Value) ++ ns.map fun (i : Nat) => rawInt i).toArray
abbrev IsPrm (h : Heap) (it T : Addr) (st n : Nat) (last : Value) (ns : List Nat) : Prop := h.get? it = some { cls := .type "itertools.permutations", dict := none, data := .fields (pf T st n last ns), slots := #[] }
section
variable {prog : Program} {w : World} {A : Around} {E : Value → Shared → Prop} {s : Shared} {r : Addr} {a b c : Int} {t u v : Tok} {n : Nat}
theorem code_prm_new {Q₁ : Value → Shared → Prop} (hh : A.handled = none) (hr : IsRange s.heap r a b c t u v) (hsmall : Builtin.Range.small a b c = true) (hn : Builtin.Range.rangeSize a b c = n) (hlen : n ≤ 100)
    (h : ∀ (h' : Heap) (tk : Nat) (acc : Array Value), (∀ b o, s.heap.get? b = some o → h'.get? b = some o) → ItemsOf (fun i v => ∃ t, v = .int (a + i * c) t) acc n →
      Q₁ (.ref (h'.objs.size + 1)) { s with heap := (h'.push { cls := .type "tuple", data := .seq acc }).push { cls := .type "itertools.permutations", data := .fields (pf h'.objs.size 0 n .none (List.range n ++ (List.range n).map fun i => n - i)) }, toks := tk }) :
    codeAny (model prog w) A (.call (.builtin "itertools.permutations.__new__") ⟨[.type "itertools.permutations", .ref r], []⟩) (wants Q₁ E) s := by
  refine codeAny_of_tree ?_
  show wpAny _ A.in1 (do checkBuiltinCall "itertools.permutations.__new__" ⟨[.type "itertools.permutations", .ref r], []⟩; again (.builtin "itertools.permutations.__new__" ⟨[.type "itertools.permutations", .ref r], []⟩)) _ _ s
  refine wpAny_bind (wpAny_of_eq (newCall_prm _) (wpAny_pure ⟨plainId_quiet (by decide +kernel) _, codeAny_builtin entry_prm_new ?_⟩))
  rw [Around.under_plainId (by decide +kernel) _]
  have hsub := sub_prm
  have hd := noDict_prm
  have hTI : s.TypeIs (.ref r) "range" := ⟨_, hr, rfl⟩
  have hh1 : A.in1.handled = none := hh
  have hs2 : isSubtype (.type "itertools.permutations") (.type ("itertools." ++ "permutations")) = pure true := by rw [isSubtype_type]; kernel_rfl
  wp_walk using wpAny_typeOf hTI, collect_range (A := A.in1) hh1 hr hsmall hn (show n ≤ 2 ^ 24 by omega)
  intro h' tk acc hk hacc
  have hlen2 : acc.toList.length = n := by rw [Array.length_toList]; exact hacc.1
  have e1 : acc.toList.toArray = acc := by simp
  have c1 : ¬ ((acc.toList.length : Nat) : Int) < 0 := by omega
  have c2 : ¬ Builtin.Itertools.itTooMany ((acc.toList.length : Nat) : Int) = true := by
    show ¬ decide (((acc.toList.length : Nat) : Int) > 2 ^ 20) = true
    rw [decide_eq_true_eq]
    have : (2 : Int) ^ 20 = 1048576 := by decide
    omega
  dsimp only
  show wpAny _ _ (pure ((acc.toList.length : Nat) : Int) >>= fun r => (if r < 0 then (_ : Sem PySem.Fin) else (if Builtin.Itertools.itTooMany r = true then (_ : Sem PySem.Fin) else (do
              let __do_lift ← newTuple acc.toList
              let __do_lift ←
                Builtin.Itertools.itNewRecord (Value.type "itertools.permutations")
                    ([__do_lift, rawInt (if r.toNat > acc.toList.length then 2 else 0), rawInt ((r.toNat : Nat) : Int), Value.none] ++
                        List.map (fun (i : Nat) => rawInt (i : Int)) (List.range acc.toList.length) ++
                      List.map (fun (i : Nat) => rawInt (((acc.toList.length : Nat) : Int) - (i : Int))) (List.range r.toNat))
              ret __do_lift)))) _ _ _
  refine wpAny_bind (wpAny_pure ?_)
  rw [if_neg c1, if_neg c2]
  refine wpAny_bind (wpAny_newObj_type ?_ (by show acc.toList.toArray.size ≤ sizeLine; rw [e1, hacc.1, sizeLine_eq]; omega))
  refine wpAny_bind ?_
  unfold Builtin.Itertools.itNewRecord
  rw [hd]
  have e2 : ([Value.ref h'.objs.size, rawInt (if ((acc.toList.length : Nat) : Int).toNat > acc.toList.length then 2 else 0), rawInt ((((acc.toList.length : Nat) : Int).toNat : Nat) : Int), Value.none] ++
                List.map (fun (i : Nat) => rawInt (i : Int)) (List.range acc.toList.length) ++
              List.map (fun (i : Nat) => rawInt (((acc.toList.length : Nat) : Int) - (i : Int))) (List.range ((acc.toList.length : Nat) : Int).toNat)).toArray = pf h'.objs.size 0 n .none (List.range n ++ (List.range n).map fun i => n - i) := by
    rw [hlen2]
    unfold pf
    rw [Int.toNat_natCast, if_neg (Nat.lt_irrefl n), List.map_append, List.map_map, ← List.append_assoc]
    congr 2
    apply List.map_congr_left
    intro i hi
    have := List.mem_range.mp hi
    show rawInt ((n : Int) - (i : Int)) = rawInt ((n - i : Nat) : Int)
    congr 1
    omega
  show wpAny _ _ (newObj (Value.type "itertools.permutations") (Data.fields ([Value.ref h'.objs.size, rawInt (if ((acc.toList.length : Nat) : Int).toNat > acc.toList.length then 2 else 0), rawInt ((((acc.toList.length : Nat) : Int).toNat : Nat) : Int), Value.none] ++
                List.map (fun (i : Nat) => rawInt (i : Int)) (List.range acc.toList.length) ++
              List.map (fun (i : Nat) => rawInt (((acc.toList.length : Nat) : Int) - (i : Int))) (List.range ((acc.toList.length : Nat) : Int).toNat)).toArray)) _ _ _
  rw [e2]
  refine wpAny_newObj_type ?_ (by
    show (pf h'.objs.size 0 n .none (List.range n ++ (List.range n).map fun i => n - i)).size ≤ sizeLine + 2
    unfold pf
    rw [List.size_toArray, List.length_append, List.length_map, List.length_append, List.length_map, List.length_range, sizeLine_eq]
    show 4 + (n + n) ≤ _
    omega)
  refine wpAny_pure ?_
  have := h h' tk acc hk hacc
  rw [e1]
  have hsz : (h'.push { cls := .type "tuple", data := .seq acc }).objs.size = h'.objs.size + 1 := by rw [Heap.size_push]
  show Q₁ (.ref (h'.push { cls := .type "tuple", data := .seq acc }).objs.size) _
  rw [hsz]
  exact this
/-- permutations(range(..)) -/
theorem call_prm {Q : Value → Shared → Prop} (hh : A.handled = none) (hr : IsRange s.heap r a b c t u v) (hsmall : Builtin.Range.small a b c = true) (hn : Builtin.Range.rangeSize a b c = n) (hlen : n ≤ 100)
    (h : ∀ (h' : Heap) (tk : Nat) (acc : Array Value), (∀ b o, s.heap.get? b = some o → h'.get? b = some o) → ItemsOf (fun i v => ∃ t, v = .int (a + i * c) t) acc n →
      Q (.ref (h'.objs.size + 1)) { s with heap := (h'.push { cls := .type "tuple", data := .seq acc }).push { cls := .type "itertools.permutations", data := .fields (pf h'.objs.size 0 n .none (List.range n ++ (List.range n).map fun i => n - i)) }, toks := tk }) :
    wpAny (model prog w) A (call (.type "itertools.permutations") [.ref r]) Q E s := by
  refine callType_codes (Q₁ := fun obj s₁ => s₁.TypeIs obj "itertools.permutations" ∧ Q obj s₁) called_prm (typeCall_prm _) F.entry_object_init
    (code_prm_new (A := A.in1) hh hr hsmall hn hlen fun h' tk acc hk hacc => ⟨⟨_, by rw [← Heap.size_push]; exact Heap.get?_push_size _ rfl, rfl⟩, h h' tk acc hk hacc⟩) fun obj s₁ h₁ => ?_
  exact ⟨h₁.1, F.args_object_init_2 obj _, object_init_meets called_prm.init.lookup called_prm.made (by decide) prog w A.in1 _ s₁ ⟨h₁.1, rfl, h₁.2⟩⟩
theorem iter_prm {it T : Addr} {st : Nat} {last : Value} {ns : List Nat} {Q : Value → Shared → Prop} (hit : IsPrm s.heap it T st n last ns) (h : Q (.ref it) s) : wpAny (model prog w) A (pyIter (.ref it)) Q E s := by
  have hT : s.TypeIs (.ref it) "itertools.permutations" := ⟨_, hit, rfl⟩
  refine wpAny_pyIter_slot hT slot_prm_iter (wpAny_call_entry slot_prm_iter hT entry_prm_iter ?_ (args_prm_iter _))
  show wpAny _ _ (ret (.ref it)) _ _ s
  exact wpAny_pure ⟨_, rfl, "itertools.permutations", _, hT, slot_prm_next.lookup, h⟩
end
end Prm

/-! itertools.permutations of at most three: walked -/
namespace Prm
open PySem PySem.Spec PyProof.Rows L2
open Sem (wp)
/-- the places and cycles, turn by turn -/
def tbl : Nat → List (List Nat)
  | 0 => [[]]
  | 1 => [[0, 1]]
  | 2 => [[0, 1, 2, 1], [1, 0, 1, 1]]
  | 3 => [[0, 1, 2, 3, 2, 1], [0, 2, 1, 3, 1, 1], [1, 0, 2, 2, 2, 1], [1, 2, 0, 2, 1, 1], [2, 0, 1, 1, 2, 1], [2, 1, 0, 1, 1, 1]]
  | _ => []
theorem pf_nums (T : Addr) (st n : Nat) (last : Value) (ns : List Nat) (f : Value → Nat) (hf : ∀ i : Nat, f (rawInt (i : Int)) = i) : ((pf T st n last ns).toList.drop 4).map f = ns := by
  unfold pf
  show (ns.map fun (i : Nat) => rawInt (i : Int)).map _ = ns
  rw [List.map_map]
  conv => rhs; rw [← List.map_id ns]
  apply List.map_congr_left
  intro i _
  exact hf i
section
variable {prog : Program} {w : World} {A : Around} {E : Value → Shared → Prop} {s : Shared} {it T : Addr} {n : Nat} {last : Value} {items : Array Value}
abbrev IsTp (h : Heap) (T : Addr) (items : Array Value) : Prop := h.get? T = some { cls := .type "tuple", dict := none, data := .seq items 0, slots := #[] }
/-- the fields are read -/
theorem nx_read {st : Nat} {ns : List Nat} {k : Int → List Nat → Sem PySem.Fin} {Q : PySem.Fin → Shared → Prop} {R : Value → Shared → Prop} (hit : IsPrm s.heap it T st n last ns) (hT : IsTp s.heap T items)
    (h : wpAny (model prog w) A (k st ns) Q R s) :
    wpAny (model prog w) A (do
      let numbers ← Builtin.Itertools.itNumbersFrom (.ref it) 4
      let m ← Builtin.Itertools.itIntField (.ref it) 1
      k m numbers) Q R s := by
  show wpAny _ _ (Builtin.Itertools.itNumbersFrom (.ref it) 4 >>= _) _ _ s
  unfold Builtin.Itertools.itNumbersFrom
  refine wpAny_bind (wpAny_bind (wpAny_load hit ?_))
  refine wpAny_pure ?_
  rw [pf_nums T st n last ns _ (fun i => by simp [rawInt])]
  unfold Builtin.Itertools.itIntField
  refine wpAny_bind (wpAny_bind (wpAny_field hit rfl (x := rawInt st) (by simp [pf]) (wpAny_pure ?_)))
  exact h
/-- an item is made -/
theorem nx_result {st : Nat} {ns idx : List Nat} {Q : PySem.Fin → Shared → Prop} (hit : IsPrm s.heap it T st n last ns) (hne : it ≠ s.heap.objs.size) (hl : idx.length ≤ 10)
    (h : ∀ h', IsPrm h' it T st n (.ref s.heap.objs.size) ns → IsTp h' s.heap.objs.size (idx.map fun i => items.getD i .none).toArray → (∀ b o, b ≠ it → s.heap.get? b = some o → h'.get? b = some o) → Q (.done (.ret (.ref s.heap.objs.size))) { s with heap := h' }) :
    wpAny (model prog w) A (do
      let t ← newTuple (idx.map fun i => items.getD i .none)
      let before ← field (.ref it) 3
      setField (.ref it) 3 t
      letGo [before] [t]
      ret t) Q E s := by
  refine wpAny_bind (wpAny_newTuple ?_ (by rw [List.length_map, sizeLine_eq]; omega))
  have hit1 : IsPrm (s.heap.push { cls := .type "tuple", data := .seq (idx.map fun i => items.getD i .none).toArray }) it T st n last ns := Heap.get?_push_of_some _ hit
  refine wpAny_bind (wpAny_field hit1 rfl (x := last) (by simp [pf]) ?_)
  refine wpAny_bind (wpAny_setField_rec hit1 (by simp [pf]) fun h' hit2 sb => ?_)
  refine wpAny_bind (wpAny_letGo ?_)
  refine wpAny_pure (h h' ?_ ?_ fun b o hb e => ?_)
  · have : (pf T st n last ns).setIfInBounds 3 (.ref s.heap.objs.size) = pf T st n (.ref s.heap.objs.size) ns := by simp [pf]
    rw [this] at hit2
    exact hit2
  · exact (sb.2 _ (Ne.symm hne)).trans (Heap.get?_push_size _ rfl)
  · exact (sb.2 _ hb).trans (Heap.get?_push_of_some _ e)
end
end Prm

namespace Prm
open PySem PySem.Spec PyProof.Rows L2
open Sem (wp)
section
variable {prog : Program} {w : World} {A : Around} {E : Value → Shared → Prop} {s : Shared} {it T : Addr} {n : Nat} {last : Value} {items : Array Value}
theorem nx_start {ns : List Nat} {Q : PySem.Fin → Shared → Prop} (hit : IsPrm s.heap it T 0 n last ns) (hT : IsTp s.heap T items) (hn : items.size = n) (hl : n ≤ 5) (hlt : it < s.heap.objs.size)
    (h : ∀ h', IsPrm h' it T 1 n (.ref s.heap.objs.size) ns → IsTp h' s.heap.objs.size ((ns.take n).map fun i => items.getD i .none).toArray → (∀ b o, b ≠ it → s.heap.get? b = some o → h'.get? b = some o) → Q (.done (.ret (.ref s.heap.objs.size))) { s with heap := h' }) :
    wpAny (model prog w) A (Builtin.«itertools.permutations.__next__» ⟨[.ref it], []⟩) Q E s := by
  show wpAny _ _ (field (.ref it) 0 >>= _) _ _ s
  refine wpAny_bind (wpAny_field hit rfl (x := .ref T) (by simp [pf]) ?_)
  refine wpAny_bind ?_
  unfold Builtin.Itertools.itPoolItems
  refine wpAny_bind (wpAny_seqItems hT rfl (wpAny_pure ?_))
  refine wpAny_bind ?_
  unfold Builtin.Itertools.itIntField
  refine wpAny_bind (wpAny_field hit rfl (x := rawInt n) (by simp [pf]) (wpAny_pure ?_))
  refine wpAny_bind ?_
  unfold Builtin.Itertools.itNumbersFrom
  refine wpAny_bind (wpAny_load hit ?_)
  refine wpAny_pure ?_
  rw [pf_nums T 0 n last ns _ (fun i => by simp [rawInt])]
  refine wpAny_bind (wpAny_bind (wpAny_field hit rfl (x := rawInt (0 : Nat)) (by simp [pf]) (wpAny_pure ?_)))
  have e0 : ((n : Int)).toNat = n := by simp
  rw [e0]
  show wpAny _ _ (setField (.ref it) 1 (rawInt 1) >>= fun _ => (do
            let t ← newTuple (List.map (fun i => items.getD i Value.none) (List.take n ns))
            let before ← field (Value.ref it) 3
            setField (Value.ref it) 3 t
            letGo [before] [t]
            ret t)) _ _ _
  refine wpAny_bind (wpAny_setField_rec hit (by simp [pf]) fun h1 hit1 sb => ?_)
  have hit1' : IsPrm h1 it T 1 n last ns := by
    have : (pf T 0 n last ns).setIfInBounds 1 (rawInt 1) = pf T 1 n last ns := by simp [pf]
    rw [this] at hit1
    exact hit1
  have hsz : h1.objs.size = s.heap.objs.size := sb.1
  refine nx_result (s := { s with heap := h1 }) hit1' (by show it ≠ h1.objs.size; rw [hsz]; exact Nat.ne_of_lt hlt) (by rw [List.length_take]; omega) fun h' a b k => ?_
  rw [show ({ s with heap := h1 } : Shared).heap.objs.size = s.heap.objs.size from hsz] at a b ⊢
  exact h h' a b fun c o hc e => k c o hc ((sb.2 c hc).trans e)
/-- from one order to the next -/
def nexts : List (Nat × List Nat × List Nat) := [(2, [0, 1, 2, 1], [1, 0, 1, 1]), (3, [0, 1, 2, 3, 2, 1], [0, 2, 1, 3, 1, 1]), (3, [0, 2, 1, 3, 1, 1], [1, 0, 2, 2, 2, 1]), (3, [1, 0, 2, 2, 2, 1], [1, 2, 0, 2, 1, 1]), (3, [1, 2, 0, 2, 1, 1], [2, 0, 1, 1, 2, 1]), (3, [2, 0, 1, 1, 2, 1], [2, 1, 0, 1, 1, 1])]
theorem nx_put {ns ns' : List Nat} {Q : PySem.Fin → Shared → Prop} (hit : IsPrm s.heap it T 1 n last ns) (hl : n ≤ 5) (hlt : it < s.heap.objs.size) (hns : ns'.length ≤ 20)
    (h : ∀ h', IsPrm h' it T 1 n (.ref s.heap.objs.size) ns' → IsTp h' s.heap.objs.size ((ns'.take n).map fun i => items.getD i .none).toArray → (∀ b o, b ≠ it → s.heap.get? b = some o → h'.get? b = some o) → Q (.done (.ret (.ref s.heap.objs.size))) { s with heap := h' }) :
    wpAny (model prog w) A (Builtin.Itertools.itSetNumbersFrom (.ref it) 4 ns' >>= fun _ => (do
            let t ← newTuple (List.map (fun i => items.getD i Value.none) (List.take n ns'))
            let before ← field (Value.ref it) 3
            setField (Value.ref it) 3 t
            letGo [before] [t]
            ret t)) Q E s := by
  refine wpAny_bind ?_
  unfold Builtin.Itertools.itSetNumbersFrom
  refine wpAny_updateFields hit rfl ?_ (by
    show ((pf T 1 n last ns).extract 0 4 ++ (ns'.map fun (n : Nat) => rawInt n).toArray).size ≤ sizeLine + 3
    have : ((pf T 1 n last ns).extract 0 4 ++ (ns'.map fun (n : Nat) => rawInt n).toArray).size ≤ 24 := by
      simp [pf]; omega
    rw [sizeLine_eq]; omega)
  have sb : Heap.SameBut it s.heap (s.heap.update it (Obj.mapFields fun fs => fs.extract 0 4 ++ (ns'.map fun (n : Nat) => rawInt n).toArray)) := Heap.SameBut.update ..
  have hit1 : IsPrm (s.heap.update it (Obj.mapFields fun fs => fs.extract 0 4 ++ (ns'.map fun (n : Nat) => rawInt n).toArray)) it T 1 n last ns' := by
    have q := Heap.get?_update_self (Obj.mapFields fun fs => fs.extract 0 4 ++ (ns'.map fun (n : Nat) => rawInt n).toArray) hit rfl
    have e : (pf T 1 n last ns).extract 0 4 ++ (ns'.map fun (n : Nat) => rawInt n).toArray = pf T 1 n last ns' := by
      unfold pf
      simp
    have q' : (s.heap.update it (Obj.mapFields fun fs => fs.extract 0 4 ++ (ns'.map fun (n : Nat) => rawInt n).toArray)).get? it = some { cls := .type "itertools.permutations", dict := none, data := .fields ((pf T 1 n last ns).extract 0 4 ++ (ns'.map fun (n : Nat) => rawInt n).toArray), slots := #[] } := q
    rw [e] at q'
    exact q'
  have hsz := sb.1
  refine nx_result (s := { s with heap := s.heap.update it (Obj.mapFields fun fs => fs.extract 0 4 ++ (ns'.map fun (n : Nat) => rawInt n).toArray) }) hit1 (by
    show it ≠ (s.heap.update it (Obj.mapFields fun fs => fs.extract 0 4 ++ (ns'.map fun (n : Nat) => rawInt n).toArray)).objs.size
    rw [hsz]; exact Nat.ne_of_lt hlt) (by rw [List.length_take]; omega) fun h' a b k => ?_
  rw [show ({ s with heap := s.heap.update it (Obj.mapFields fun fs => fs.extract 0 4 ++ (ns'.map fun (n : Nat) => rawInt n).toArray) } : Shared).heap.objs.size = s.heap.objs.size from hsz] at a b ⊢
  exact h h' a b fun c o hc e => k c o hc ((sb.2 c hc).trans e)
theorem nx_step {ns ns' : List Nat} {Q : PySem.Fin → Shared → Prop} (hit : IsPrm s.heap it T 1 n last ns) (hT : IsTp s.heap T items) (hn : items.size = n) (hm : (n, ns, ns') ∈ nexts) (hlt : it < s.heap.objs.size)
    (h : ∀ h', IsPrm h' it T 1 n (.ref s.heap.objs.size) ns' → IsTp h' s.heap.objs.size ((ns'.take n).map fun i => items.getD i .none).toArray → (∀ b o, b ≠ it → s.heap.get? b = some o → h'.get? b = some o) → Q (.done (.ret (.ref s.heap.objs.size))) { s with heap := h' }) :
    wpAny (model prog w) A (Builtin.«itertools.permutations.__next__» ⟨[.ref it], []⟩) Q E s := by
  show wpAny _ _ (field (.ref it) 0 >>= _) _ _ s
  refine wpAny_bind (wpAny_field hit rfl (x := .ref T) (by simp [pf]) ?_)
  refine wpAny_bind ?_
  unfold Builtin.Itertools.itPoolItems
  refine wpAny_bind (wpAny_seqItems hT rfl (wpAny_pure ?_))
  refine wpAny_bind ?_
  unfold Builtin.Itertools.itIntField
  refine wpAny_bind (wpAny_field hit rfl (x := rawInt n) (by simp [pf]) (wpAny_pure ?_))
  refine wpAny_bind ?_
  unfold Builtin.Itertools.itNumbersFrom
  refine wpAny_bind (wpAny_load hit ?_)
  refine wpAny_pure ?_
  rw [pf_nums T 1 n last ns _ (fun i => by simp [rawInt])]
  refine wpAny_bind (wpAny_bind (wpAny_field hit rfl (x := rawInt (1 : Nat)) (by simp [pf]) (wpAny_pure ?_)))
  rw [hn]
  unfold nexts at hm
  simp only [List.mem_cons, List.not_mem_nil, or_false, Prod.mk.injEq] at hm
  rcases hm with ⟨rfl, rfl, rfl⟩ | ⟨rfl, rfl, rfl⟩ | ⟨rfl, rfl, rfl⟩ | ⟨rfl, rfl, rfl⟩ | ⟨rfl, rfl, rfl⟩ | ⟨rfl, rfl, rfl⟩ <;>
    exact nx_put (items := items) hit (by decide) hlt (by decide) h
end
end Prm

namespace Prm
open PySem PySem.Spec PyProof.Rows L2
open Sem (wp)
section
variable {prog : Program} {w : World} {A : Around} {E : Value → Shared → Prop} {s : Shared} {it T : Addr} {n : Nat} {last : Value} {items : Array Value}
def ends : List (Nat × List Nat) := [(0, []), (1, [0, 1]), (2, [1, 0, 1, 1]), (3, [2, 1, 0, 1, 1, 1])]
theorem nx_stop {ns : List Nat} {Q : PySem.Fin → Shared → Prop} (hh : A.handled = none) (hit : IsPrm s.heap it T 1 n last ns)
    (h : ∀ (e : Addr) h', (∃ o, h'.get? e = some o ∧ o.cls = .type "StopIteration") → (∀ b o, b ≠ it → s.heap.get? b = some o → h'.get? b = some o) → E (.ref e) { s with heap := h' }) :
    wpAny (model prog w) A (setField (.ref it) 1 (rawInt 2) >>= fun _ => (Builtin.Itertools.itStop : Sem PySem.Fin)) Q E s := by
  refine wpAny_bind (wpAny_setField_rec hit (by simp [pf]) fun h1 hit1 sb => ?_)
  show wpAny _ _ (newExc (.type "StopIteration") [] >>= _) _ _ _
  refine wpAny_bind ?_
  simp only [newExc, newTuple]
  refine wpAny_bind (wpAny_newObj_type ?_ (by size_fits))
  refine wpAny_bind (m := firstArgMember _ _) (wpAny_of_eq (a := Value.none) (by first | rfl | (simp only [firstArgMember]; rfl)) ?_)
  refine wpAny_newObj_type ?_ (by size_fits)
  simp only [raiseNew]
  refine wpAny_bind (wpAny_handled ?_)
  first | rw [show A.in1.handled = none from hh] | rw [hh]
  refine wpAny_bind (wpAny_pure (wpAny_throw ?_))
  exact h _ _ ⟨_, Heap.get?_push_size _ rfl, rfl⟩ fun b o hb e => Heap.get?_push_of_some _ (Heap.get?_push_of_some _ ((sb.2 b hb).trans e))
theorem nx_end {ns : List Nat} {Q : PySem.Fin → Shared → Prop} (hh : A.handled = none) (hit : IsPrm s.heap it T 1 n last ns) (hT : IsTp s.heap T items) (hn : items.size = n) (hm : (n, ns) ∈ ends)
    (h : ∀ (e : Addr) h', (∃ o, h'.get? e = some o ∧ o.cls = .type "StopIteration") → (∀ b o, b ≠ it → s.heap.get? b = some o → h'.get? b = some o) → E (.ref e) { s with heap := h' }) :
    wpAny (model prog w) A (Builtin.«itertools.permutations.__next__» ⟨[.ref it], []⟩) Q E s := by
  show wpAny _ _ (field (.ref it) 0 >>= _) _ _ s
  refine wpAny_bind (wpAny_field hit rfl (x := .ref T) (by simp [pf]) ?_)
  refine wpAny_bind ?_
  unfold Builtin.Itertools.itPoolItems
  refine wpAny_bind (wpAny_seqItems hT rfl (wpAny_pure ?_))
  refine wpAny_bind ?_
  unfold Builtin.Itertools.itIntField
  refine wpAny_bind (wpAny_field hit rfl (x := rawInt n) (by simp [pf]) (wpAny_pure ?_))
  refine wpAny_bind ?_
  unfold Builtin.Itertools.itNumbersFrom
  refine wpAny_bind (wpAny_load hit ?_)
  refine wpAny_pure ?_
  rw [pf_nums T 1 n last ns _ (fun i => by simp [rawInt])]
  refine wpAny_bind (wpAny_bind (wpAny_field hit rfl (x := rawInt (1 : Nat)) (by simp [pf]) (wpAny_pure ?_)))
  rw [hn]
  unfold ends at hm
  simp only [List.mem_cons, List.not_mem_nil, or_false, Prod.mk.injEq] at hm
  rcases hm with ⟨rfl, rfl⟩ | ⟨rfl, rfl⟩ | ⟨rfl, rfl⟩ | ⟨rfl, rfl⟩ <;> exact nx_stop hh hit h
/-! the iterator's next -/
theorem py_item {Q : Option Value → Shared → Prop} (hit : ∃ st last ns, IsPrm s.heap it T st n last ns) (hg : wpAny (model prog w) A.in1 (Builtin.«itertools.permutations.__next__» ⟨[.ref it], []⟩) (fun fin s' => ∃ v, fin = .done (.ret v) ∧ Q (some v) s') (fun _ _ => False) s) :
    wpAny (model prog w) A (pyNext (.ref it)) Q E s := by
  obtain ⟨st, last, ns, hit⟩ := hit
  have hT : s.TypeIs (.ref it) "itertools.permutations" := ⟨_, hit, rfl⟩
  unfold pyNext
  refine wpAny_bind (wpAny_attempt (wpAny_callSpecial?_slot (name := Str.ofString "__next__") hT slot_prm_next (wpAny_call_entry slot_prm_next hT entry_prm_next ?_ (args_prm_next _))))
  refine wpAny_mono hg (fun fin s' h => ?_) (fun e s' h => h.elim)
  obtain ⟨v, rfl, q⟩ := h
  exact ⟨v, rfl, wpAny_pure q⟩
theorem py_end {ns : List Nat} {Q : Option Value → Shared → Prop} (hh : A.handled = none) (hit : IsPrm s.heap it T 1 n last ns) (hT : IsTp s.heap T items) (hn : items.size = n) (hm : (n, ns) ∈ ends)
    (h : ∀ h', (∀ b o, b ≠ it → s.heap.get? b = some o → h'.get? b = some o) → Q none { s with heap := h' }) : wpAny (model prog w) A (pyNext (.ref it)) Q E s := by
  have hTI : s.TypeIs (.ref it) "itertools.permutations" := ⟨_, hit, rfl⟩
  unfold pyNext
  refine wpAny_bind (wpAny_attempt (wpAny_callSpecial?_slot (name := Str.ofString "__next__") hTI slot_prm_next (wpAny_call_entry slot_prm_next hTI entry_prm_next ?_ (args_prm_next _))))
  refine nx_end (A := A.in1) hh hit hT hn hm fun e h' hx k => ?_
  obtain ⟨o, ho, hc⟩ := hx
  refine wpAny_bind (wpAny_isInstance (T := "StopIteration") (b := true) ⟨o, ho, hc⟩ isSubtype_stop ?_)
  exact wpAny_pure (h _ k)
end
end Prm

/-! for order in permutations(range(n)), n at most three -/
namespace Prm
open PySem PySem.Spec PyProof.Rows L2
open Sem (wp)
theorem tbl_size (n : Nat) (i : Nat) (hi : i < (tbl n).length) : n ≤ 3 := by
  match n with
  | 0 | 1 | 2 | 3 => decide
  | n + 4 => exact absurd hi (Nat.not_lt_zero _)
theorem tbl_first (n : Nat) (hn : n ≤ 3) : (tbl n)[0]? = some (List.range n ++ (List.range n).map fun i => n - i) := by
  match n, hn with
  | 0, _ | 1, _ | 2, _ | 3, _ => decide
theorem tbl_next (n i : Nat) (ns ns' : List Nat) (h : (tbl n)[i]? = some ns) (h' : (tbl n)[i + 1]? = some ns') : (n, ns, ns') ∈ nexts := by
  have hi : i + 1 < (tbl n).length := (List.getElem?_eq_some_iff.mp h').1
  have hn := tbl_size n _ hi
  match n, hn, i, hi with
  | 2, _, 0, _ | 3, _, 0, _ | 3, _, 1, _ | 3, _, 2, _ | 3, _, 3, _ | 3, _, 4, _ => (have a := Option.some.inj h; have b := Option.some.inj h'; subst a; subst b; decide)
theorem tbl_last (n : Nat) (i : Nat) (ns : List Nat) (h : (tbl n)[i]? = some ns) (hl : (tbl n).length ≤ i + 1) : (n, ns) ∈ ends := by
  have hi : i < (tbl n).length := (List.getElem?_eq_some_iff.mp h).1
  have hn := tbl_size n _ hi
  match n, hn, i, hi, hl with
  | 0, _, 0, _, _ | 1, _, 0, _, _ | 2, _, 1, _, _ | 3, _, 5, _, _ => (have a := Option.some.inj h; subst a; decide)
theorem tbl_take (n i : Nat) (ns : List Nat) (h : (tbl n)[i]? = some ns) : ∀ k ∈ ns.take n, k < n := by
  have hi : i < (tbl n).length := (List.getElem?_eq_some_iff.mp h).1
  have hn := tbl_size n _ hi
  match n, hn, i, hi with
  | 0, _, 0, _ | 1, _, 0, _ | 2, _, 0, _ | 2, _, 1, _ | 3, _, 0, _ | 3, _, 1, _ | 3, _, 2, _ | 3, _, 3, _ | 3, _, 4, _ | 3, _, 5, _ => (have a := Option.some.inj h; subst a; decide)
theorem tbl_take_len (n i : Nat) (ns : List Nat) (h : (tbl n)[i]? = some ns) : (ns.take n).length = n := by
  have hi : i < (tbl n).length := (List.getElem?_eq_some_iff.mp h).1
  have hn := tbl_size n _ hi
  match n, hn, i, hi with
  | 0, _, 0, _ | 1, _, 0, _ | 2, _, 0, _ | 2, _, 1, _ | 3, _, 0, _ | 3, _, 1, _ | 3, _, 2, _ | 3, _, 3, _ | 3, _, 4, _ | 3, _, 5, _ => (have a := Option.some.inj h; subst a; decide)
/-- the orders -/
def orders (n : Nat) : List (List Nat) := (tbl n).map (·.take n)
/-- how the iterator stands ahead of turn i -/
def Stn (it T : Addr) (n : Nat) (items : Array Value) (i : Nat) (h : Heap) : Prop :=
  (∃ last, match i with
    | 0 => IsPrm h it T 0 n last (List.range n ++ (List.range n).map fun i => n - i)
    | j + 1 => ∃ ns, (tbl n)[j]? = some ns ∧ IsPrm h it T 1 n last ns) ∧ IsTp h T items ∧ it ≠ T
section
variable {prog : Program} {w : World} {A : Around} {E : Value → Shared → Prop} {s : Shared} {it T : Addr} {n i : Nat} {items : Array Value}
theorem Stn.rec_ {h : Heap} (st : Stn it T n items i h) : ∃ k last ns, IsPrm h it T k n last ns := by
  obtain ⟨⟨last, q⟩, _⟩ := st
  cases i with
  | zero => exact ⟨_, _, _, q⟩
  | succ j => obtain ⟨ns, _, q⟩ := q; exact ⟨_, _, _, q⟩
theorem Stn.keep {h h' : Heap} (st : Stn it T n items i h) (k : ∀ b ∈ [it, T], ∀ o, h.get? b = some o → h'.get? b = some o) : Stn it T n items i h' := by
  obtain ⟨⟨last, q⟩, t, d⟩ := st
  refine ⟨⟨last, ?_⟩, k T (by simp) _ t, d⟩
  cases i with
  | zero => exact k it (by simp) _ q
  | succ j => obtain ⟨ns, e, q⟩ := q; exact ⟨ns, e, k it (by simp) _ q⟩
theorem st_item {Q : Option Value → Shared → Prop} {ns : List Nat} (st : Stn it T n items i s.heap) (hn : items.size = n) (hi : (tbl n)[i]? = some ns)
    (h : ∀ h', Stn it T n items (i + 1) h' → IsTp h' s.heap.objs.size ((ns.take n).map fun i => items.getD i .none).toArray → (∀ b o, b ≠ it → s.heap.get? b = some o → h'.get? b = some o) → Q (some (.ref s.heap.objs.size)) { s with heap := h' }) :
    wpAny (model prog w) A (pyNext (.ref it)) Q E s := by
  refine py_item st.rec_ ?_
  obtain ⟨⟨last, q⟩, t, d⟩ := st
  have h3 := tbl_size n i (List.getElem?_eq_some_iff.mp hi).1
  cases i with
  | zero =>
    have e0 : ns = _ := Option.some.inj (hi.symm.trans (tbl_first n h3))
    refine nx_start q t hn (by omega) (Heap.lt_size q) fun h' a b k => ⟨_, rfl, h h' ⟨⟨_, ns, hi, by rw [e0]; exact a⟩, k _ _ (Ne.symm d) t, d⟩ (by rw [e0]; exact b) k⟩
  | succ j =>
    obtain ⟨ns0, e, q⟩ := q
    refine nx_step (ns' := ns) q t hn (tbl_next n j ns0 ns e hi) (Heap.lt_size q) fun h' a b k => ⟨_, rfl, h h' ⟨⟨_, ns, hi, a⟩, k _ _ (Ne.symm d) t, d⟩ b k⟩
theorem st_end {Q : Option Value → Shared → Prop} (hh : A.handled = none) (st : Stn it T n items i s.heap) (h3 : n ≤ 3) (hn : items.size = n) (hi : (tbl n).length ≤ i)
    (h : ∀ h', (∀ b o, b ≠ it → s.heap.get? b = some o → h'.get? b = some o) → Q none { s with heap := h' }) : wpAny (model prog w) A (pyNext (.ref it)) Q E s := by
  obtain ⟨⟨last, q⟩, t, d⟩ := st
  cases i with
  | zero => exact absurd (List.getElem?_eq_some_iff.mp (tbl_first n h3)).1 (by omega)
  | succ j =>
    obtain ⟨ns0, e, q⟩ := q
    exact py_end hh q t hn (tbl_last n j ns0 e hi) h
end
/-- the orders of 0 .. n - 1, each in a new tuple -/
def Itp (n : Nat) : It := ⟨fun i _ => i < (tbl n).length, fun i H v H' => ∃ a ns, v = .ref a ∧ H a = none ∧ (tbl n)[i]? = some ns ∧ H' = upd H a (.tup ((ns.take n).map fun (k : Nat) => .int k)), fun i _ => (tbl n).length ≤ i⟩
theorem items_at {items : Array Value} {n : Nat} (h : ItemsOf (fun i v => ∃ t, v = .int (0 + i * 1) t) items n) (k : Nat) (hk : k < n) : ∃ t, items.getD k .none = .int k t := by
  obtain ⟨hs, q⟩ := h
  have hlt : k < items.size := by rw [hs]; exact hk
  have hx := Array.getElem?_eq_getElem hlt
  obtain ⟨t, e⟩ := q k _ hx
  have e1 : (0 : Int) + (k : Int) * 1 = k := by omega
  rw [e1] at e
  refine ⟨t, ?_⟩
  rw [Array.getD_eq_getD_getElem?, hx, Option.getD_some, e]
theorem items_vals {items : Array Value} {n : Nat} (h : ItemsOf (fun i v => ∃ t, v = .int (0 + i * 1) t) items n) : ∀ (l : List Nat), (∀ k ∈ l, k < n) → Vals (l.map fun (k : Nat) => V.int k) (l.map fun i => items.getD i .none)
  | [], _ => .nil
  | k :: l, hl => by
    obtain ⟨t, e⟩ := items_at h k (hl k (by simp))
    exact .cons ⟨t, e⟩ (items_vals h l fun j hj => hl j (by simp [hj]))
theorem turn_prm {P : Program} {w : World} {K : PySem.W.Frag} {tg : Expr} {items : Array Value} (it T : Addr) (n : Nat) (h3 : n ≤ 3) (h : ItemsOf (fun i v => ∃ t, v = .int (0 + i * 1) t) items n) :
    Turn P w K tg (Itp n) [it, T] it (Stn it T n items) where
  mem := by simp
  obj := fun i h st b hb => by
    obtain ⟨k, last, ns, q⟩ := st.rec_
    obtain ⟨_, t, _⟩ := st
    have e : b = it ∨ b = T := by simpa using hb
    rcases e with z | z
    · rw [z]; exact ⟨_, q, fun v e => nomatch e⟩
    · rw [z]; exact ⟨_, t, fun v e => nomatch e⟩
  keep := fun i h h' st k => st.keep k
  item := by
    intro X hP hw hK hc i pins s σ H E I hf st hg
    subst hP hw hK
    have hi := List.getElem?_eq_getElem hg
    refine st_item st h.1 hi fun h' st' hT k => ?_
    have hsz : ((tbl n)[i].take n).length = n := tbl_take_len n i _ hi
    have new : ObjOk X.prog X.w (upd H s.heap.objs.size (.tup (((tbl n)[i].take n).map fun (k : Nat) => .int k))) h' s.heap.objs.size (.tup (((tbl n)[i].take n).map fun (k : Nat) => .int k)) :=
      ⟨by show ((((tbl n)[i].take n).map fun (k : Nat) => V.int k)).length ≤ sizeLine; rw [List.length_map, hsz, sizeLine_eq]; omega, _, items_vals h _ (tbl_take n i _ hi), ⟨_, hT, rfl, _, rfl⟩⟩
    have I1 : Inv X pins σ (upd H s.heap.objs.size (.tup (((tbl n)[i].take n).map fun (k : Nat) => .int k))) { s with heap := h' } :=
      I.turnedNew (t' := s.toks) (ch := [it, T]) (fun b ob hb q => k b ob (fun z => hb (by simp [z])) q) hf (Nat.le_refl _) new
    obtain ⟨k1, l1, n1, r1⟩ := st'.rec_
    refine ⟨_, rfl, go_of (s := { s with heap := h' }) r1 rfl rfl (by decide) ⟨.ref s.heap.objs.size, _, I1, rfl, ⟨_, _, rfl, I.hok.fresh (Nat.le_refl _), hi, rfl⟩, st', fun b hb => ?_⟩⟩
    have hb' : b < s.heap.objs.size := by
      obtain ⟨_, _, _, r0⟩ := st.rec_
      obtain ⟨_, t, _⟩ := st
      have e' : b = it ∨ b = T := by simpa using hb
      rcases e' with z | z
      · rw [z]; exact Heap.lt_size r0
      · rw [z]; exact Heap.lt_size t
    rw [upd_ne (Nat.ne_of_lt hb')]
    exact (hf b hb).1
  done := by
    intro X hP hw hK hc i pins s σ H E I hf st hg
    subst hP hw hK
    exact st_end (I.ok.hd hc) st h3 h.1 hg fun h' k => ⟨rfl, I.turnedL (t' := s.toks) (ch := [it, T]) (fun b o hb q => k b o (fun z => hb (by simp [z])) q) hf⟩
  self := fun A i s Q E st h => let ⟨_, _, _, q⟩ := st.rec_; iter_prm q h
def iPrm (tr : L2.St → Hp → (Int → Int → Hp → Prop) → Prop) : TI := fun σ H R => tr σ H fun a b H1 => a = 0 ∧ 0 ≤ b ∧ b ≤ 3 ∧ R (Itp b.toNat) H1
theorem pi_prm {X : Cx} {tg e : Expr} {tr : L2.St → Hp → (Int → Int → Hp → Prop) → Prop} {p pos : Pos} (hg : Gl X "permutations") (hm : X.mg "permutations" = some (.type "itertools.permutations")) (hc : X.calm = true) (hr : PRg X e tr) (hs : starEach [e] X.env = (false, eval e X.env) :: starEach [] X.env := by rfl) :
    PI X tg (.Call (.Name "permutations" p) [e] [] pos) (iPrm tr) := by
  refine ⟨fun pins s σ H R I h => ?_⟩
  refine Call_ (ld_glob I hg hm (callWith_type1 (args_cons (thn (hr pins s σ H _ I h) fun v s1 q1 => ?_) hs) hs))
  obtain ⟨r, a, b, t, u, v', H1, rfl, hr1, I1, ha, hb, hb3, q⟩ := q1
  subst ha
  refine args_nil ?_
  have hsm : Builtin.Range.small 0 b 1 = true ∧ Builtin.Range.rangeSize 0 b 1 = (b.toNat : Nat) := by
    match b, hb, hb3 with
    | .ofNat 0, _, _ | .ofNat 1, _, _ | .ofNat 2, _, _ | .ofNat 3, _, _ => decide
    | .ofNat (n + 4), _, hb3 => exact absurd hb3 (by have : (Int.ofNat (n + 4) : Int) = n + 4 := rfl; omega)
  have h3 : b.toNat ≤ 3 := by omega
  refine call_prm (I1.ok.hd hc) hr1 hsm.1 hsm.2 (by omega) fun h' tk acc hk hacc => ?_
  have hT : ((h'.push { cls := .type "tuple", data := .seq acc }).push { cls := .type "itertools.permutations", data := .fields (pf h'.objs.size 0 b.toNat .none (List.range b.toNat ++ (List.range b.toNat).map fun i => b.toNat - i)) }).get? h'.objs.size = some { cls := .type "tuple", dict := none, data := .seq acc 0, slots := #[] } :=
    Heap.get?_push_of_some _ (Heap.get?_push_size _ rfl)
  have hI : IsPrm ((h'.push { cls := .type "tuple", data := .seq acc }).push { cls := .type "itertools.permutations", data := .fields (pf h'.objs.size 0 b.toNat .none (List.range b.toNat ++ (List.range b.toNat).map fun i => b.toNat - i)) }) (h'.objs.size + 1) h'.objs.size 0 b.toNat .none (List.range b.toNat ++ (List.range b.toNat).map fun i => b.toNat - i) :=
    by rw [← Heap.size_push (h := h') (o := { cls := .type "tuple", data := .seq acc })]; exact Heap.get?_push_size _ rfl
  have kk : ∀ b' o, s1.heap.get? b' = some o → ((h'.push { cls := .type "tuple", data := .seq acc }).push { cls := .type "itertools.permutations", data := .fields (pf h'.objs.size 0 b.toNat .none (List.range b.toNat ++ (List.range b.toNat).map fun i => b.toNat - i)) }).get? b' = some o :=
    fun b' o e => Heap.get?_push_of_some _ (Heap.get?_push_of_some _ (hk b' o e))
  have I2 : Inv X pins σ H1 { s1 with heap := (h'.push { cls := .type "tuple", data := .seq acc }).push { cls := .type "itertools.permutations", data := .fields (pf h'.objs.size 0 b.toNat .none (List.range b.toNat ++ (List.range b.toNat).map fun i => b.toNat - i)) }, toks := tk } := I1.kept (t' := tk) kk
  have I0 : Inv X pins σ H1 { s1 with heap := h' } := I1.kept (t' := s1.toks) hk
  refine iter_prm (s := { s1 with heap := (h'.push { cls := .type "tuple", data := .seq acc }).push { cls := .type "itertools.permutations", data := .fields (pf h'.objs.size 0 b.toNat .none (List.range b.toNat ++ (List.range b.toNat).map fun i => b.toNat - i)) }, toks := tk }) hI ?_
  refine ⟨h'.objs.size + 1, [h'.objs.size + 1, h'.objs.size], _, _, H1, rfl, I2, turn_prm (h'.objs.size + 1) h'.objs.size b.toNat h3 hacc, ⟨⟨_, hI⟩, hT, Nat.succ_ne_self _⟩, fun c hc' => ?_, q⟩
  have e' : c = h'.objs.size + 1 ∨ c = h'.objs.size := by simpa using hc'
  have hle2 : h'.objs.size ≤ c := by
    rcases e' with z | z <;> (rw [z]; omega)
  exact I0.fpOk hle2 (I0.hok.fresh hle2)
end Prm

namespace Pu
open PySem PySem.Spec PyProof.Rows L2 Prm
/-! ### for order in permutations(range(n)), as what is walked -/
def ordD (n : Nat) : List D := (orders n).map fun l => .tup (l.map fun (k : Nat) => .int k)
def asP : D → Res (List D)
  | .int j => if (decide (0 ≤ j) && decide (j ≤ 3)) = true then .ok (ordD j.toNat) else .stuck
  | _ => .stuck
def iP (a : Ev) : Av := fun ρ => (a ρ).bind asP
section
variable {c : Cc} {X : Cx} {e a tg : Expr} {ea : Ev} {pos p p2 pos2 : Pos}
theorem vints_reps {K : Kc} {F : Hp} : ∀ l : List Nat, Reps K F (l.map fun (k : Nat) => V.int k) (l.map fun (k : Nat) => D.int k)
  | [] => .nil
  | k :: l => .cons (.int _) (vints_reps l)
theorem si_prm (hg : Gl X "permutations") (hm : X.mg "permutations" = some (.type "itertools.permutations")) (hc : X.calm = true) (hg2 : Gl X "range") (hm2 : X.mg "range" = none) (ha : SE c X a ea)
    (hs2 : starEach [a] X.env = (false, eval a X.env) :: starEach [] X.env := by rfl) (hs : starEach [Expr.Call (.Name "range" p2) [a] [] pos2] X.env = (false, eval (.Call (.Name "range" p2) [a] [] pos2) X.env) :: starEach [] X.env := by rfl) :
    SI c X tg (.Call (.Name "permutations" p) [.Call (.Name "range" p2) [a] [] pos2] [] pos) (iP ea) := by
  refine ⟨pi_imp (pi_prm hg hm hc (prg_1 hg2 hm2 ha.pe hs2) hs) fun σ H R ⟨F, ρ, rl, q⟩ => ⟨F, ρ, rl, ?_⟩⟩
  unfold iP at q
  cases z : ea ρ with
  | ok d =>
    rw [z] at q
    intro v H1 F1 g rp
    have q' : match asP d with | .ok ds => ∀ J H1 F1, Grow F H F1 H1 → Walk J ds.length (Same F1) (fun i H x H' => ∀ F, Same F1 F → Same F H → ∃ F' d, Grow F H F' H' ∧ ds[i]? = some d ∧ Rep (X.kc c) F' x d) → R J H1 | .exc C fs => ExcW (X.kc c) c C fs | .stuck => False := q
    unfold asP at q'
    split at q'
    · rename_i ds' e
      split at e
      · rename_i j
        split at e
        · rename_i hj
          cases e
          cases rp
          simp only [Bool.and_eq_true, decide_eq_true_eq] at hj
          refine ⟨j, rfl, rfl, hj.1, hj.2, q' _ H1 F1 g ?_⟩
          have hlen : (ordD j.toNat).length = (tbl j.toNat).length := by unfold ordD orders; rw [List.length_map, List.length_map]
          rw [hlen]
          refine ⟨fun i H2 hi s => hi, fun H2 s => Nat.le_refl _, fun i H2 x H3 hi s y F2 s2 s3 => ?_⟩
          obtain ⟨T, ns, rfl, n, hns, rfl⟩ := y
          refine ⟨_, .tup ((ns.take j.toNat).map fun (k : Nat) => .int k), Grow.laid s3 n, ?_, .tup (.inl (.inl upd_same)) (vints_reps _)⟩
          unfold ordD orders
          rw [List.map_map, List.getElem?_map, hns]
          rfl
        · cases e
      · cases e
    · rename_i e
      split at e
      · split at e <;> cases e
      · cases e
    · exact q'.elim
  | exc C fs => rw [z] at q; exact q
  | stuck => rw [z] at q; exact q.elim
end
end Pu

namespace Pu
open PySem PySem.Spec PyProof.Rows L2
/-! list * int; x = [.. for ..] as a cell; for x in (what changes cells) -/
def lRep (a b : Ev) : Av := fun ρ => (a ρ).bind fun x => (b ρ).bind fun y => match x, y with
  | .lst ds, .int k => if (decide (-1000000 ≤ k) && decide (k ≤ 1000000) && decide (ds.length * k.toNat ≤ 1000000)) = true then .ok (List.replicate k.toNat ds).flatten else .stuck
  | _, _ => .stuck
def opNotB : D → Option D
  | .bl b => some (.bl (!b))
  | _ => none
def sForX (xv : Xv) (g : Gv) (s : Sv) : Sv := fun ρ => Out.ofX (xv ρ) fun t ρ' => match t with
  | .val (.lst ds) => forS g s ds ρ'
  | _ => .stuck
section
variable {c : Cc} {X : Cx} {e a b d tg iter elt : Expr} {ifs : List Expr} {scope : Scope} {es : List Expr} {ea eb ed ev : Ev} {av : Av} {lv : Av} {tt : Tv} {xv : Xv} {pos p p2 py spos apos : Pos} {x y : Str} {bd : List Stmt} {s : Sv} {g : Gv} {ix : List Nat} {it : Av} {own : List (Str × Nat)} {i n : Nat}
theorem reps_rep {K : Kc} {F : Hp} {vs : List V} {ds : List D} (h : Reps K F vs ds) : ∀ k : Nat, Reps K F (List.replicate k vs).flatten (List.replicate k ds).flatten
  | 0 => .nil
  | k + 1 => by rw [List.replicate_succ, List.replicate_succ, List.flatten_cons, List.flatten_cons]; exact h.append (reps_rep h k)
theorem flat_len {α : Type} (vs : List α) : ∀ k : Nat, (List.replicate k vs).flatten.length = vs.length * k
  | 0 => by simp
  | k + 1 => by rw [List.replicate_succ, List.flatten_cons, List.length_append, flat_len vs k, Nat.mul_succ, Nat.add_comm]
theorem sn_rep (ha : SB c X a ea) (hb : SB c X b eb) : SN c X (.BinOp a .Mult b pos) (lRep ea eb) := by
  refine ⟨pe_imp (pe_op op_rep ha.pe hb.pe) fun σ H Q ⟨F, ρ, r, q⟩ => ?_⟩
  refine tN_bind r q fun v dv H1 F1 g r1 rp q1 => ?_
  refine tN_bind r1 q1 fun w dw H2 F2 g2 r2 rw' q2 => ?_
  split at q2
  · rename_i ds k
    obtain ⟨a1, vs, rfl, h1, h2⟩ := rp.lst r1.le
    have ew : w = .int k := by
      rcases rw' with z | ⟨_, _, _, _, z, _⟩
      · cases z; rfl
      · cases z
    subst ew
    split at q2
    · rename_i hz
      simp only [Bool.and_eq_true, decide_eq_true_eq] at hz
      have hz' : vs.length * k.toNat ≤ sizeLine := by rw [h2.length, sizeLine_eq]; have := hz.2; omega
      exact ⟨a1, k, vs, rfl, rfl, g2.h _ _ h1, by have := hz.1.1; omega, by have := hz.1.2; omega, hz', fun p' n => q2 p' _ H2 F2 r2.refl n (reps_rep (h2.mono g2.f) _) (by rw [flat_len]; exact hz')⟩
    · exact q2.elim
  · exact q2.elim
theorem se_chain {op op' : CmpOp} {r r' : R2} {g g' : D → D → Option D} (ho : OpR X (compareOp op) r) (ho' : OpR X (compareOp op') r') (l : Lift2 (X.kc c) r g) (l' : Lift2 (X.kc c) r' g') (ha : SB c X a ea) (hb : SB c X b eb) (hd : SB c X d ed)
    (hm : lastMarks [op, op'] [b, d] = false := by with_unfolding_all rfl) : SE c X (.Compare a [op, op'] [b, d] pos) (eCh g g' ea eb ed) :=
  ⟨pe_imp (pe_chain ho ho' ha.pe hb.pe hd.pe hm) fun σ H Q h => tChain_of l l' h⟩
theorem se_lele (ha : SB c X a ea) (hb : SB c X b eb) (hd : SB c X d ed) (hm : lastMarks [CmpOp.LtE, .LtE] [b, d] = false := by with_unfolding_all rfl) : SE c X (.Compare a [.LtE, .LtE] [b, d] pos) (eCh opLe opLe ea eb ed) := se_chain op_le op_le l_le l_le ha hb hd hm
theorem se_lelt (ha : SB c X a ea) (hb : SB c X b eb) (hd : SB c X d ed) (hm : lastMarks [CmpOp.LtE, .Lt] [b, d] = false := by with_unfolding_all rfl) : SE c X (.Compare a [.LtE, .Lt] [b, d] pos) (eCh opLe opLt ea eb ed) := se_chain op_le op_lt l_le l_lt ha hb hd hm
theorem se_notb (ha : SE c X a ea) : SE c X (.UnaryOp .Not a pos) (e1 opNotB ea) := by
  refine ⟨pe_imp (pe_not ha.pe) fun σ H Q ⟨F, ρ, rl, q⟩ => ?_⟩
  refine tG_bind rl q fun x dx H1 F1 g1 rl1 rx q1 => ?_
  obtain ⟨dz, e, q3⟩ := finOf q1
  unfold opNotB at e
  split at e
  · cases e; cases rx; exact ⟨_, rfl, q3 _ _ _ rl1.refl (.bl _)⟩
  · cases e
theorem ss_newLcC (hc : X.calm = true) (hN : X.N.Nodup) (hy : X.N[i]? = some y) (hyl : X.env.scope.names.lookup y = some .local) (hsw : swapsWith (.ListComp elt [⟨tg, iter, ifs, 0⟩] scope pos) (some (.Name y py)) spos.line X.env = pure true)
    (hi : SI c X tg iter it) (ok : BlkOk X.N X.env.scope scope own) (hix : own.map (·.2) = ix) (io : ∀ j ∈ ix, ∀ a, c.io ≠ some (j, a)) (io2 : ∀ a, c.io ≠ some (i, a))
    (hg : ∀ (s : Shared) (H : Hp) (C : Addr) (cl : List (Str × Addr)) (fp : List Addr), SG c.nox (Bk X s H C cl fp scope) tg ix g) (ht : ∀ (s : Shared) (H : Hp) (C : Addr) (cl : List (Str × Addr)) (fp : List Addr), STs c.nox (Bk X s H C cl fp scope) ifs tt)
    (he : ∀ (s : Shared) (H : Hp) (C : Addr) (cl : List (Str × Addr)) (fp : List Addr), SE c.nox (Bk X s H C cl fp scope) elt ev) (hs : ∀ x, foldedSetIterable iter X.env x = pure x := by intro _; rfl) (hlt : (ix.all fun j => decide (j < c.n)) = true := by rfl) (hn : c.n = X.N.length := by rfl) (hn2 : c.n = n := by rfl) :
    SS c X (.Assign [.Name y py] (.ListComp elt [⟨tg, iter, ifs, 0⟩] scope pos) spos) (sNewC n i (lLc it g ix tt ev)) := by
  subst hix hn2
  refine ⟨ps_imp (ps_setLc (te := tE (X.kc c) c.nox ev) (g := tGt (X.kc c) c.nox _ g) (tt := tT (X.kc c) c.nox tt) hc hN hy hyl hsw hi.pi ok (fun s H C cl fp => (hg s H C cl fp).pg) (fun s H C cl fp => (ht s H C cl fp).pts) (fun s H C cl fp => (he s H C cl fp).pe) hs) fun De σ H ⟨F, ρ, r, q⟩ => ?_⟩
  refine tLc_of io (all_lt hlt) ⟨F, ρ, r, ?_⟩
  unfold sNewC at q
  cases z : lLc it g (own.map (·.2)) tt ev ρ with
  | ok ds =>
    rw [z] at q
    intro p vs H1 F1 g nn rp _
    obtain ⟨oa, r⟩ := r.o
    obtain ⟨r2, far⟩ := (r.grow g).cell (s := .own ds) nn ⟨p, vs, rfl, .inl rfl, upd_same, rp⟩
    have hl := r.len2
    exact q _ _ F1 g.f (r2.nameV io2 (lt_n hn hy) ⟨rfl, p, by rw [show ρ.length - c.n + c.n = ρ.length by omega]; exact oaSet_same, rfl⟩)
  | exc C fs => rw [z] at q; exact q
  | stuck => rw [z] at q; exact q
theorem ss_forX (hp : PassesOwn (model X.prog X.w) X.A X.env X.xe) (hc : X.calm = true) (hi : SX c X iter xv) (hg : SG c X tg ix g) (hb : SSs c X bd s)
    (hs : ∀ x, foldedSetIterable iter X.env x = pure x := by intro _; rfl) : SS c X (.For tg iter bd [] pos) (sForX xv g s) := by
  refine ⟨ps_imp (ps_for hp hc (pi_list hi.pe) hg.pg hb.ps hs) fun D σ H ⟨F, ρ, r, q⟩ => ?_⟩
  unfold sForX at q
  refine tX_st r q fun v t ρ H1 F1 m rr q1 => ?_
  split at q1
  · rename_i t0 ds
    obtain ⟨oa, r1, st⟩ := rr
    obtain ⟨_, w, e, h⟩ := st
    cases e
    cases h with
    | lst h1 h2 =>
      rename_i a vs
      refine ⟨a, rfl, ⟨vs, .inl (.inl (r1.le _ _ h1))⟩, ?_⟩
      have g1 : Grow F1 H1 F1 H1 := r1.r.refl
      have r := r1.r
      have q0 : FinS (X.kc c) c F1 (forS g s ds ρ) D := q1
      have w : Walk (Itl X.K a) ds.length (Same F1) (fun i H x H' => ∀ F, Same F1 F → Same F H → ∃ F' d, Grow F H F' H' ∧ ds[i]? = some d ∧ Rep (X.kc c) F' x d) := by
        rw [← h2.length]
        refine Walk.mono walk_list (fun H' s => .inl (.inl (s _ _ h1))) fun i H2 x H3 hi s y F2 s2 s3 => ?_
        obtain ⟨rfl, y⟩ := y
        obtain ⟨d, e1, e2⟩ := h2.getV y
        exact ⟨F2, d, Grow.refl s3, e1, e2.mono s2⟩
      refine for_it w (fun i σ' H' => ∃ F' ρ', Same F1 F' ∧ Rel (X.kc c) c F' ρ' σ' H' ∧ FinS (X.kc c) c F' (forS g s (ds.drop i) ρ') D) ⟨F1, ρ, Same.refl F1, r, q0⟩ ?_ ?_ ?_
      · rintro i σ' H' _ ⟨F', ρ', m, r', _⟩
        exact m.trans r'.le
      · rintro i x σ' H' H2 hi ⟨F', ρ', m, r', q'⟩ y
        obtain ⟨F2, d, g2, ed, rp⟩ := y F' m r'.le
        have hd : ds.drop i = d :: ds.drop (i + 1) := by
          have hi' : i < ds.length := hi
          rw [List.drop_eq_getElem_cons hi']
          congr 1
          rw [List.getElem?_eq_getElem hi'] at ed
          exact Option.some.inj ed
        rw [hd] at q'
        unfold forS at q'
        cases zg : g d ρ' with
        | none => rw [zg] at q'; exact q'.elim
        | some ρ1 =>
          rw [zg] at q'
          refine ⟨F2, ρ', d, ρ1, r'.grow g2, rp, zg, fun σ2 r2 _ => ⟨F2, ρ1, r2, ?_⟩⟩
          have q2 : FinS (X.kc c) c F2 (match s ρ1 with | .nx ρ2 => forS g s (ds.drop (i + 1)) ρ2 | .ct ρ2 => forS g s (ds.drop (i + 1)) ρ2 | .bk ρ2 => .nx ρ2 | o => o) D := FinS.mono g2.f q'
          cases zs : s ρ1 with
          | nx ρ2 => rw [zs] at q2; exact fun σ3 H3 F3 m3 r3 => ⟨F3, ρ2, (m.trans g2.f).trans m3, r3, FinS.mono m3 q2⟩
          | ct ρ2 => rw [zs] at q2; exact fun σ3 H3 F3 m3 r3 => ⟨F3, ρ2, (m.trans g2.f).trans m3, r3, FinS.mono m3 q2⟩
          | bk ρ2 => rw [zs] at q2; exact q2
          | rt d => rw [zs] at q2; exact q2
          | rm t d => rw [zs] at q2; exact q2
          | exc C fs => rw [zs] at q2; exact q2
          | stuck => rw [zs] at q2; exact q2
      · rintro σ' H' ⟨F', ρ', m, r', q'⟩
        rw [List.drop_length] at q'
        exact q' σ' H' F' (Same.refl F') r'
  · exact q1.elim
end
end Pu

/-! earliest deadline first, slot by slot -/
namespace Edf
/-- a job: its due, its release, two numbers, what it still needs -/
structure Jb where
  d : Int
  r : Int
  a : Int
  b : Int
  c : Int
/-- one job in one slot, with u units left -/
def sv1 (n u : Int) (j : Jb) : Jb × Int := if j.r ≤ n ∧ 0 < j.c then ({ j with c := j.c - min u j.c }, u - min u j.c) else (j, u)
def svJ (n : Int) : Int → List Jb → List Jb
  | _, [] => []
  | u, j :: l => (sv1 n u j).1 :: svJ n (sv1 n u j).2 l
def svU (n : Int) : Int → List Jb → Int
  | u, [] => u
  | u, j :: l => svU n (sv1 n u j).2 l
theorem svJ_len (n : Int) : ∀ (u : Int) (l : List Jb), (svJ n u l).length = l.length
  | _, [] => rfl
  | u, j :: l => congrArg Nat.succ (svJ_len n _ l)
theorem svJ_app (n : Int) : ∀ (u : Int) (l m : List Jb), svJ n u (l ++ m) = svJ n u l ++ svJ n (svU n u l) m
  | _, [], _ => rfl
  | u, j :: l, m => congrArg ((sv1 n u j).1 :: ·) (svJ_app n _ l m)
theorem svU_app (n : Int) : ∀ (u : Int) (l m : List Jb), svU n u (l ++ m) = svU n (svU n u l) m
  | _, [], _ => rfl
  | u, j :: l, m => svU_app n _ l m
/-- from slot to slot -/
def st (cap : Nat → Int) (S : List Jb) : Nat → List Jb
  | 0 => S
  | n + 1 => svJ n (cap n) (st cap S n)
def late (n : Int) (S : List Jb) : Prop := ∃ j ∈ S, j.d ≤ n ∧ 0 < j.c
/-- what is left of the jobs that p tells -/
def left (p : Jb → Bool) : List Jb → Int
  | [] => 0
  | j :: l => (if p j = true then j.c else 0) + left p l
theorem left_nn {p : Jb → Bool} : ∀ {l : List Jb}, (∀ j ∈ l, 0 ≤ j.c) → 0 ≤ left p l
  | [], _ => Int.le_refl _
  | j :: l, h => by
    have h1 := h j List.mem_cons_self
    have h2 := left_nn (p := p) (l := l) fun x hx => h x (List.mem_cons_of_mem _ hx)
    show 0 ≤ (if p j = true then j.c else 0) + left p l
    split <;> omega
theorem left_ge {p : Jb → Bool} : ∀ {l : List Jb} {j : Jb}, (∀ j ∈ l, 0 ≤ j.c) → j ∈ l → p j = true → j.c ≤ left p l
  | x :: l, j, h, hj, hp => by
    have hr : ∀ j ∈ l, 0 ≤ j.c := fun x hx => h x (List.mem_cons_of_mem _ hx)
    show j.c ≤ (if p x = true then x.c else 0) + left p l
    rcases List.mem_cons.mp hj with rfl | hj
    · have := left_nn (p := p) hr
      rw [if_pos hp]; omega
    · have := left_ge hr hj hp
      have := h x List.mem_cons_self
      split <;> omega
theorem left_congr {p q : Jb → Bool} : ∀ {l : List Jb}, (∀ j ∈ l, p j = q j) → left p l = left q l
  | [], _ => rfl
  | j :: l, h => by
    show (if p j = true then j.c else 0) + left p l = (if q j = true then j.c else 0) + left q l
    rw [h j List.mem_cons_self, left_congr fun x hx => h x (List.mem_cons_of_mem _ hx)]
theorem left_none {p : Jb → Bool} : ∀ {l : List Jb}, (∀ j ∈ l, p j = false) → left p l = 0
  | [], _ => rfl
  | j :: l, h => by
    show (if p j = true then j.c else 0) + left p l = 0
    rw [h j List.mem_cons_self, left_none fun x hx => h x (List.mem_cons_of_mem _ hx)]; rfl
theorem left_app {p : Jb → Bool} : ∀ (l m : List Jb), left p (l ++ m) = left p l + left p m
  | [], m => by show left p m = 0 + _; omega
  | j :: l, m => by
    show (if p j = true then j.c else 0) + left p (l ++ m) = (if p j = true then j.c else 0) + left p l + left p m
    rw [left_app l m]; omega
theorem left_perm {p : Jb → Bool} {l m : List Jb} (h : l.Perm m) : left p l = left p m := by
  induction h with
  | nil => rfl
  | cons x _ ih => exact congrArg ((if p x = true then x.c else 0) + ·) ih
  | swap x y l => show (if p y = true then y.c else 0) + ((if p x = true then x.c else 0) + left p l) = (if p x = true then x.c else 0) + ((if p y = true then y.c else 0) + left p l); omega
  | trans _ _ h1 h2 => rw [h1, h2]
/-- the frame of a job: all but what it needs -/
def fr (j : Jb) : Int × Int × Int × Int := (j.d, j.r, j.a, j.b)
theorem sv1_fr (n u : Int) (j : Jb) : fr (sv1 n u j).1 = fr j := by unfold sv1; split <;> rfl
theorem svJ_fr (n : Int) : ∀ (u : Int) (l : List Jb), (svJ n u l).map fr = l.map fr
  | _, [] => rfl
  | u, j :: l => by
    show fr _ :: (svJ n _ l).map fr = fr j :: l.map fr
    rw [sv1_fr, svJ_fr n _ l]
theorem st_fr (cap : Nat → Int) (S : List Jb) : ∀ n, (st cap S n).map fr = S.map fr
  | 0 => rfl
  | n + 1 => by show (svJ n (cap n) (st cap S n)).map fr = _; rw [svJ_fr, st_fr cap S n]
theorem sv1_nn {n u : Int} {j : Jb} (hu : 0 ≤ u) (hc : 0 ≤ j.c) : 0 ≤ (sv1 n u j).1.c ∧ 0 ≤ (sv1 n u j).2 := by
  unfold sv1
  split
  · exact ⟨by show 0 ≤ j.c - min u j.c; omega, by show 0 ≤ u - min u j.c; omega⟩
  · exact ⟨hc, hu⟩
theorem svJ_nn {n : Int} : ∀ {u : Int} {l : List Jb}, 0 ≤ u → (∀ j ∈ l, 0 ≤ j.c) → ∀ j ∈ svJ n u l, 0 ≤ j.c
  | _, [], _, _ => fun j h => by cases h
  | u, x :: l, hu, h => fun j hj => by
    have h1 := sv1_nn (n := n) hu (h x List.mem_cons_self)
    rcases List.mem_cons.mp hj with rfl | hj
    · exact h1.1
    · exact svJ_nn h1.2 (fun y hy => h y (List.mem_cons_of_mem _ hy)) j hj
theorem st_nn {cap : Nat → Int} {S : List Jb} (hc : ∀ n, 0 ≤ cap n) (h : ∀ j ∈ S, 0 ≤ j.c) : ∀ n, ∀ j ∈ st cap S n, 0 ≤ j.c
  | 0 => h
  | n + 1 => svJ_nn (hc n) (st_nn hc h n)
/-- sorted by the dues -/
def ByDue (S : List Jb) : Prop := S.Pairwise fun x y => x.d ≤ y.d
theorem byDue_fr {S : List Jb} : ByDue S ↔ (S.map fr).Pairwise fun x y => x.1 ≤ y.1 := by
  unfold ByDue
  rw [List.pairwise_map]; rfl
theorem st_byDue {cap : Nat → Int} {S : List Jb} (h : ByDue S) (n : Nat) : ByDue (st cap S n) := by
  rw [byDue_fr, st_fr, ← byDue_fr]; exact h
/-- one slot: of the jobs due by e and released by n the units take what they can -/
theorem serve (n e : Int) : ∀ (u : Int) (l : List Jb), 0 ≤ u → (∀ j ∈ l, 0 ≤ j.c) → ByDue l →
    left (fun j => decide (j.d ≤ e) && decide (j.r ≤ n)) (svJ n u l) = max 0 (left (fun j => decide (j.d ≤ e) && decide (j.r ≤ n)) l - u)
  | u, [], hu, _, _ => by show (0 : Int) = max 0 (0 - u); omega
  | u, j :: l, hu, hc, hs => by
    have hc' : ∀ j ∈ l, 0 ≤ j.c := fun x hx => hc x (List.mem_cons_of_mem _ hx)
    have hj := hc j List.mem_cons_self
    obtain ⟨hs1, hs2⟩ := List.pairwise_cons.mp hs
    have h1 := sv1_nn (n := n) hu hj
    have ih := serve n e (sv1 n u j).2 l h1.2 hc' hs2
    have nn := left_nn (p := fun j => decide (j.d ≤ e) && decide (j.r ≤ n)) hc'
    show (if (decide ((sv1 n u j).1.d ≤ e) && decide ((sv1 n u j).1.r ≤ n)) = true then (sv1 n u j).1.c else 0) + left _ (svJ n (sv1 n u j).2 l) = max 0 ((if (decide (j.d ≤ e) && decide (j.r ≤ n)) = true then j.c else 0) + left _ l - u)
    have hf := sv1_fr n u j
    have hd : (sv1 n u j).1.d = j.d := congrArg (·.1) hf
    have hr : (sv1 n u j).1.r = j.r := congrArg (·.2.1) hf
    rw [hd, hr, ih]
    by_cases hde : j.d ≤ e
    · by_cases hrn : j.r ≤ n
      · have : (decide (j.d ≤ e) && decide (j.r ≤ n)) = true := by simp [hde, hrn]
        rw [if_pos this, if_pos this]
        by_cases hp : 0 < j.c
        · have e1 : sv1 n u j = ({ j with c := j.c - min u j.c }, u - min u j.c) := by unfold sv1; rw [if_pos ⟨hrn, hp⟩]
          rw [e1]
          show j.c - min u j.c + max 0 (left _ l - (u - min u j.c)) = _
          omega
        · have e1 : sv1 n u j = (j, u) := by unfold sv1; rw [if_neg (fun z => hp z.2)]
          rw [e1]
          show j.c + max 0 (left _ l - u) = _
          omega
      · have : ¬ (decide (j.d ≤ e) && decide (j.r ≤ n)) = true := by simp [hrn]
        rw [if_neg this, if_neg this]
        have e1 : sv1 n u j = (j, u) := by unfold sv1; rw [if_neg (fun z => hrn z.1)]
        rw [e1]
        show 0 + max 0 (left _ l - u) = _
        omega
    · have : ¬ (decide (j.d ≤ e) && decide (j.r ≤ n)) = true := by simp [hde]
      rw [if_neg this, if_neg this]
      have h0 : left (fun j => decide (j.d ≤ e) && decide (j.r ≤ n)) l = 0 := left_none fun x hx => by
        have := hs1 x hx
        simp; omega
      rw [h0]
      omega
theorem serve_ge (n : Int) (p : Jb → Bool) (hp : ∀ x y : Jb, fr x = fr y → p x = p y) : ∀ (u : Int) (l : List Jb), 0 ≤ u → (∀ j ∈ l, 0 ≤ j.c) → left p l - u ≤ left p (svJ n u l)
  | u, [], hu, _ => by show 0 - u ≤ 0; omega
  | u, j :: l, hu, hc => by
    have hj := hc j List.mem_cons_self
    have h1 := sv1_nn (n := n) hu hj
    have ih := serve_ge n p hp (sv1 n u j).2 l h1.2 fun x hx => hc x (List.mem_cons_of_mem _ hx)
    show (if p j = true then j.c else 0) + left p l - u ≤ (if p (sv1 n u j).1 = true then (sv1 n u j).1.c else 0) + left p (svJ n (sv1 n u j).2 l)
    rw [hp _ j (sv1_fr n u j)]
    have e1 : j.c - (sv1 n u j).1.c = u - (sv1 n u j).2 ∧ (sv1 n u j).1.c ≤ j.c := by
      unfold sv1
      split
      · exact ⟨by show j.c - (j.c - min u j.c) = u - (u - min u j.c); omega, by show j.c - min u j.c ≤ j.c; omega⟩
      · exact ⟨by show j.c - j.c = u - u; omega, Int.le_refl _⟩
    split <;> omega
/-- jobs that are not yet released keep what they need -/
theorem svJ_keep {n e : Int} (f : Jb → Bool) (hf : ∀ x y : Jb, fr x = fr y → f x = f y) (hn : ∀ j, f j = true → ¬ j.r ≤ n) : ∀ (u : Int) (l : List Jb), left f (svJ n u l) = left f l
  | _, [] => rfl
  | u, j :: l => by
    show (if f (sv1 n u j).1 = true then (sv1 n u j).1.c else 0) + left f (svJ n (sv1 n u j).2 l) = (if f j = true then j.c else 0) + left f l
    rw [svJ_keep (e := e) f hf hn _ l, hf _ j (sv1_fr n u j)]
    by_cases h : f j = true
    · have := hn j h
      have e1 : sv1 n u j = (j, u) := by unfold sv1; rw [if_neg (fun z => this z.1)]
      rw [e1]
    · rw [if_neg h, if_neg h]
/-- the capacity of the slots from s on -/
def sup (cap : Nat → Int) (s : Nat) : Nat → Int
  | 0 => 0
  | n + 1 => sup cap s n + cap (s + n)
/-- the work within a window -/
def wrk (S : List Jb) (s e : Int) : Int := left (fun j => decide (s ≤ j.r) && decide (j.d ≤ e)) S
theorem left_split {p q r : Jb → Bool} : ∀ {l : List Jb}, (∀ j ∈ l, (p j = true ∧ q j = true ∧ r j = false) ∨ (p j = true ∧ q j = false ∧ r j = true) ∨ (p j = false ∧ q j = false ∧ r j = false)) → left p l = left q l + left r l
  | [], _ => rfl
  | j :: l, h => by
    have ih := left_split (l := l) fun x hx => h x (List.mem_cons_of_mem _ hx)
    show (if p j = true then j.c else 0) + left p l = (if q j = true then j.c else 0) + left q l + ((if r j = true then j.c else 0) + left r l)
    rcases h j List.mem_cons_self with ⟨a, b, c⟩ | ⟨a, b, c⟩ | ⟨a, b, c⟩ <;> simp only [a, b, c, if_true, Bool.false_eq_true, if_false] <;> omega
/-- jobs released at s or later, before n, due by e -/
def win (s n e : Int) (j : Jb) : Bool := decide (s ≤ j.r) && decide (j.r < n) && decide (j.d ≤ e)
theorem win_fr (s n e : Int) (x y : Jb) (h : fr x = fr y) : win s n e x = win s n e y := by
  have h1 : x.d = y.d := congrArg (·.1) h
  have h2 : x.r = y.r := congrArg (·.2.1) h
  unfold win; rw [h1, h2]
variable {cap : Nat → Int} {S : List Jb}
/-- at slot n, of the jobs released before and due by e, no more is left than a window's work less its capacity -/
theorem lindley (hcap : ∀ n, 0 ≤ cap n) (hc : ∀ j ∈ S, 0 ≤ j.c) (hr : ∀ j ∈ S, 0 ≤ j.r) (hs : ByDue S) (e : Int) : ∀ n : Nat, ∃ s : Nat, s ≤ n ∧ left (win 0 n e) (st cap S n) ≤ left (win s n e) S - sup cap s (n - s)
  | 0 => by
    refine ⟨0, Nat.le_refl _, ?_⟩
    show left _ S ≤ left _ S - 0
    rw [Int.sub_zero]; exact Int.le_refl _
  | n + 1 => by
    obtain ⟨s, hsn, ih⟩ := lindley hcap hc hr hs e n
    have sv := serve (n : Int) e (cap n) (st cap S n) (hcap n) (st_nn hcap hc n) (st_byDue hs n)
    have rn : ∀ j ∈ st cap S n, 0 ≤ j.r := fun j hj => by
      have : fr j ∈ (st cap S n).map fr := List.mem_map_of_mem hj
      rw [st_fr] at this
      obtain ⟨x, hx, e⟩ := List.mem_map.mp this
      have e2 : x.r = j.r := congrArg (·.2.1) e
      rw [← e2]; exact hr x hx
    have rn1 : ∀ j ∈ svJ (n : Int) (cap n) (st cap S n), 0 ≤ j.r := fun j hj => by
      have : fr j ∈ (svJ (n : Int) (cap n) (st cap S n)).map fr := List.mem_map_of_mem hj
      rw [svJ_fr] at this
      obtain ⟨x, hx, e⟩ := List.mem_map.mp this
      have e2 : x.r = j.r := congrArg (·.2.1) e
      rw [← e2]; exact rn x hx
    have l1 : left (win 0 (n + 1 : Nat) e) (st cap S (n + 1)) = max 0 (left (fun j => decide (j.d ≤ e) && decide (j.r ≤ n)) (st cap S n) - cap n) := by
      rw [← sv]
      refine left_congr fun j hj => ?_
      have := rn1 j hj
      unfold win
      rw [Bool.eq_iff_iff]
      simp only [Bool.and_eq_true, decide_eq_true_eq]
      omega
    -- what is released at n is whole
    have keep : ∀ m : Nat, m ≤ n → left (win n (n + 1 : Nat) e) (st cap S m) = left (win n (n + 1 : Nat) e) S := by
      intro m
      induction m with
      | zero => intro _; rfl
      | succ m ihm =>
        intro hm
        rw [← ihm (by omega)]
        refine svJ_keep (e := e) _ (win_fr _ _ _) (fun j hj => ?_) _ _
        unfold win at hj
        simp only [Bool.and_eq_true, decide_eq_true_eq] at hj
        omega
    have l2 : left (fun j => decide (j.d ≤ e) && decide (j.r ≤ n)) (st cap S n) = left (win 0 n e) (st cap S n) + left (win n (n + 1 : Nat) e) S := by
      rw [← keep n (Nat.le_refl _)]
      refine left_split fun j hj => ?_
      have := rn j hj
      unfold win
      by_cases h1 : j.d ≤ e
      · by_cases h2 : j.r < n
        · left; simp; omega
        · by_cases h3 : j.r ≤ n
          · right; left; simp; omega
          · right; right; simp; omega
      · right; right; simp [h1]
    rw [l1, l2]
    by_cases hz : left (win 0 n e) (st cap S n) + left (win n (n + 1 : Nat) e) S - cap n ≤ 0
    · refine ⟨n + 1, Nat.le_refl _, ?_⟩
      rw [Nat.sub_self]
      have : left (win (n + 1 : Nat) (n + 1 : Nat) e) S = 0 := left_none fun j hj => by
        unfold win
        simp; omega
      rw [this]
      show _ ≤ (0 : Int) - 0
      omega
    · refine ⟨s, by omega, ?_⟩
      have e1 : n + 1 - s = (n - s) + 1 := by omega
      have e2 : sup cap s (n + 1 - s) = sup cap s (n - s) + cap n := by
        rw [e1]
        show sup cap s (n - s) + cap (s + (n - s)) = _
        rw [show s + (n - s) = n by omega]
      have l3 : left (win s (n + 1 : Nat) e) S = left (win s n e) S + left (win n (n + 1 : Nat) e) S := by
        refine left_split fun j hj => ?_
        unfold win
        by_cases h1 : j.d ≤ e
        · by_cases h0 : (s : Int) ≤ j.r
          · by_cases h2 : j.r < n
            · left; simp; omega
            · by_cases h3 : j.r < (n : Int) + 1
              · right; left; simp; omega
              · right; right; simp; omega
          · right; right; simp; omega
        · right; right; simp [h1]
      rw [e2, l3]
      omega
/-- if each window has enough capacity, no job is late -/
theorem never (hcap : ∀ n, 0 ≤ cap n) (hc : ∀ j ∈ S, 0 ≤ j.c) (hr : ∀ j ∈ S, 0 ≤ j.r ∧ j.r < j.d) (hs : ByDue S) (hw : ∀ s n : Nat, wrk S s (s + n : Nat) ≤ sup cap s n) (n : Nat) : ¬ late n (st cap S n) := by
  rintro ⟨j, hj, hd, hp⟩
  obtain ⟨s, hsn, h⟩ := lindley hcap hc (fun j hj => (hr j hj).1) hs n n
  have hfr : fr j ∈ S.map fr := by rw [← st_fr cap S n]; exact List.mem_map_of_mem hj
  obtain ⟨x, hx, e⟩ := List.mem_map.mp hfr
  have e1 : x.d = j.d := congrArg (·.1) e
  have e2 : x.r = j.r := congrArg (·.2.1) e
  have hx' := hr x hx
  have h1 : j.c ≤ left (win 0 n n) (st cap S n) := left_ge (st_nn hcap hc n) hj (by unfold win; simp; omega)
  have h2 : left (win s n n) S = wrk S s n := left_congr fun y hy => by
    have := hr y hy
    unfold win
    rw [Bool.eq_iff_iff]
    simp only [Bool.and_eq_true, decide_eq_true_eq]
    omega
  have h3 := hw s (n - s)
  rw [show s + (n - s) = n by omega] at h3
  rw [h2] at h
  omega
/-- too much work by L: some job is late at L -/
theorem over (hcap : ∀ n, 0 ≤ cap n) (hc : ∀ j ∈ S, 0 ≤ j.c) (L : Nat) (hw : sup cap 0 L < left (fun j => decide (j.d ≤ L)) S) : late L (st cap S L) := by
  have hp : ∀ x y : Jb, fr x = fr y → decide (x.d ≤ (L : Int)) = decide (y.d ≤ (L : Int)) := fun x y h => by rw [show x.d = y.d from congrArg (·.1) h]
  have key : ∀ n : Nat, left (fun j => decide (j.d ≤ L)) S - sup cap 0 n ≤ left (fun j => decide (j.d ≤ L)) (st cap S n) := by
    intro n
    induction n with
    | zero => show _ - 0 ≤ left _ S; omega
    | succ n ih =>
      have := serve_ge (n : Int) (fun j => decide (j.d ≤ (L : Int))) hp (cap n) (st cap S n) (hcap n) (st_nn hcap hc n)
      show _ - (sup cap 0 n + cap (0 + n)) ≤ left _ (svJ n (cap n) (st cap S n))
      rw [Nat.zero_add]
      omega
  have h := key L
  have pos : 0 < left (fun j => decide (j.d ≤ L)) (st cap S L) := by omega
  have ex : ∀ l : List Jb, 0 < left (fun j => decide (j.d ≤ (L : Int))) l → ∃ j ∈ l, j.d ≤ L ∧ 0 < j.c := by
    intro l
    induction l with
    | nil => intro h; exact absurd h (by show ¬ (0 : Int) < 0; omega)
    | cons x l ih =>
      intro h
      have h' : 0 < (if decide (x.d ≤ (L : Int)) = true then x.c else 0) + left (fun j => decide (j.d ≤ (L : Int))) l := h
      by_cases hx : x.d ≤ (L : Int)
      · by_cases hc : 0 < x.c
        · exact ⟨x, List.mem_cons_self, hx, hc⟩
        · rw [if_pos (by simpa using hx)] at h'
          obtain ⟨j, hj, q⟩ := ih (by omega)
          exact ⟨j, List.mem_cons_of_mem _ hj, q⟩
      · rw [if_neg (by simpa using hx)] at h'
        obtain ⟨j, hj, q⟩ := ih (by omega)
        exact ⟨j, List.mem_cons_of_mem _ hj, q⟩
  exact ex _ pos
end Edf

/-! any schedule that keeps all dues: the windows' work is supplied -/
namespace Edf
def gi (L : List Int) (i : Nat) : Int := L[i]?.getD 0
theorem gi_cons0 (x : Int) (L : List Int) : gi (x :: L) 0 = x := rfl
theorem gi_cons (x : Int) (L : List Int) (i : Nat) : gi (x :: L) (i + 1) = gi L i := by unfold gi; simp
theorem gi_get {L : List Int} {i : Nat} (h : i < L.length) : L[i]? = some (gi L i) := by unfold gi; rw [List.getElem?_eq_getElem h]; rfl
theorem gi_of {L : List Int} {i : Nat} {x : Int} (h : L[i]? = some x) : gi L i = x := by unfold gi; rw [h]; rfl
theorem gi_out {L : List Int} {i : Nat} (h : L.length ≤ i) : gi L i = 0 := by unfold gi; rw [List.getElem?_eq_none h]; rfl
theorem gi_set {L : List Int} {i k : Nat} {x : Int} (h : i < L.length) : gi (L.set i x) k = if k = i then x else gi L k := by
  unfold gi
  rw [List.getElem?_set]
  by_cases q : i = k
  · subst q; simp [h]
  · rw [if_neg q, if_neg (fun z => q z.symm)]
/-- the work that is left of the jobs that p tells -/
def lw (p : Jb → Bool) : List Jb → List Int → Int
  | j :: J, x :: L => (if p j = true then x else 0) + lw p J L
  | _, _ => 0
theorem lw_diff {p : Jb → Bool} : ∀ {J : List Jb} {L L' : List Int}, L.length = J.length → L'.length = J.length → (∀ i, gi L' i ≤ gi L i) → lw p J L - lw p J L' ≤ L.sum - L'.sum ∧ 0 ≤ L.sum - L'.sum
  | [], [], [], _, _, _ => by simp [lw]
  | j :: J, x :: L, y :: L', h1, h2, h => by
    have ih := lw_diff (p := p) (J := J) (L := L) (L' := L') (by simpa using h1) (by simpa using h2) fun i => by
      have := h (i + 1); rwa [gi_cons, gi_cons] at this
    have h0 := h 0
    rw [gi_cons0, gi_cons0] at h0
    simp only [lw, List.sum_cons]
    split <;> omega
  | _ :: _, [], _, h, _, _ => by simp at h
  | _ :: _, _ :: _, [], _, h, _ => by simp at h
  | [], _ :: _, _, h, _, _ => by simp at h
  | [], [], _ :: _, _, h, _ => by simp at h
theorem lw_left {p : Jb → Bool} : ∀ {J : List Jb} {L : List Int}, L.length = J.length → (∀ i j, J[i]? = some j → p j = true → gi L i = j.c) → lw p J L = left p J
  | [], [], _, _ => rfl
  | j :: J, x :: L, h1, h => by
    have ih := lw_left (p := p) (J := J) (L := L) (by simpa using h1) fun i j' e q => by
      have := h (i + 1) j' (by simpa using e) q; rwa [gi_cons] at this
    simp only [lw, left]
    rw [ih]
    by_cases q : p j = true
    · have := h 0 j rfl q
      rw [gi_cons0] at this
      rw [if_pos q, if_pos q, this]
    · rw [if_neg q, if_neg q]
  | _ :: _, [], h, _ => by simp at h
  | [], _ :: _, h, _ => by simp at h
theorem lw_zero {p : Jb → Bool} : ∀ {J : List Jb} {L : List Int}, L.length = J.length → (∀ i j, J[i]? = some j → p j = true → gi L i = 0) → lw p J L = 0
  | [], [], _, _ => rfl
  | j :: J, x :: L, h1, h => by
    have ih := lw_zero (p := p) (J := J) (L := L) (by simpa using h1) fun i j' e q => by
      have := h (i + 1) j' (by simpa using e) q; rwa [gi_cons] at this
    simp only [lw]
    rw [ih]
    by_cases q : p j = true
    · have := h 0 j rfl q
      rw [gi_cons0] at this
      rw [if_pos q, this]; rfl
    · rw [if_neg q]; rfl
  | _ :: _, [], h, _ => by simp at h
  | [], _ :: _, h, _ => by simp at h
/-- a schedule: what is left, slot by slot -/
structure Sch (cap : Nat → Int) (J : List Jb) (L : Nat → List Int) : Prop where
  len : ∀ n, (L n).length = J.length
  zero : L 0 = J.map (·.c)
  nn : ∀ n i, 0 ≤ gi (L n) i
  mono : ∀ n i, gi (L (n + 1)) i ≤ gi (L n) i
  rel : ∀ (n i : Nat) (j : Jb), J[i]? = some j → gi (L (n + 1)) i < gi (L n) i → j.r ≤ (n : Int)
  sum : ∀ n : Nat, (L n).sum - (L (n + 1)).sum ≤ cap n
theorem Sch.le {cap : Nat → Int} {J : List Jb} {L : Nat → List Int} (S : Sch cap J L) {a b : Nat} (h : a ≤ b) (i : Nat) : gi (L b) i ≤ gi (L a) i := by
  induction b with
  | zero => rw [Nat.le_zero.mp h]; exact Int.le_refl _
  | succ b ih =>
    by_cases q : a = b + 1
    · rw [q]; exact Int.le_refl _
    · have := ih (by omega)
      have := S.mono b i
      omega
theorem Sch.start {cap : Nat → Int} {J : List Jb} {L : Nat → List Int} (S : Sch cap J L) {i : Nat} {j : Jb} (e : J[i]? = some j) : ∀ {s : Nat}, (s : Int) ≤ j.r → gi (L s) i = j.c
  | 0, _ => by rw [S.zero]; exact gi_of (by rw [List.getElem?_map, e]; rfl)
  | s + 1, h => by
    have ih := S.start e (s := s) (by omega)
    have h1 := S.mono s i
    by_cases q : gi (L (s + 1)) i < gi (L s) i
    · have := S.rel s i j e q; omega
    · omega
/-- all jobs are done by their dues -/
def Kept (J : List Jb) (L : Nat → List Int) : Prop := ∀ i j, J[i]? = some j → gi (L j.d.toNat) i = 0
theorem Sch.win {cap : Nat → Int} {J : List Jb} {L : Nat → List Int} (S : Sch cap J L) (K : Kept J L) (hd : ∀ j ∈ J, 0 ≤ j.d) (s n : Nat) : wrk J s (s + n : Nat) ≤ sup cap s n := by
  let p : Jb → Bool := fun j => decide ((s : Int) ≤ j.r) && decide (j.d ≤ ((s + n : Nat) : Int))
  have hp : ∀ {j : Jb}, p j = true → (s : Int) ≤ j.r ∧ j.d ≤ ((s + n : Nat) : Int) := fun {j} h => by
    simp only [p, Bool.and_eq_true, decide_eq_true_eq] at h; exact h
  have h0 : lw p J (L s) = wrk J s (s + n : Nat) := lw_left (S.len s) fun i j e q => S.start e (hp q).1
  have h1 : lw p J (L (s + n)) = 0 := lw_zero (S.len _) fun i j e q => by
    have a := K i j e
    have b := S.le (a := j.d.toNat) (b := s + n) (by have := (hp q).2; have := hd j (List.mem_of_getElem? e); omega) i
    have c := S.nn (s + n) i
    omega
  have h2 : ∀ m, lw p J (L s) - lw p J (L (s + m)) ≤ sup cap s m := by
    intro m
    induction m with
    | zero => show _ - _ ≤ (0 : Int); rw [Nat.add_zero, Int.sub_self]; exact Int.le_refl _
    | succ m ih =>
      have a := (lw_diff (p := p) (S.len (s + m)) (S.len (s + m + 1)) (S.mono (s + m))).1
      have b := S.sum (s + m)
      show _ ≤ sup cap s m + cap (s + m)
      rw [← Nat.add_assoc]
      omega
  have := h2 n
  rw [h0, h1] at this
  omega
/-! one slot, the places in some order -/
def sv (q : List Int × Int) (p : Nat) : List Int × Int := if 0 < min q.2 (gi q.1 p) then (q.1.set p (gi q.1 p - min q.2 (gi q.1 p)), q.2 - min q.2 (gi q.1 p)) else q
def srv (ps : List Nat) (q : List Int × Int) : List Int × Int := ps.foldl sv q
theorem sum_set : ∀ {L : List Int} {p : Nat} {x : Int}, p < L.length → (L.set p x).sum = L.sum - gi L p + x
  | y :: L, 0, x, _ => by simp [gi]; omega
  | y :: L, p + 1, x, h => by
    rw [List.set_cons_succ, List.sum_cons, List.sum_cons, sum_set (by simpa using h), gi_cons]; omega
structure Svd (ps : List Nat) (q q' : List Int × Int) : Prop where
  len : q'.1.length = q.1.length
  nn : ∀ i, 0 ≤ gi q'.1 i
  u : 0 ≤ q'.2
  le : ∀ i, gi q'.1 i ≤ gi q.1 i
  at_ : ∀ i, gi q'.1 i < gi q.1 i → i ∈ ps
  sum : q.1.sum - q'.1.sum = q.2 - q'.2
theorem svd : ∀ {ps : List Nat} {q : List Int × Int}, (∀ i, 0 ≤ gi q.1 i) → 0 ≤ q.2 → Svd ps q (srv ps q)
  | [], q, h, hu => ⟨rfl, h, hu, fun i => Int.le_refl _, fun i z => absurd z (Int.lt_irrefl _), by show q.1.sum - q.1.sum = q.2 - q.2; omega⟩
  | p :: ps, q, h, hu => by
    show Svd (p :: ps) q (srv ps (sv q p))
    by_cases z : 0 < min q.2 (gi q.1 p)
    · have e : sv q p = (q.1.set p (gi q.1 p - min q.2 (gi q.1 p)), q.2 - min q.2 (gi q.1 p)) := if_pos z
      have hp : p < q.1.length := by
        by_cases w : p < q.1.length
        · exact w
        · rw [gi_out (by omega)] at z; omega
      have s1 : ∀ i, gi (sv q p).1 i = if i = p then gi q.1 p - min q.2 (gi q.1 p) else gi q.1 i := fun i => by rw [e]; exact gi_set hp
      have h' : ∀ i, 0 ≤ gi (sv q p).1 i := fun i => by
        rw [s1]
        have := h i
        split <;> omega
      have ih := svd (ps := ps) (q := sv q p) h' (by rw [e]; show 0 ≤ q.2 - min q.2 (gi q.1 p); omega)
      refine ⟨ih.len.trans (by rw [e]; exact List.length_set), ih.nn, ih.u, fun i => ?_, fun i w => ?_, ?_⟩
      · have a := ih.le i
        rw [s1] at a
        split at a
        · rename_i y; subst y; omega
        · exact a
      · by_cases y : i = p
        · rw [y]; exact List.mem_cons_self
        · have a : gi (srv ps (sv q p)).1 i < gi (sv q p).1 i := by rw [s1, if_neg y]; exact w
          exact List.mem_cons_of_mem _ (ih.at_ i a)
      · have a := ih.sum
        have b : (sv q p).1.sum = q.1.sum - gi q.1 p + (gi q.1 p - min q.2 (gi q.1 p)) := by rw [e]; exact sum_set hp
        have c : (sv q p).2 = q.2 - min q.2 (gi q.1 p) := by rw [e]
        rw [b, c] at a
        omega
    · have e : sv q p = q := if_neg z
      rw [e]
      have ih := svd (ps := ps) (q := q) h hu
      exact ⟨ih.len, ih.nn, ih.u, ih.le, fun i w => List.mem_cons_of_mem _ (ih.at_ i w), ih.sum⟩
/-- the ready places at slot n -/
def rdy (J : List Jb) (n : Nat) (L : List Int) : List Nat := (List.range J.length).filter fun k => decide (((J[k]?).getD ⟨0, 0, 0, 0, 0⟩).r ≤ (n : Int)) && decide (0 < gi L k)
/-- slot by slot, the ready places in an order that pl tells -/
def sim (cap : Nat → Int) (J : List Jb) (pl : Nat → List Int → List Nat) : Nat → List Int
  | 0 => J.map (·.c)
  | n + 1 => (srv (pl n (sim cap J pl n)) (sim cap J pl n, cap n)).1
theorem sim_nn {cap : Nat → Int} {J : List Jb} {pl : Nat → List Int → List Nat} (hc : ∀ n, 0 ≤ cap n) (h : ∀ j ∈ J, 0 ≤ j.c) : ∀ n i, 0 ≤ gi (sim cap J pl n) i
  | 0, i => by
    show 0 ≤ gi (J.map (·.c)) i
    by_cases q : i < J.length
    · rw [gi_of (x := (J[i]).c) (by rw [List.getElem?_map, List.getElem?_eq_getElem q]; rfl)]
      exact h _ (List.getElem_mem q)
    · rw [gi_out (by rw [List.length_map]; omega)]; exact Int.le_refl _
  | n + 1, i => (svd (sim_nn hc h n) (hc n)).nn i
theorem sim_sch {cap : Nat → Int} {J : List Jb} {pl : Nat → List Int → List Nat} (hc : ∀ n, 0 ≤ cap n) (h : ∀ j ∈ J, 0 ≤ j.c) (hp : ∀ n L, ∀ k ∈ pl n L, k ∈ rdy J n L) : Sch cap J (sim cap J pl) := by
  have D := fun n => svd (ps := pl n (sim cap J pl n)) (q := (sim cap J pl n, cap n)) (sim_nn hc h n) (hc n)
  refine ⟨fun n => ?_, rfl, sim_nn hc h, fun n i => (D n).le i, fun n i j e z => ?_, fun n => ?_⟩
  · induction n with
    | zero => exact List.length_map _
    | succ n ih => exact (D n).len.trans ih
  · have m := hp n _ i ((D n).at_ i z)
    have := (List.mem_filter.mp m).2
    rw [e] at this
    simp only [Option.getD_some, Bool.and_eq_true, decide_eq_true_eq] at this
    exact this.1
  · have a := (D n).sum
    have b := (D n).u
    show (sim cap J pl n).sum - (srv (pl n (sim cap J pl n)) (sim cap J pl n, cap n)).1.sum ≤ cap n
    have a' : (sim cap J pl n).sum - (srv (pl n (sim cap J pl n)) (sim cap J pl n, cap n)).1.sum = cap n - (srv (pl n (sim cap J pl n)) (sim cap J pl n, cap n)).2 := a
    rw [a']
    omega
/-- a schedule that keeps the dues: the one that takes the earliest due first keeps them -/
theorem best {cap : Nat → Int} {J : List Jb} {L : Nat → List Int} (S : Sch cap J L) (K : Kept J L) (hcap : ∀ n, 0 ≤ cap n) (hc : ∀ j ∈ J, 0 ≤ j.c) (hr : ∀ j ∈ J, 0 ≤ j.r ∧ j.r < j.d) (hs : ByDue J) (n : Nat) : ¬ late n (st cap J n) :=
  never hcap hc hr hs (S.win K fun j hj => by have := hr j hj; omega) n
end Edf

namespace Edf
/-! the earliest due first, as a schedule -/
def lf (cap : Nat → Int) (J : List Jb) (n : Nat) : List Int := (st cap J n).map (·.c)
theorem svJ_facts {n : Int} : ∀ {S : List Jb} {u : Int}, 0 ≤ u → (∀ j ∈ S, 0 ≤ j.c) →
    (∀ i, gi ((svJ n u S).map (·.c)) i ≤ gi (S.map (·.c)) i) ∧ (∀ i, gi ((svJ n u S).map (·.c)) i < gi (S.map (·.c)) i → ∃ b, S[i]? = some b ∧ b.r ≤ n) ∧ (S.map (·.c)).sum - ((svJ n u S).map (·.c)).sum = u - svU n u S ∧ 0 ≤ svU n u S
  | [], u, hu, _ => ⟨fun i => Int.le_refl _, fun i h => absurd h (Int.lt_irrefl _), by show (0 : Int) - 0 = u - u; omega, hu⟩
  | j :: S, u, hu, hc => by
    have hj := hc j List.mem_cons_self
    have hnn := sv1_nn (n := n) hu hj
    obtain ⟨h1, h2, h3, h4⟩ := svJ_facts (S := S) (n := n) hnn.2 fun x hx => hc x (List.mem_cons_of_mem _ hx)
    have e : (sv1 n u j).1.c ≤ j.c ∧ ((sv1 n u j).1.c < j.c → j.r ≤ n) ∧ j.c - (sv1 n u j).1.c = u - (sv1 n u j).2 := by
      unfold sv1
      split
      · rename_i q
        have a : ({ j with c := j.c - min u j.c } : Jb).c = j.c - min u j.c := rfl
        refine ⟨?_, fun _ => q.1, ?_⟩
        · show j.c - min u j.c ≤ j.c; omega
        · show j.c - (j.c - min u j.c) = u - (u - min u j.c); omega
      · exact ⟨Int.le_refl _, fun h => absurd h (Int.lt_irrefl _), by show j.c - j.c = u - u; omega⟩
    obtain ⟨e1, e2, e3⟩ := e
    show (∀ i, gi ((sv1 n u j).1.c :: (svJ n (sv1 n u j).2 S).map (·.c)) i ≤ gi (j.c :: S.map (·.c)) i) ∧ (∀ i, gi ((sv1 n u j).1.c :: (svJ n (sv1 n u j).2 S).map (·.c)) i < gi (j.c :: S.map (·.c)) i → ∃ b, (j :: S)[i]? = some b ∧ b.r ≤ n) ∧
      (j.c :: S.map (·.c)).sum - ((sv1 n u j).1.c :: (svJ n (sv1 n u j).2 S).map (·.c)).sum = u - svU n (sv1 n u j).2 S ∧ 0 ≤ svU n (sv1 n u j).2 S
    refine ⟨fun i => ?_, fun i h => ?_, ?_, h4⟩
    · cases i with
      | zero => exact e1
      | succ i => rw [gi_cons, gi_cons]; exact h1 i
    · cases i with
      | zero => exact ⟨j, rfl, e2 h⟩
      | succ i => rw [gi_cons, gi_cons] at h; obtain ⟨b, x, y⟩ := h2 i h; exact ⟨b, by simpa using x, y⟩
    · rw [List.sum_cons, List.sum_cons]; omega
theorem st_at {cap : Nat → Int} {J : List Jb} {n i : Nat} {b : Jb} (e : (st cap J n)[i]? = some b) : ∃ j, J[i]? = some j ∧ fr b = fr j := by
  have h : ((st cap J n).map fr)[i]? = (J.map fr)[i]? := by rw [st_fr]
  rw [List.getElem?_map, List.getElem?_map, e] at h
  cases q : J[i]? with
  | none => rw [q] at h; cases h
  | some j => rw [q] at h; exact ⟨j, rfl, Option.some.inj h⟩
theorem st_len (cap : Nat → Int) (J : List Jb) (n : Nat) : (st cap J n).length = J.length := by
  have := congrArg List.length (st_fr cap J n)
  rwa [List.length_map, List.length_map] at this
theorem st_sch {cap : Nat → Int} {J : List Jb} (hcap : ∀ n, 0 ≤ cap n) (hc : ∀ j ∈ J, 0 ≤ j.c) : Sch cap J (lf cap J) := by
  have D := fun n : Nat => svJ_facts (n := (n : Int)) (S := st cap J n) (hcap n) (st_nn hcap hc n)
  refine ⟨fun n => by unfold lf; rw [List.length_map, st_len], rfl, fun n i => ?_, fun n i => (D n).1 i, fun n i j e z => ?_, fun n => ?_⟩
  · unfold lf
    by_cases q : i < (st cap J n).length
    · rw [gi_of (x := ((st cap J n)[i]).c) (by rw [List.getElem?_map, List.getElem?_eq_getElem q]; rfl)]
      exact st_nn hcap hc n _ (List.getElem_mem q)
    · rw [gi_out (by rw [List.length_map]; omega)]; exact Int.le_refl _
  · obtain ⟨b, e1, h⟩ := (D n).2.1 i z
    obtain ⟨j', e2, h2⟩ := st_at e1
    rw [e] at e2; cases e2
    have : b.r = j.r := congrArg (·.2.1) h2
    omega
  · have a := (D n).2.2.1
    have b := (D n).2.2.2
    show ((st cap J n).map (·.c)).sum - ((svJ n (cap n) (st cap J n)).map (·.c)).sum ≤ cap n
    rw [a]; omega
/-- any schedule that keeps the dues: so does the earliest due first -/
theorem best_kept {cap : Nat → Int} {J : List Jb} {L : Nat → List Int} (S : Sch cap J L) (K : Kept J L) (hcap : ∀ n, 0 ≤ cap n) (hc : ∀ j ∈ J, 0 ≤ j.c) (hr : ∀ j ∈ J, 0 ≤ j.r ∧ j.r < j.d) (hs : ByDue J) : Kept J (lf cap J) := fun i j ej => by
  have hb := best S K hcap hc hr hs j.d.toNat
  have hj := List.mem_of_getElem? ej
  have hl : i < (st cap J j.d.toNat).length := by rw [st_len]; exact (List.getElem?_eq_some_iff.mp ej).1
  have e := List.getElem?_eq_getElem hl
  obtain ⟨j', e2, h2⟩ := st_at e
  rw [ej] at e2; cases e2
  have hd : ((st cap J j.d.toNat)[i]).d = j.d := congrArg (·.1) h2
  have hnn := st_nn hcap hc j.d.toNat _ (List.getElem_mem hl)
  unfold lf
  rw [gi_of (x := ((st cap J j.d.toNat)[i]).c) (by rw [List.getElem?_map, e]; rfl)]
  by_cases q : 0 < ((st cap J j.d.toNat)[i]).c
  · exact absurd ⟨_, List.getElem_mem hl, by have := hr j hj; omega, q⟩ hb
  · omega
end Edf

namespace Pu
open PySem PySem.Spec PyProof.Rows L2
/-! ### the combinators, applied -/
section
variable (ρ : PEnv) (a b : Ev) (as bs ks : Av) (t u : Tv) (s s2 : Sv) (g : D → D → Option D) (f : D → Option D) (h : List D → Option D) (i : Nat) (gv : Gv) (Fn : List D → Res D)
@[simp] theorem eC_ap (d : D) : eC d ρ = .ok d := rfl
@[simp] theorem eN_ap : eN i ρ = match ρ[i]? with | some (.val d) => .ok d | _ => .stuck := rfl
@[simp] theorem eB_ap : eB i ρ = match ρ[i]? with | some (.val d) => .ok d | some (.own ds) => .ok (.lst ds) | _ => .stuck := rfl
@[simp] theorem e1_ap : e1 f a ρ = (a ρ).bind fun x => Res.of (f x) := rfl
@[simp] theorem e2_ap : e2 g a b ρ = (a ρ).bind fun x => (b ρ).bind fun y => Res.of (g x y) := rfl
@[simp] theorem aN_ap : aN ρ = .ok [] := rfl
@[simp] theorem aC_ap : aC a as ρ = (a ρ).bind fun x => (as ρ).bind fun xs => .ok (x :: xs) := rfl
@[simp] theorem aApp_ap : aApp as ks ρ = (as ρ).bind fun xs => (ks ρ).bind fun ys => .ok (xs ++ ys) := rfl
@[simp] theorem eF_ap : eF h as ρ = (as ρ).bind fun xs => Res.of (h xs) := rfl
@[simp] theorem eL_ap : eL as ρ = (as ρ).bind fun ds => .ok (.lst ds) := rfl
@[simp] theorem eT_ap : eT as ρ = (as ρ).bind fun ds => .ok (.tup ds) := rfl
@[simp] theorem asB_bl (x : Bool) : asB (.bl x) = .ok x := rfl
@[simp] theorem tV_ap : tV a ρ = (a ρ).bind asB := rfl
@[simp] theorem tAnd_ap : tAnd' t u ρ = (t ρ).bind fun x => if x = true then u ρ else .ok false := rfl
@[simp] theorem tOr_ap : tOr' t u ρ = (t ρ).bind fun x => if x = true then .ok true else u ρ := rfl
@[simp] theorem tNot_ap : tNot' t ρ = (t ρ).bind fun x => .ok (!x) := rfl
@[simp] theorem tYes_ap : tYes' ρ = .ok true := rfl
@[simp] theorem eIf_ap : eIf t a b ρ = (t ρ).bind fun x => if x = true then a ρ else b ρ := rfl
@[simp] theorem eCall_ap : eCall Fn as ρ = (as ρ).bind fun ds => (Fn ds).nx := rfl
@[simp] theorem eCallB_ap : eCallB Fn as ρ = (as ρ).bind fun ds => (Fn ds).nx.bind scal' := rfl
@[simp] theorem eCallX_ap : eCallX Fn as ρ = (as ρ).bind Fn := rfl
@[simp] theorem scal_int (n : Int) : scal' (.int n) = .ok (.int n) := rfl
@[simp] theorem scal_bl (n : Bool) : scal' (.bl n) = .ok (.bl n) := rfl
@[simp] theorem eMake_ap (C : Nat) (F : List D → Res (List (Str × D))) : eMake C F as ρ = (as ρ).bind fun ds => (F ds).nx.bind fun fs => .ok (.obj C fs) := rfl
@[simp] theorem eMeth_ap (C : Nat) (m : Str) : eMeth C m Fn a as ρ = (a ρ).bind fun x => if oOk C m x = true then (as ρ).bind fun ds => (Fn (x :: ds)).nx else .stuck := rfl
theorem eProp_ap (C : Nat) : eProp C Fn a ρ = (a ρ).bind fun x => match x with | .obj C' fs => if C' = C then (Fn [.obj C' fs]).nx else .stuck | _ => .stuck := rfl
@[simp] theorem sNil_ap : sNil ρ = .nx ρ := rfl
@[simp] theorem sSeq_ap : sSeq s s2 ρ = match s ρ with | .nx ρ' => s2 ρ' | o => o := rfl
@[simp] theorem sSet_ap : sSet i a ρ = Out.of (a ρ) fun d => .nx (ρ.set i (.val d)) := rfl
@[simp] theorem sOwn_ap : sOwn i as ρ = Out.of (as ρ) fun ds => if i < ρ.length then .nx (ρ.set i (.own ds)) else .stuck := rfl
@[simp] theorem sTo_ap : sTo gv a ρ = Out.of (a ρ) fun d => match gv d ρ with | some ρ' => .nx ρ' | none => .stuck := rfl
@[simp] theorem sIf_ap : sIf t s s2 ρ = Out.of (t ρ) fun x => if x = true then s ρ else s2 ρ := rfl
@[simp] theorem sRet_ap : sRet a ρ = Out.of (a ρ) .rt := rfl
@[simp] theorem sDrop_ap : sDrop a ρ = Out.of (a ρ) fun _ => .nx ρ := rfl
@[simp] theorem sFrz_ap : sFrz i s ρ = s (frz i ρ) := rfl
@[simp] theorem frz_ap : frz i ρ = match ρ[i]? with | some (.own ds) => ρ.set i (.val (.lst ds)) | _ => ρ := rfl
@[simp] theorem sApp_ap : sApp i a ρ = match ρ[i]? with | some (.own ds) => Out.of (a ρ) fun d => if ds.length < sizeLine then .nx (ρ.set i (.own (ds ++ [d]))) else .stuck | _ => .stuck := rfl
@[simp] theorem sAug_ap : sAug i g a ρ = match ρ[i]? with | some (.val d) => Out.of (a ρ) fun y => (match g d y with | some z => .nx (ρ.set i (.val z)) | none => .stuck) | _ => .stuck := rfl
@[simp] theorem sFor_ap : sFor as gv s ρ = Out.of (as ρ) fun ds => forS gv s ds ρ := rfl
@[simp] theorem gN_ap (d : D) : gN i d ρ = some (ρ.set i (.val d)) := rfl
@[simp] theorem gT_ap (is : List Nat) (ds : List D) : gT is (.tup ds) ρ = gTs is ds ρ := rfl
@[simp] theorem gTs_nil : gTs [] [] ρ = some ρ := rfl
@[simp] theorem gTs_cons (is : List Nat) (d : D) (ds : List D) : gTs (i :: is) (d :: ds) ρ = gTs is ds (ρ.set i (.val d)) := rfl
@[simp] theorem iS_ap : iS a ρ = (a ρ).bind asSeq := rfl
@[simp] theorem asSeq_lst (ds : List D) : asSeq (.lst ds) = .ok ds := rfl
@[simp] theorem asSeq_tup (ds : List D) : asSeq (.tup ds) = .ok ds := rfl
@[simp] theorem asSeq_str (z : Str) : asSeq (.str z) = .ok (z.cps.toList.map fun c => .str ⟨#[c]⟩) := rfl
@[simp] theorem iE_ap : iE as ρ = (as ρ).bind asE := rfl
@[simp] theorem asE_lst (ds : List D) : asE [.lst ds] = .ok (prs 0 ds) := rfl
@[simp] theorem asE_tup (ds : List D) : asE [.tup ds] = .ok (prs 0 ds) := rfl
@[simp] theorem iR1_ap : iR1 as ρ = (as ρ).bind asR1 := rfl
@[simp] theorem iR2_ap : iR2 as ρ = (as ρ).bind asR2 := rfl
@[simp] theorem lLc_ap (ix : List Nat) : lLc as gv ix t a ρ = (as ρ).bind fun ds => if ds.length ≤ sizeLine then lcGo gv t a (wipeR ρ ix) ds else .stuck := rfl
@[simp] theorem wipeR_nil : wipeR ρ [] = ρ := rfl
@[simp] theorem wipeR_cons (v : Nat) (vs : List Nat) : wipeR ρ (v :: vs) = (wipeR ρ vs).set v .un := rfl
@[simp] theorem eTupF_lst (ds : List D) (h : as ρ = .ok [.lst ds]) : eTupF as ρ = .ok (.tup ds) := by unfold eTupF; rw [h]; rfl
@[simp] theorem lList_ap : lList as ρ = (as ρ).bind fun xs => match xs with | [.lst ds] => if ds.length ≤ sizeLine then .ok ds else .stuck | [.tup ds] => if ds.length ≤ sizeLine then .ok ds else .stuck | _ => .stuck := rfl
@[simp] theorem lCat_ap : lCat a b ρ = (a ρ).bind fun x => (b ρ).bind fun y => match x, y with | .lst ds, .lst es => if ds.length + es.length ≤ sizeLine then .ok (ds ++ es) else .stuck | _, _ => .stuck := rfl
@[simp] theorem lSl_ap (lo hi : Ov) : lSl a lo hi ρ = (a ρ).bind fun x => (lo ρ).bind fun l => (hi ρ).bind fun h => match x with | .lst ds => if ds.length ≤ sizeLine then .ok (cutD ds l h) else .stuck | .scr ns => if ns.length ≤ sizeLine then .ok (cutD (ns.map D.int) l h) else .stuck | _ => .stuck := rfl
@[simp] theorem oN_ap : oN ρ = .ok none := rfl
@[simp] theorem oS_ap : oS a ρ = (a ρ).bind asI := rfl
@[simp] theorem asI_int (n : Int) : asI (.int n) = .ok (some n) := rfl
@[simp] theorem eCh_ap (g' : D → D → Option D) (d : Ev) : eCh g g' a b d ρ = (a ρ).bind fun x => (b ρ).bind fun y => (Res.of (g x y)).bind fun z => (asB z).bind fun k => if k = true then (d ρ).bind fun w => Res.of (g' y w) else .ok (.bl false) := rfl
end
section
variable (i j : Int) (x y : Bool) (s t : Str)
@[simp] theorem opAdd_int : opAdd (.int i) (.int j) = some (.int (i + j)) := rfl
@[simp] theorem opAddI_int : opAddI (.int i) (.int j) = some (.int (i + j)) := rfl
@[simp] theorem opSub_int : opSub (.int i) (.int j) = some (.int (i - j)) := rfl
@[simp] theorem opNeg_int : opNeg (.int i) = some (.int (-i)) := rfl
@[simp] theorem opLt_int : opLt (.int i) (.int j) = some (.bl (decide (i < j))) := rfl
@[simp] theorem opLe_int : opLe (.int i) (.int j) = some (.bl (decide (i ≤ j))) := rfl
@[simp] theorem opGt_int : opGt (.int i) (.int j) = some (.bl (decide (j < i))) := rfl
@[simp] theorem opGe_int : opGe (.int i) (.int j) = some (.bl (decide (j ≤ i))) := rfl
@[simp] theorem opEq_int : opEq (.int i) (.int j) = some (.bl (decide (i = j))) := rfl
@[simp] theorem opNe_int : opNe (.int i) (.int j) = some (.bl (!decide (i = j))) := rfl
@[simp] theorem opEq_str : opEq (.str s) (.str t) = some (.bl (decide (s = t))) := rfl
@[simp] theorem opNe_str : opNe (.str s) (.str t) = some (.bl (!decide (s = t))) := rfl
theorem opMul_of (h : -1000000000000 ≤ j ∧ j ≤ 1000000000000) : opMul (.int i) (.int j) = some (.int (i * j)) := by
  show (if (small64 j || small64 i) = true then _ else _) = _
  rw [if_pos]
  simp only [small64, Bool.or_eq_true, Bool.and_eq_true, decide_eq_true_eq]; omega
theorem opMul_of' (h : -1000000000000 ≤ i ∧ i ≤ 1000000000000) : opMul (.int i) (.int j) = some (.int (i * j)) := by
  show (if (small64 j || small64 i) = true then _ else _) = _
  rw [if_pos]
  simp only [small64, Bool.or_eq_true, Bool.and_eq_true, decide_eq_true_eq]; omega
theorem opDiv_of (h : 0 < j) (h2 : j < 1073741824) : opDiv (.int i) (.int j) = some (.int (i / j)) := by
  show (if divOk j = true then _ else _) = _
  rw [if_pos]
  simp [divOk, h, h2]
theorem opMod_of (h : 0 < j) : opMod (.int i) (.int j) = some (.int (i % j)) := by
  show (if decide (0 < j) = true then _ else _) = _
  rw [if_pos]
  simp [h]
@[simp] theorem opIsN_non : opIsN .non .non = some (.bl true) := rfl
@[simp] theorem opIsN_int : opIsN (.int i) .non = some (.bl false) := rfl
@[simp] theorem opIsN_obj (C : Nat) (fs : List (Str × D)) : opIsN (.obj C fs) .non = some (.bl false) := rfl
@[simp] theorem opNotN_non : opNotN .non .non = some (.bl false) := rfl
@[simp] theorem opNotN_int : opNotN (.int i) .non = some (.bl true) := rfl
@[simp] theorem opNotN_obj (C : Nat) (fs : List (Str × D)) : opNotN (.obj C fs) .non = some (.bl true) := rfl
@[simp] theorem fLen_lst (ds : List D) : fLen [.lst ds] = some (.int ds.length) := rfl
@[simp] theorem fLen_tup (ds : List D) : fLen [.tup ds] = some (.int ds.length) := rfl
@[simp] theorem fLen_scr (ds : List Int) : fLen [.scr ds] = some (.int ds.length) := rfl
@[simp] theorem fAbs_int : fAbs [.int i] = some (.int (if i < 0 then -i else i)) := rfl
@[simp] theorem fInt_int : fInt [.int i] = some (.int i) := rfl
@[simp] theorem fMax2_int : fMax2 [.int i, .int j] = some (.int (max i j)) := rfl
@[simp] theorem fMin2_int : fMin2 [.int i, .int j] = some (.int (min i j)) := rfl
@[simp] theorem fGcd_int : fGcd [.int i, .int j] = some (.int ((Nat.gcd i.natAbs j.natAbs : Nat) : Int)) := rfl
theorem fMaxL_map {ns : List Int} (h : ns ≠ []) : fMaxL [.lst (ns.map D.int)] = some (.int (maxL ns)) := by
  show ((ints? (ns.map D.int)).bind fun ns => _) = _
  rw [ints?_map]
  cases ns with
  | nil => exact absurd rfl h
  | cons n ns => rfl
theorem atI_nat {α : Type} {xs : List α} {n : Nat} (h : n < xs.length) : atI xs (n : Int) = xs[n]? := by
  unfold atI ixN
  rw [if_pos (by omega), if_pos (by omega)]
  simp
theorem ix_lst {ds : List D} {n : Nat} (h : n < ds.length) : opIx (.lst ds) (.int (n : Int)) = some ds[n] := by
  show atI ds _ = _
  rw [atI_nat h, List.getElem?_eq_getElem h]
theorem ix_tup {ds : List D} {n : Nat} (h : n < ds.length) : opIx (.tup ds) (.int (n : Int)) = some ds[n] := by
  show atI ds _ = _
  rw [atI_nat h, List.getElem?_eq_getElem h]
theorem ix_lst' {ds : List D} {i : Int} {n : Nat} {d : D} (hi : i = n) (h : ds[n]? = some d) : opIx (.lst ds) (.int i) = some d := by
  obtain ⟨hn, rfl⟩ := List.getElem?_eq_some_iff.mp h
  subst hi
  exact ix_lst hn
theorem ix_tup' {ds : List D} {i : Int} {n : Nat} {d : D} (hi : i = n) (h : ds[n]? = some d) : opIx (.tup ds) (.int i) = some d := by
  obtain ⟨hn, rfl⟩ := List.getElem?_eq_some_iff.mp h
  subst hi
  exact ix_tup hn
@[simp] theorem ix_t0 (a : D) (r : List D) : opIx (.tup (a :: r)) (.int 0) = some a := ix_tup' (n := 0) rfl rfl
@[simp] theorem ix_t1 (a b : D) (r : List D) : opIx (.tup (a :: b :: r)) (.int 1) = some b := ix_tup' (n := 1) rfl rfl
@[simp] theorem ix_t2 (a b c : D) (r : List D) : opIx (.tup (a :: b :: c :: r)) (.int 2) = some c := ix_tup' (n := 2) rfl rfl
theorem asR1_of (h : -1000000 ≤ i) (h2 : i ≤ 1000000) : asR1 [.int i] = .ok (rgD 0 i) := by
  show (if rgOk i = true then _ else _) = _
  rw [if_pos]
  simp only [rgOk, Bool.and_eq_true, decide_eq_true_eq]; omega
theorem asR2_of (h : -1000000 ≤ i) (h2 : i ≤ 1000000) (h3 : -1000000 ≤ j) (h4 : j ≤ 1000000) : asR2 [.int i, .int j] = .ok (rgD i j) := by
  show (if (rgOk i && rgOk j) = true then _ else _) = _
  rw [if_pos]
  simp only [rgOk, Bool.and_eq_true, decide_eq_true_eq]; omega
end
/-! ### loops -/
/-- a loop that runs through, or ends with what R says -/
theorem forS_ind {g : Gv} {body : Sv} (R : Out → Prop) : ∀ (ds : List D) (I : Nat → PEnv → Prop) (ρ : PEnv), I 0 ρ →
    (∀ i d ρ, ds[i]? = some d → I i ρ → ∃ ρ1, g d ρ = some ρ1 ∧ ((∃ ρ2, (body ρ1 = .nx ρ2 ∨ body ρ1 = .ct ρ2) ∧ I (i + 1) ρ2) ∨ (∃ o, body ρ1 = o ∧ (match o with | .rt _ => True | .exc _ _ => True | _ => False) ∧ R o))) →
    (∃ ρ', forS g body ds ρ = .nx ρ' ∧ I ds.length ρ') ∨ R (forS g body ds ρ)
  | [], I, ρ, h0, _ => .inl ⟨ρ, rfl, h0⟩
  | d :: ds, I, ρ, h0, hs => by
    obtain ⟨ρ1, e1, h⟩ := hs 0 d ρ rfl h0
    rcases h with ⟨ρ2, e2, h2⟩ | ⟨o, e2, ho, hr⟩
    · have ih := forS_ind R ds (fun i => I (i + 1)) ρ2 h2 (fun i d ρ e hi => hs (i + 1) d ρ (by simpa using e) hi)
      have e : forS g body (d :: ds) ρ = forS g body ds ρ2 := by
        unfold forS
        rw [e1]
        rcases e2 with e2 | e2
        · simp only [e2]; cases ds <;> rfl
        · simp only [e2]; cases ds <;> rfl
      rw [e]
      exact ih
    · right
      have e : forS g body (d :: ds) ρ = o := by
        unfold forS
        rw [e1]
        simp only [e2]
        cases o <;> first | rfl | exact ho.elim
      rw [e]
      exact hr
/-- a loop that runs through -/
theorem forS_thru {g : Gv} {body : Sv} (ds : List D) (I : Nat → PEnv → Prop) (ρ : PEnv) (h0 : I 0 ρ)
    (hs : ∀ i d ρ, ds[i]? = some d → I i ρ → ∃ ρ1 ρ2, g d ρ = some ρ1 ∧ (body ρ1 = .nx ρ2 ∨ body ρ1 = .ct ρ2) ∧ I (i + 1) ρ2) : ∃ ρ', forS g body ds ρ = .nx ρ' ∧ I ds.length ρ' := by
  rcases forS_ind (fun _ => False) ds I ρ h0 (fun i d ρ e hi => by
    obtain ⟨ρ1, ρ2, e1, e2, h2⟩ := hs i d ρ e hi
    exact ⟨ρ1, e1, .inl ⟨ρ2, e2, h2⟩⟩) with h | h
  · exact h
  · exact h.elim
/-- a comprehension without a test -/
theorem lcGo_map {α : Type} {g : Gv} {ev : Ev} {ρ : PEnv} {δ : α → D} (f : α → D) : ∀ (xs : List α), (∀ x ∈ xs, ∃ ρ1, g (δ x) ρ = some ρ1 ∧ ev ρ1 = .ok (f x)) → lcGo g tYes' ev ρ (xs.map δ) = .ok (xs.map f)
  | [], _ => rfl
  | x :: xs, h => by
    obtain ⟨ρ1, e1, e2⟩ := h x List.mem_cons_self
    have ih := lcGo_map (g := g) (ev := ev) (ρ := ρ) (δ := δ) f xs fun y hy => h y (List.mem_cons_of_mem _ hy)
    show (match g (δ x) ρ with
    | none => Res.stuck
    | some ρ1 => (tYes' ρ1).nx.bind fun b => if b = true then (ev ρ1).nx.bind fun y => (lcGo g tYes' ev ρ (xs.map δ)).bind fun ys => .ok (y :: ys) else lcGo g tYes' ev ρ (xs.map δ)) = _
    rw [e1]
    simp [e2, ih]
/-- .. with a test -/
theorem lcGo_filter {α : Type} {g : Gv} {tt : Tv} {ev : Ev} {ρ : PEnv} {δ : α → D} (p : α → Bool) (f : α → D) : ∀ (xs : List α), (∀ x ∈ xs, ∃ ρ1, g (δ x) ρ = some ρ1 ∧ tt ρ1 = .ok (p x) ∧ ev ρ1 = .ok (f x)) → lcGo g tt ev ρ (xs.map δ) = .ok ((xs.filter p).map f)
  | [], _ => rfl
  | x :: xs, h => by
    obtain ⟨ρ1, e1, e2, e3⟩ := h x List.mem_cons_self
    have ih := lcGo_filter (g := g) (tt := tt) (ev := ev) (ρ := ρ) (δ := δ) p f xs fun y hy => h y (List.mem_cons_of_mem _ hy)
    show (match g (δ x) ρ with
    | none => Res.stuck
    | some ρ1 => (tt ρ1).nx.bind fun b => if b = true then (ev ρ1).nx.bind fun y => (lcGo g tt ev ρ (xs.map δ)).bind fun ys => .ok (y :: ys) else lcGo g tt ev ρ (xs.map δ)) = _
    rw [e1]
    cases hp : p x <;> simp [e2, e3, ih, hp]
theorem runFn_eq {n m : Nat} {s : Sv} {ds : List D} {r : Res D} (hl : ds.length = n) (h : (s (ini m ds)).res = r) : runFn n m s ds = r := by
  unfold runFn
  rw [if_pos hl, h]
@[simp] theorem res_rt (d : D) : (Out.rt d).res = .ok d := rfl
@[simp] theorem res_nx (ρ : PEnv) : (Out.nx ρ).res = .ok .non := rfl
@[simp] theorem res_exc (C : Nat) (fs : List (Str × D)) : (Out.exc C fs).res = .exc C fs := rfl
theorem prs_map (ds : List D) : ∀ (k : Nat) (i : Nat) (d : D), (prs k ds)[i]? = some d → ∃ x, ds[i]? = some x ∧ d = .tup [.int ((k + i : Nat) : Int), x] := by
  intro k i d h
  have hl : i < ds.length := by
    have := (List.getElem?_eq_some_iff.mp h).1
    rwa [prs_len] at this
  refine ⟨ds[i], List.getElem?_eq_getElem hl, ?_⟩
  have := prs_get (i := k) (List.getElem?_eq_getElem hl)
  rw [this] at h
  exact (Option.some.inj h).symm
theorem rgD_some {lo hi : Int} {i : Nat} {d : D} (h : (rgD lo hi)[i]? = some d) : d = .int (lo + i) ∧ lo + i < hi := by
  have hl := (List.getElem?_eq_some_iff.mp h).1
  rw [rgD_length] at hl
  rw [rgD_get hl] at h
  exact ⟨(Option.some.inj h).symm, by omega⟩
theorem rg0_some {hi : Int} {i : Nat} {d : D} (h : (rgD 0 hi)[i]? = some d) : d = .int i ∧ (i : Int) < hi := by
  obtain ⟨h1, h2⟩ := rgD_some h
  rw [Int.zero_add] at h1 h2
  exact ⟨h1, h2⟩
end Pu

namespace G88
open PySem PySem.Spec PyProof.Rows L2 Pu

def tp_POLICIES : List Str := ["deadline", "fixed", "arrival", "laxity"]
-- capacity(table, slot); names 0:table, 1:slot
def body_capacity : Sv :=
    (sRet (e2 opIx (eN 0) (e2 opMod (eN 1) (eF fLen (aC (eN 0) aN)))))
def Fn_capacity : List D → Res D := runFn 2 2 body_capacity
-- Outcome.__init__(self, slots, ends, late); names 0:self, 1:slots, 2:ends, 3:late, 4:row
def body_Outcome_init : Sv :=
    (sSeq (sFldC 0 0 "slots" (eL (lLc (iS (eN 1)) (gN 4) [4] tYes' (eL (lList (aC (eN 4) aN))))))
    (sSeq (sFldC 0 0 "ends" (eL (lLc (iS (eN 2)) (gN 4) [4] tYes' (eL (lList (aC (eN 4) aN))))))
    (sFldC 0 0 "late" (eN 3))))
def Fn_Outcome_init : List D → Res (List (Str × D)) := runIn 0 4 5 body_Outcome_init
-- first_late(jobs, ends); names 0:jobs, 1:ends, 2:job, 3:end
def body_first_late : Sv :=
    (sSeq (sFor (iS (eN 0)) (gN 2) (sSeq (sSet 3 (e2 opIx (e2 opIx (eN 1) (e2 opIx (eN 2) (eC (.int 2)))) (e2 opIx (eN 2) (eC (.int 3)))))
    (sIf (tOr' (tV (e2 opIsN (eN 3) (eC .non))) (tV (e2 opGt (eN 3) (e2 opIx (eN 2) (eC (.int 0)))))) (sRet (e2 opIx (eN 2) (eC (.int 0)))) sNil)))
    (sRet (eC .non)))
def Fn_first_late : List D → Res D := runFn 2 4 body_first_late
-- serve(jobs, left, slot, free); names 0:jobs, 1:left, 2:slot, 3:free, 4:row, 5:place, 6:job, 7:units
def body_serve : Sv :=
    (sSeq (sOwn 4 aN)
    (sSeq (sFor (iE (aC (eN 0) aN)) (gT [5, 6]) (sSeq (sIf (tV (e2 opEq (eN 3) (eC (.int 0)))) .bk sNil)
    (sIf (tAnd' (tV (e2 opLe (e2 opIx (eN 6) (eC (.int 1))) (eN 2))) (tV (e2 opGt (e2 opIx (eCell 8 (pvN 1)) (eN 5)) (eC (.int 0))))) (sSeq (sSet 7 (eF fMin2 (aC (eN 3) (aC (e2 opIx (eCell 8 (pvN 1)) (eN 5)) aN))))
    (sSeq (sAugC opSub 8 (pvN 1) (eN 5) (eN 7))
    (sSeq (sAug 3 opSub (eN 7))
    (sApp 4 (eT (aC (e2 opIx (eN 6) (eC (.int 2))) (aC (e2 opIx (eN 6) (eC (.int 3))) (aC (eN 7) aN)))))))) sNil)))
    (sFrz 4 (sRetM (xvE (eN 4))))))
def Fn_serve : FnM := runM 4 8 body_serve
-- rank(policy, job, left, slot, order); names 0:policy, 1:job, 2:left, 3:slot, 4:order, 5:instant, 6:time, 7:task, 8:release, 9:_
def body_rank : Sv :=
    (sSeq (sTo (gT [5, 6, 7, 8, 9]) (eN 1))
    (sSeq (sIf (tV (e2 opEq (eN 0) (eC (.str "deadline")))) (sRet (eT (aC (eN 5) (aC (eN 6) (aC (eN 7) (aC (eN 8) aN)))))) sNil)
    (sSeq (sIf (tV (e2 opEq (eN 0) (eC (.str "fixed")))) (sRet (eT (aC (eIdx (eN 4) (eN 7)) (aC (eN 8) (aC (eC (.int 0)) (aC (eC (.int 0)) aN)))))) sNil)
    (sSeq (sIf (tV (e2 opEq (eN 0) (eC (.str "arrival")))) (sRet (eT (aC (eN 6) (aC (eN 7) (aC (eN 8) (aC (eC (.int 0)) aN)))))) sNil)
    (sRet (eT (aC (e2 opSub (e2 opSub (eN 5) (eN 3)) (eN 2)) (aC (eN 5) (aC (eN 7) (aC (eN 8) aN))))))))))
def Fn_rank : List D → Res D := runFn 5 10 body_rank
-- is_name(text); names 0:text, 1:char
def body_is_name : Sv :=
    (sSeq (sIf (tNot' (tV (eCh opLe opLe (eC (.int 1)) (eF fLen (aC (eN 0) aN)) (eC (.int 12))))) (sRet (eC (.bl false))) sNil)
    (sRet (eF fAll (aC (eL (lLc (iS (eN 0)) (gN 1) [1] tYes' (e2 opIn (eN 1) (eC (.str "abcdefghijklmnopqrstuvwxyz0123456789"))))) aN))))
def Fn_is_name : List D → Res D := runFn 1 2 body_is_name
-- are_ways(ways, kind_names); names 0:ways, 1:kind_names, 2:source, 3:target, 4:distance
def body_are_ways : Sv :=
    (sSeq (sIf (tV (e2 opGt (eF fLen (aC (eN 0) aN)) (eC (.int 16)))) (sRet (eC (.bl false))) sNil)
    (sSeq (sFor (iS (eN 0)) (gT [2, 3, 4]) (sSeq (sIf (tOr' (tV (e2 opNotIn (eN 2) (eN 1))) (tV (e2 opNotIn (eN 3) (eN 1)))) (sRet (eC (.bl false))) sNil)
    (sIf (tNot' (tV (eCh opLe opLe (eC (.int 1)) (eN 4) (eC (.int 1000))))) (sRet (eC (.bl false))) sNil)))
    (sRet (eC (.bl true)))))
def Fn_are_ways : List D → Res D := runFn 2 5 body_are_ways
-- is_table(table); names 0:table, 1:capacity
def body_is_table : Sv :=
    (sSeq (sIf (tNot' (tV (eCh opLe opLe (eC (.int 1)) (eF fLen (aC (eN 0) aN)) (eC (.int 1001))))) (sRet (eC (.bl false))) sNil)
    (sRet (eF fAll (aC (eL (lLc (iS (eN 0)) (gN 1) [1] tYes' (eCh opLe opLe (eC (.int 0)) (eN 1) (eC (.int 1000000))))) aN))))
def Fn_is_table : List D → Res D := runFn 1 2 body_is_table
-- Task.kind_number(self, kind_name); names 0:self, 1:kind_name, 2:number, 3:kind
def body_Task_kind_number : Sv :=
    (sSeq (sFor (iE (aC (e1 (fld 1 "kinds") (eN 0)) aN)) (gT [2, 3]) (sIf (tV (e2 opEq (e2 opIx (eN 3) (eC (.int 0))) (eN 1))) (sRet (eN 2)) sNil))
    (fun _ => .stuck))
def Fn_Task_kind_number : List D → Res D := runFn 2 4 body_Task_kind_number
-- _law_row(_law_cell, _law_many); names 0:_law_cell, 1:_law_many, 2:_law_row_here, 3:_law_rest, 4:_law_k, 5:_law_mixed
def body_law_row : Sv :=
    (sSeq (sOwn 2 aN)
    (sSeq (sSet 3 (eF fAbs (aC (eF fInt (aC (eN 0) aN)) aN)))
    (sSeq (sFor (iR1 (aC (eN 1) aN)) (gN 4) (sIf (tV (e2 opGe (eF fAbs (aC (eF fInt (aC (eN 0) aN)) aN)) (e2 opPow (eC (.int 10)) (eC (.int 18))))) (sSeq (sApp 2 (e2 opMod (eF fInt (aC (eN 3) aN)) (eC (.int 1009))))
    (sSet 3 (e2 opDiv (eN 3) (eC (.int 1009))))) (sSeq (sSet 5 (e2 opMod (eF fInt (aC (e2 opAdd (e2 opMul (eN 3) (eC (.int 48271))) (e2 opMul (e2 opAdd (eN 4) (eC (.int 1))) (eC (.int 69621)))) aN)) (eC (.int 2147483647))))
    (sSeq (sSet 5 (e2 opMod (eF fInt (aC (e2 opAdd (e2 opMul (eN 5) (eC (.int 16807))) (e2 opMul (eC (.int 271)) (e2 opAdd (eN 4) (eC (.int 3))))) aN)) (eC (.int 2147483629))))
    (sApp 2 (e2 opMod (eF fInt (aC (eN 5) aN)) (eC (.int 1009))))))))
    (sFrz 2 (sRet (eN 2))))))
def Fn_law_row : List D → Res D := runFn 2 6 body_law_row
-- _law_word(_law_number); names 0:_law_number, 1:_law_chars, 2:_law_k
def body_law_word : Sv :=
    (sSeq (sSet 1 (eC (.str "abcdefghijklmnopqrstuvwxyz0123456789")))
    (sRet (eJoin (eC (.str "")) (eL (lLc (iR1 (aC (e2 opMod (eF fInt (aC (eN 0) aN)) (eC (.int 5))) aN)) (gN 2) [2] tYes' (e2 opIx (eN 1) (e2 opMod (eF fInt (aC (e2 opAdd (e2 opAdd (e2 opDiv (eN 0) (eC (.int 5))) (e2 opMul (eC (.int 7)) (eN 2))) (e2 opMul (eN 0) (eN 2))) aN)) (eC (.int 36)))))))))
def Fn_law_word : List D → Res D := runFn 1 3 body_law_word
-- _law_named(_law_word_here, _law_number, _law_k); names 0:_law_word_here, 1:_law_number, 2:_law_k, 3:_law_cut
def body_law_named : Sv :=
    (sSeq (sSet 3 (e2 opMod (eF fInt (aC (eN 1) aN)) (e2 opAdd (eF fLen (aC (eN 0) aN)) (eC (.int 1)))))
    (sRet (e2 opAdd (e2 opAdd (eSlS (eN 0) oN (oS (eN 3))) (e2 opIx (eC (.str "kq3zx9")) (eN 2))) (eSlS (eN 0) (oS (eN 3)) oN))))
def Fn_law_named : List D → Res D := runFn 3 4 body_law_named
-- _law_ways(_law_numbers_here, _law_at, _law_kinds_here); names 0:_law_numbers_here, 1:_law_at, 2:_law_kinds_here, 3:_law_ways_here, 4:_law_k, 5:_law_source, 6:_law_target
def body_law_ways : Sv :=
    (sSeq (sOwn 3 aN)
    (sSeq (sFor (iR1 (aC (e2 opMod (eF fInt (aC (e2 opIx (eN 0) (eN 1)) aN)) (eC (.int 5))) aN)) (gN 4) (sSeq (sSet 5 (e2 opIx (e2 opIx (eN 2) (e2 opMod (eF fInt (aC (e2 opIx (eN 0) (e2 opAdd (e2 opAdd (eN 1) (eC (.int 1))) (e2 opMul (eC (.int 3)) (eN 4)))) aN)) (eF fLen (aC (eN 2) aN)))) (eC (.int 0))))
    (sSeq (sSet 6 (e2 opIx (e2 opIx (eN 2) (e2 opMod (eF fInt (aC (e2 opIx (eN 0) (e2 opAdd (e2 opAdd (eN 1) (eC (.int 2))) (e2 opMul (eC (.int 3)) (eN 4)))) aN)) (eF fLen (aC (eN 2) aN)))) (eC (.int 0))))
    (sApp 3 (eT (aC (eN 5) (aC (eN 6) (aC (e2 opAdd (eC (.int 1)) (e2 opMod (eF fInt (aC (e2 opIx (eN 0) (e2 opAdd (e2 opAdd (eN 1) (eC (.int 3))) (e2 opMul (eC (.int 3)) (eN 4)))) aN)) (eC (.int 6)))) aN))))))))
    (sFrz 3 (sRet (eN 3)))))
def Fn_law_ways : List D → Res D := runFn 3 7 body_law_ways
-- _law_course(_law_numbers_here, _law_at, _law_kinds_here, _law_ways_here, _law_many); names 0:_law_numbers_here, 1:_law_at, 2:_law_kinds_here, 3:_law_ways_here, 4:_law_many, 5:_law_kind_here, 6:_law_time, 7:_law_course_here, 8:_law_k, 9:_law_choices, 10:_law_way
def body_law_course : Sv :=
    (sSeq (sIf (tV (e2 opEq (eN 4) (eC (.int 0)))) (sRet (eL aN)) sNil)
    (sSeq (sSet 5 (e2 opIx (e2 opIx (eN 2) (e2 opMod (eF fInt (aC (e2 opIx (eN 0) (eN 1)) aN)) (eF fLen (aC (eN 2) aN)))) (eC (.int 0))))
    (sSeq (sSet 6 (e2 opMod (eF fInt (aC (e2 opIx (eN 0) (e2 opAdd (eN 1) (eC (.int 1)))) aN)) (eC (.int 4))))
    (sSeq (sOwn 7 (aC (eT (aC (eN 6) (aC (eN 5) aN))) aN))
    (sSeq (sFor (iR1 (aC (e2 opSub (eN 4) (eC (.int 1))) aN)) (gN 8) (sSeq (sSet 9 (eL (lLc (iS (eN 3)) (gN 10) [10] (tV (e2 opEq (e2 opIx (eN 10) (eC (.int 0))) (eN 5))) (eN 10))))
    (sSeq (sIf (tV (e2 opEq (eF fLen (aC (eN 9) aN)) (eC (.int 0)))) (sFrz 7 (sRet (eN 7))) sNil)
    (sSeq (sSet 10 (e2 opIx (eN 9) (e2 opMod (eF fInt (aC (e2 opIx (eN 0) (e2 opAdd (e2 opAdd (eN 1) (eC (.int 2))) (e2 opMul (eC (.int 2)) (eN 8)))) aN)) (eF fLen (aC (eN 9) aN)))))
    (sSeq (sSet 6 (e2 opAdd (e2 opAdd (eN 6) (e2 opIx (eN 10) (eC (.int 2)))) (eF fMax2 (aC (eC (.int 0)) (aC (e2 opSub (e2 opMod (eF fInt (aC (e2 opIx (eN 0) (e2 opAdd (e2 opAdd (eN 1) (eC (.int 3))) (e2 opMul (eC (.int 2)) (eN 8)))) aN)) (eC (.int 6))) (eC (.int 3))) aN)))))
    (sSeq (sSet 5 (e2 opIx (eN 10) (eC (.int 1))))
    (sApp 7 (eT (aC (eN 6) (aC (eN 5) aN))))))))))
    (sFrz 7 (sRet (eN 7))))))))
def Fn_law_course : List D → Res D := runFn 5 11 body_law_course
-- _law_table(_law_numbers_here, _law_at, _law_scale); names 0:_law_numbers_here, 1:_law_at, 2:_law_scale, 3:_law_k
def body_law_table : Sv :=
    (sRet (eL (lLc (iR1 (aC (e2 opAdd (eC (.int 1)) (e2 opMod (eF fInt (aC (e2 opIx (eN 0) (eN 1)) aN)) (eC (.int 4)))) aN)) (gN 3) [3] tYes' (e2 opMul (eN 2) (e2 opMod (eF fInt (aC (e2 opIx (eN 0) (e2 opAdd (e2 opAdd (eN 1) (eC (.int 1))) (eN 3))) aN)) (eC (.int 4)))))))
def Fn_law_table : List D → Res D := runFn 3 4 body_law_table
-- _law_copy(_law_rows); names 0:_law_rows, 1:_law_row_here
def body_law_copy : Sv :=
    (sRet (eL (lLc (iS (eN 0)) (gN 1) [1] tYes' (eL (lList (aC (eN 1) aN))))))
def Fn_law_copy : List D → Res D := runFn 1 2 body_law_copy
-- _law_kind(_law_task, _law_name); names 0:_law_task, 1:_law_name, 2:_law_kind_here
def body_law_kind : Sv :=
    (sRet (e2 opIx (eL (lLc (iS (e2 opIx (eN 0) (eC (.int 1)))) (gN 2) [2] (tV (e2 opEq (e2 opIx (eN 2) (eC (.int 0))) (eN 1))) (eN 2))) (eC (.int 0))))
def Fn_law_kind : List D → Res D := runFn 2 3 body_law_kind
-- _law_last(_law_jobs_here); names 0:_law_jobs_here, 1:_law_job
def body_law_last : Sv :=
    (sRet (eMaxD (aC (eL (lLc (iS (eN 0)) (gN 1) [1] tYes' (e2 opIx (eN 1) (eC (.int 0))))) aN) (eC (.int 0))))
def Fn_law_last : List D → Res D := runFn 1 2 body_law_last
-- _law_ends(_law_jobs_here, _law_slots); names 0:_law_jobs_here, 1:_law_slots, 2:_law_ends_here, 3:_law_job, 4:_law_got, 5:_law_end, 6:_law_slot, 7:_law_part
def body_law_ends : Sv :=
    (sSeq (sOwn 2 aN)
    (sSeq (sFor (iS (eN 0)) (gN 3) (sSeq (sSet 4 (eC (.int 0)))
    (sSeq (sSet 5 (eC .non))
    (sSeq (sFor (iR1 (aC (eF fLen (aC (eN 1) aN)) aN)) (gN 6) (sFor (iS (e2 opIx (eN 1) (eN 6))) (gN 7) (sIf (tAnd' (tV (e2 opEq (e2 opIx (eN 7) (eC (.int 0))) (e2 opIx (eN 3) (eC (.int 2))))) (tV (e2 opEq (e2 opIx (eN 7) (eC (.int 1))) (e2 opIx (eN 3) (eC (.int 3)))))) (sSeq (sSet 4 (e2 opAdd (eN 4) (e2 opIx (eN 7) (eC (.int 2)))))
    (sIf (tAnd' (tV (e2 opEq (eN 4) (e2 opIx (eN 3) (eC (.int 4))))) (tV (e2 opIsN (eN 5) (eC .non)))) (sSet 5 (e2 opAdd (eN 6) (eC (.int 1)))) sNil)) sNil)))
    (sApp 2 (eN 5))))))
    (sFrz 2 (sRet (eN 2)))))
def Fn_law_ends : List D → Res D := runFn 2 8 body_law_ends
-- _law_late(_law_jobs_here, _law_ends_here); names 0:_law_jobs_here, 1:_law_ends_here, 2:_law_k
def body_law_late : Sv :=
    (sSeq (sFor (iR1 (aC (eF fLen (aC (eN 0) aN)) aN)) (gN 2) (sIf (tOr' (tV (e2 opIsN (e2 opIx (eN 1) (eN 2)) (eC .non))) (tV (e2 opGt (e2 opIx (eN 1) (eN 2)) (e2 opIx (e2 opIx (eN 0) (eN 2)) (eC (.int 0)))))) (sRet (e2 opIx (e2 opIx (eN 0) (eN 2)) (eC (.int 0)))) sNil))
    (sRet (eC .non)))
def Fn_law_late : List D → Res D := runFn 2 3 body_law_late
-- _law_is_integer(_law_actual); names 0:_law_actual
def body_law_is_integer : Sv :=
    (sRet (eAnd (eIsi .int (eN 0)) (e1 opNotB (eIsi .bool (eN 0)))))
def Fn_law_is_integer : List D → Res D := runFn 1 1 body_law_is_integer
-- _law_rank(_law_policy_here, _law_job, _law_left, _law_slot, _law_order); names 0:_law_policy_here, 1:_law_job, 2:_law_left, 3:_law_slot, 4:_law_order
def body_law_rank : Sv :=
    (sSeq (sIf (tV (e2 opEq (eN 0) (eC (.str "deadline")))) (sRet (eT (aC (e2 opIx (eN 1) (eC (.int 0))) (aC (e2 opIx (eN 1) (eC (.int 1))) (aC (e2 opIx (eN 1) (eC (.int 2))) (aC (e2 opIx (eN 1) (eC (.int 3))) aN)))))) sNil)
    (sSeq (sIf (tV (e2 opEq (eN 0) (eC (.str "fixed")))) (sRet (eT (aC (eIdx (eN 4) (e2 opIx (eN 1) (eC (.int 2)))) (aC (e2 opIx (eN 1) (eC (.int 3))) (aC (eC (.int 0)) (aC (eC (.int 0)) aN)))))) sNil)
    (sSeq (sIf (tV (e2 opEq (eN 0) (eC (.str "arrival")))) (sRet (eT (aC (e2 opIx (eN 1) (eC (.int 1))) (aC (e2 opIx (eN 1) (eC (.int 2))) (aC (e2 opIx (eN 1) (eC (.int 3))) (aC (eC (.int 0)) aN)))))) sNil)
    (sRet (eT (aC (e2 opSub (e2 opSub (e2 opIx (eN 1) (eC (.int 0))) (eN 3)) (eN 2)) (aC (e2 opIx (eN 1) (eC (.int 0))) (aC (e2 opIx (eN 1) (eC (.int 2))) (aC (e2 opIx (eN 1) (eC (.int 3))) aN)))))))))
def Fn_law_rank : List D → Res D := runFn 5 5 body_law_rank
-- _law_orders(_law_count); names 0:_law_count, 1:_law_orders_here, 2:_law_k, 3:_law_longer, 4:_law_order, 5:_law_at
def body_law_orders : Sv :=
    (sSeq (sSet 1 (eL (aC (eL aN) aN)))
    (sSeq (sFor (iR1 (aC (eN 0) aN)) (gN 2) (sSeq (sOwn 3 aN)
    (sSeq (sFor (iS (eN 1)) (gN 4) (sFor (iR1 (aC (eN 0) aN)) (gN 5) (sIf (tV (e2 opNotIn (eN 5) (eN 4))) (sApp 3 (eL (lCat (eN 4) (eL (aC (eN 5) aN))))) sNil)))
    (sFrz 3 (sSet 1 (eN 3))))))
    (sRet (eN 1))))
def Fn_law_orders : List D → Res D := runFn 1 6 body_law_orders
-- ready_places(policy, jobs, left, slot, order); names 0:policy, 1:jobs, 2:left, 3:slot, 4:order, 5:ready, 6:place, 7:job, 8:pair
def body_ready_places : Sv :=
    (sSeq (sOwn 5 aN)
    (sSeq (sFor (iE (aC (eN 1) aN)) (gT [6, 7]) (sIf (tAnd' (tV (e2 opLe (e2 opIx (eN 7) (eC (.int 1))) (eN 3))) (tV (e2 opGt (e2 opIx (eCell 9 (pvN 2)) (eN 6)) (eC (.int 0))))) (sApp 5 (eT (aC (eCall Fn_rank (aC (eN 0) (aC (eN 7) (aC (e2 opIx (eCell 9 (pvN 2)) (eN 6)) (aC (eN 3) (aC (eN 4) aN)))))) (aC (eN 6) aN)))) sNil))
    (sRetM (xvE (eL (lLc (iS (eL (lSrt (eB 5)))) (gN 8) [8] tYes' (e2 opIx (eN 8) (eC (.int 1)))))))))
def Fn_ready_places : FnM := runM 5 9 body_ready_places
-- are_kinds(kinds); names 0:kinds, 1:seen, 2:name, 3:cost, 4:deadline
def body_are_kinds : Sv :=
    (sSeq (sIf (tNot' (tV (eCh opLe opLe (eC (.int 1)) (eF fLen (aC (eN 0) aN)) (eC (.int 8))))) (sRet (eC (.bl false))) sNil)
    (sSeq (sOwn 1 aN)
    (sSeq (sFor (iS (eN 0)) (gT [2, 3, 4]) (sSeq (sIf (tOr' (tNot' (tV (eCall Fn_is_name (aC (eN 2) aN)))) (tV (e2 opIn (eN 2) (eB 1)))) (sRet (eC (.bl false))) sNil)
    (sSeq (sIf (tOr' (tNot' (tV (eCh opLe opLe (eC (.int 1)) (eN 3) (eC (.int 1000))))) (tNot' (tV (eCh opLe opLe (eC (.int 1)) (eN 4) (eC (.int 1000)))))) (sRet (eC (.bl false))) sNil)
    (sApp 1 (eN 2)))))
    (sRet (eC (.bl true))))))
def Fn_are_kinds : List D → Res D := runFn 1 5 body_are_kinds
-- Task.cost(self, kind_name); names 0:self, 1:kind_name
def body_Task_cost : Sv :=
    (sRet (e2 opIx (e2 opIx (e1 (fld 1 "kinds") (eN 0)) (eMeth 1 "kind_number" Fn_Task_kind_number (eN 0) (aC (eN 1) aN))) (eC (.int 1))))
def Fn_Task_cost : List D → Res D := runFn 2 2 body_Task_cost
-- Task.deadline(self, kind_name); names 0:self, 1:kind_name
def body_Task_deadline : Sv :=
    (sRet (e2 opIx (e2 opIx (e1 (fld 1 "kinds") (eN 0)) (eMeth 1 "kind_number" Fn_Task_kind_number (eN 0) (aC (eN 1) aN))) (eC (.int 2))))
def Fn_Task_deadline : List D → Res D := runFn 2 2 body_Task_deadline
-- Task.ways_from(self, kind_name); names 0:self, 1:kind_name, 2:way
def body_Task_ways_from : Sv :=
    (sSeq (sDrop (eMeth 1 "kind_number" Fn_Task_kind_number (eN 0) (aC (eN 1) aN)))
    (sRet (eL (lLc (iS (e1 (fld 1 "ways") (eN 0))) (gN 2) [2] (tV (e2 opEq (e2 opIx (eN 2) (eC (.int 0))) (eN 1))) (eT (aC (e2 opIx (eN 2) (eC (.int 1))) (aC (e2 opIx (eN 2) (eC (.int 2))) aN)))))))
def Fn_Task_ways_from : List D → Res D := runFn 2 3 body_Task_ways_from
-- System.__init__(self, tasks, table); names 0:self, 1:tasks, 2:table, 3:names, 4:task
def body_System_init : Sv :=
    (sSeq (sIf (tNot' (tV (eCall Fn_is_table (aC (eN 2) aN)))) (fun _ => .stuck) sNil)
    (sSeq (sOwn 3 aN)
    (sSeq (sFor (iS (eN 1)) (gN 4) (sSeq (sIf (tV (e2 opIn (e1 (fld 1 "name") (eN 4)) (eB 3))) (fun _ => .stuck) sNil)
    (sApp 3 (e1 (fld 1 "name") (eN 4)))))
    (sSeq (sIf (tV (e2 opGt (eF fLen (aC (eB 3) aN)) (eC (.int 6)))) (fun _ => .stuck) sNil)
    (sSeq (sFldC 2 0 "tasks" (eTupF (aC (eN 1) aN)))
    (sFldC 2 0 "table" (eTupF (aC (eN 2) aN))))))))
def Fn_System_init : List D → Res (List (Str × D)) := runIn 2 3 5 body_System_init
-- _law_numbers(_law_script, _law_many); names 0:_law_script, 1:_law_many, 2:_law_cells, 3:_law_each, 4:_law_numbers_here, 5:_law_cell, 6:_law_number
def body_law_numbers : Sv :=
    (sSeq (sSet 2 (eL (lSl (eN 0) oN (oS (eC (.int 63))))))
    (sSeq (sSet 3 (e2 opAdd (eC (.int 1)) (e2 opDiv (eN 1) (eF fMax2 (aC (eC (.int 1)) (aC (eF fLen (aC (eN 2) aN)) aN))))))
    (sSeq (sOwn 4 aN)
    (sSeq (sFor (iS (eN 2)) (gN 5) (sFor (iS (eCall Fn_law_row (aC (eN 5) (aC (eN 3) aN)))) (gN 6) (sApp 4 (eN 6))))
    (sSeq (whileS (tV (e2 opLt (eF fLen (aC (eB 4) aN)) (eN 1))) (sApp 4 (eC (.int 0))) 200)
    (sRet (eL (lSl (eB 4) oN (oS (eN 1))))))))))
def Fn_law_numbers : List D → Res D := runFn 2 7 body_law_numbers
-- _law_kinds(_law_numbers_here, _law_at, _law_scale); names 0:_law_numbers_here, 1:_law_at, 2:_law_scale, 3:_law_word_here, 4:_law_kinds_here, 5:_law_k, 6:_law_cost
def body_law_kinds : Sv :=
    (sSeq (sSet 3 (eCall Fn_law_word (aC (e2 opIx (eN 0) (e2 opAdd (eN 1) (eC (.int 7)))) aN)))
    (sSeq (sOwn 4 aN)
    (sSeq (sFor (iR1 (aC (e2 opAdd (eC (.int 1)) (e2 opMod (eF fInt (aC (e2 opIx (eN 0) (eN 1)) aN)) (eC (.int 3)))) aN)) (gN 5) (sSeq (sSet 6 (e2 opMul (eN 2) (e2 opAdd (eC (.int 1)) (e2 opMod (eF fInt (aC (e2 opIx (eN 0) (e2 opAdd (e2 opAdd (eN 1) (eC (.int 1))) (e2 opMul (eC (.int 2)) (eN 5)))) aN)) (eC (.int 4))))))
    (sApp 4 (eT (aC (eCall Fn_law_named (aC (eN 3) (aC (e2 opIx (eN 0) (e2 opAdd (eN 1) (eC (.int 8)))) (aC (eN 5) aN)))) (aC (eN 6) (aC (e2 opAdd (eC (.int 1)) (e2 opMod (eF fInt (aC (e2 opIx (eN 0) (e2 opAdd (e2 opAdd (eN 1) (eC (.int 2))) (e2 opMul (eC (.int 2)) (eN 5)))) aN)) (eC (.int 9)))) aN)))))))
    (sFrz 4 (sRet (eN 4))))))
def Fn_law_kinds : List D → Res D := runFn 3 7 body_law_kinds
-- _law_jobs(_law_tasks, _law_releases); names 0:_law_tasks, 1:_law_releases, 2:_law_jobs_here, 3:_law_at, 4:_law_place, 5:_law_time, 6:_law_kind_here
def body_law_jobs : Sv :=
    (sSeq (sOwn 2 aN)
    (sSeq (sFor (iR1 (aC (eF fLen (aC (eN 0) aN)) aN)) (gN 3) (sFor (iR1 (aC (eF fLen (aC (e2 opIx (eN 1) (eN 3)) aN)) aN)) (gN 4) (sSeq (sSet 5 (e2 opIx (e2 opIx (e2 opIx (eN 1) (eN 3)) (eN 4)) (eC (.int 0))))
    (sSeq (sSet 6 (eCall Fn_law_kind (aC (e2 opIx (eN 0) (eN 3)) (aC (e2 opIx (e2 opIx (e2 opIx (eN 1) (eN 3)) (eN 4)) (eC (.int 1))) aN))))
    (sApp 2 (eT (aC (e2 opAdd (eN 5) (e2 opIx (eN 6) (eC (.int 2)))) (aC (eN 5) (aC (eN 3) (aC (eN 4) (aC (e2 opIx (eN 6) (eC (.int 1))) aN)))))))))))
    (sRet (eL (lSrt (eB 2))))))
def Fn_law_jobs : List D → Res D := runFn 2 7 body_law_jobs
-- _law_policy(_law_jobs_here, _law_table_here, _law_size, _law_policy_here, _law_order); names 0:_law_jobs_here, 1:_law_table_here, 2:_law_size, 3:_law_policy_here, 4:_law_order, 5:_law_left, 6:_law_slots, 7:_law_slot, 8:_law_places, 9:_law_ranks, 10:_law_free, 11:_law_row_here, 12:_law_pair, 13:_law_units, 14:_law_job, 15:_law_k
def body_law_policy : Sv :=
    (sSeq (sOwn 5 (lLc (iS (eN 0)) (gN 14) [14] tYes' (e2 opIx (eN 14) (eC (.int 4)))))
    (sSeq (sOwn 6 aN)
    (sSeq (sFor (iR1 (aC (eN 2) aN)) (gN 7) (sSeq (sSet 8 (eL (lLc (iR1 (aC (eF fLen (aC (eN 0) aN)) aN)) (gN 15) [15] (tAnd' (tV (e2 opLe (e2 opIx (e2 opIx (eN 0) (eN 15)) (eC (.int 1))) (eN 7))) (tV (e2 opGt (e2 opIx (eB 5) (eN 15)) (eC (.int 0))))) (eN 15))))
    (sSeq (sSet 9 (eL (lSrt (eL (lLc (iS (eN 8)) (gN 15) [15] tYes' (eT (aC (eCall Fn_law_rank (aC (eN 3) (aC (e2 opIx (eN 0) (eN 15)) (aC (e2 opIx (eB 5) (eN 15)) (aC (eN 7) (aC (eN 4) aN)))))) (aC (eN 15) aN))))))))
    (sSeq (sSet 10 (e2 opIx (eN 1) (e2 opMod (eN 7) (eF fLen (aC (eN 1) aN)))))
    (sSeq (sOwn 11 aN)
    (sSeq (sFor (iS (eN 9)) (gN 12) (sSeq (sSet 13 (eF fMin2 (aC (eN 10) (aC (e2 opIx (eB 5) (e2 opIx (eN 12) (eC (.int 1)))) aN))))
    (sIf (tV (e2 opGt (eN 13) (eC (.int 0)))) (sSeq (sPut 5 (e2 opIx (eN 12) (eC (.int 1))) (e2 opSub (e2 opIx (eB 5) (e2 opIx (eN 12) (eC (.int 1)))) (eN 13)))
    (sSeq (sSet 10 (e2 opSub (eN 10) (eN 13)))
    (sApp 11 (eT (aC (e2 opIx (e2 opIx (eN 0) (e2 opIx (eN 12) (eC (.int 1)))) (eC (.int 2))) (aC (e2 opIx (e2 opIx (eN 0) (e2 opIx (eN 12) (eC (.int 1)))) (eC (.int 3))) (aC (eN 13) aN))))))) sNil)))
    (sFrz 11 (sApp 6 (eN 11)))))))))
    (sFrz 6 (sRet (eN 6))))))
def Fn_law_policy : List D → Res D := runFn 5 16 body_law_policy
-- follows(task, first, second); names 0:task, 1:first, 2:second, 3:ways, 4:between, 5:target, 6:distance
def body_follows : Sv :=
    (sSeq (sSet 3 (eMeth 1 "ways_from" Fn_Task_ways_from (eN 0) (aC (e2 opIx (eN 1) (eC (.int 1))) aN)))
    (sSeq (sDrop (eMeth 1 "kind_number" Fn_Task_kind_number (eN 0) (aC (e2 opIx (eN 2) (eC (.int 1))) aN)))
    (sSeq (sSet 4 (e2 opSub (e2 opIx (eN 2) (eC (.int 0))) (e2 opIx (eN 1) (eC (.int 0)))))
    (sSeq (sFor (iS (eN 3)) (gT [5, 6]) (sIf (tAnd' (tV (e2 opEq (eN 5) (e2 opIx (eN 2) (eC (.int 1))))) (tV (e2 opLe (eN 6) (eN 4)))) (sRet (eC (.bl true))) sNil))
    (sRet (eC (.bl false)))))))
def Fn_follows : List D → Res D := runFn 3 7 body_follows
-- due(task, release); names 0:task, 1:release
def body_due : Sv :=
    (sRet (e2 opAdd (e2 opIx (eN 1) (eC (.int 0))) (eMeth 1 "deadline" Fn_Task_deadline (eN 0) (aC (e2 opIx (eN 1) (eC (.int 1))) aN))))
def Fn_due : List D → Res D := runFn 2 2 body_due
-- Task.__init__(self, name, kinds, ways); names 0:self, 1:name, 2:kinds, 3:ways, 4:kind, 5:way
def body_Task_init : Sv :=
    (sSeq (sIf (tOr' (tNot' (tV (eCall Fn_is_name (aC (eN 1) aN)))) (tNot' (tV (eCall Fn_are_kinds (aC (eN 2) aN))))) (fun _ => .stuck) sNil)
    (sSeq (sIf (tNot' (tV (eCall Fn_are_ways (aC (eN 3) (aC (eL (lLc (iS (eN 2)) (gN 4) [4] tYes' (e2 opIx (eN 4) (eC (.int 0))))) aN))))) (fun _ => .stuck) sNil)
    (sSeq (sFldC 1 0 "name" (eN 1))
    (sSeq (sFldC 1 0 "kinds" (eTupF (aC (eL (lLc (iS (eN 2)) (gN 4) [4] tYes' (eT (aC (e2 opIx (eN 4) (eC (.int 0))) (aC (e2 opIx (eN 4) (eC (.int 1))) (aC (e2 opIx (eN 4) (eC (.int 2))) aN)))))) aN)))
    (sFldC 1 0 "ways" (eTupF (aC (eL (lLc (iS (eN 3)) (gN 5) [5] tYes' (eT (aC (e2 opIx (eN 5) (eC (.int 0))) (aC (e2 opIx (eN 5) (eC (.int 1))) (aC (e2 opIx (eN 5) (eC (.int 2))) aN)))))) aN)))))))
def Fn_Task_init : List D → Res (List (Str × D)) := runIn 1 4 6 body_Task_init
-- _law_world(_law_numbers_here); names 0:_law_numbers_here, 1:_law_scale, 2:_law_table_here, 3:_law_word_here, 4:_law_tasks, 5:_law_releases, 6:_law_k, 7:_law_at, 8:_law_kinds_here, 9:_law_ways_here
def body_law_world : Sv :=
    (sSeq (sSet 1 (e2 opIx (eL (aC (eC (.int 1)) (aC (eC (.int 1)) (aC (eC (.int 1)) (aC (eC (.int 250)) aN))))) (e2 opMod (eF fInt (aC (e2 opIx (eN 0) (eC (.int 1))) aN)) (eC (.int 4)))))
    (sSeq (sSet 2 (eCall Fn_law_table (aC (eN 0) (aC (eC (.int 2)) (aC (eN 1) aN)))))
    (sSeq (sSet 3 (eCall Fn_law_word (aC (e2 opIx (eN 0) (eC (.int 7))) aN)))
    (sSeq (sOwn 4 aN)
    (sSeq (sOwn 5 aN)
    (sSeq (sFor (iR1 (aC (e2 opMod (eF fInt (aC (e2 opAdd (e2 opIx (eN 0) (eC (.int 0))) (eC (.int 3))) aN)) (eC (.int 4))) aN)) (gN 6) (sSeq (sSet 7 (e2 opAdd (eC (.int 10)) (e2 opMul (eC (.int 40)) (eN 6))))
    (sSeq (sSet 8 (eCall Fn_law_kinds (aC (eN 0) (aC (eN 7) (aC (eN 1) aN)))))
    (sSeq (sSet 9 (eCall Fn_law_ways (aC (eN 0) (aC (e2 opAdd (eN 7) (eC (.int 9))) (aC (eN 8) aN)))))
    (sSeq (sApp 4 (eT (aC (eCall Fn_law_named (aC (eN 3) (aC (e2 opIx (eN 0) (eC (.int 8))) (aC (eN 6) aN)))) (aC (eN 8) (aC (eN 9) aN)))))
    (sApp 5 (eCall Fn_law_course (aC (eN 0) (aC (e2 opAdd (eN 7) (eC (.int 23))) (aC (eN 8) (aC (eN 9) (aC (e2 opMod (eF fInt (aC (e2 opIx (eN 0) (e2 opAdd (eN 7) (eC (.int 22)))) aN)) (eC (.int 5))) aN))))))))))))
    (sFrz 4 (sFrz 5 (sRet (eT (aC (eN 4) (aC (eN 2) (aC (eN 5) aN)))))))))))))
def Fn_law_world : List D → Res D := runFn 1 10 body_law_world
-- check_task_releases(number, task, releases); names 0:number, 1:task, 2:releases, 3:place, 4:release
def body_check_task_releases : Sv :=
    (sFor (iE (aC (eN 2) aN)) (gT [3, 4]) (sSeq (sThru (sDrop (eMeth 1 "kind_number" Fn_Task_kind_number (eN 1) (aC (e2 opIx (eN 4) (eC (.int 1))) aN))))
    (sIf (tAnd' (tV (e2 opGt (eN 3) (eC (.int 0)))) (tNot' (tV (eCall Fn_follows (aC (eN 1) (aC (e2 opIx (eN 2) (e2 opSub (eN 3) (eC (.int 1)))) (aC (eN 4) aN))))))) (fun _ => .stuck) sNil)))
def Fn_check_task_releases : List D → Res D := runFn 3 5 body_check_task_releases
-- last_due(system, releases); names 0:system, 1:releases, 2:latest, 3:number, 4:task, 5:release
def body_last_due : Sv :=
    (sSeq (sSet 2 (eC (.int 0)))
    (sSeq (sFor (iE (aC (e1 (fld 2 "tasks") (eN 0)) aN)) (gT [3, 4]) (sFor (iS (e2 opIx (eN 1) (eN 3))) (gN 5) (sSet 2 (eF fMax2 (aC (eN 2) (aC (eCall Fn_due (aC (eN 4) (aC (eN 5) aN))) aN))))))
    (sRet (eN 2))))
def Fn_last_due : List D → Res D := runFn 2 6 body_last_due
-- all_jobs(system, releases); names 0:system, 1:releases, 2:jobs, 3:number, 4:task, 5:place, 6:release
def body_all_jobs : Sv :=
    (sSeq (sOwn 2 aN)
    (sSeq (sFor (iE (aC (e1 (fld 2 "tasks") (eN 0)) aN)) (gT [3, 4]) (sFor (iE (aC (e2 opIx (eN 1) (eN 3)) aN)) (gT [5, 6]) (sApp 2 (eT (aC (eCall Fn_due (aC (eN 4) (aC (eN 6) aN))) (aC (e2 opIx (eN 6) (eC (.int 0))) (aC (eN 3) (aC (eN 5) (aC (eMeth 1 "cost" Fn_Task_cost (eN 4) (aC (e2 opIx (eN 6) (eC (.int 1))) aN)) aN)))))))))
    (sRet (eL (lSrt (eB 2))))))
def Fn_all_jobs : List D → Res D := runFn 2 7 body_all_jobs
-- check_releases(system, releases); names 0:system, 1:releases, 2:number, 3:task
def body_check_releases : Sv :=
    (sFor (iE (aC (e1 (fld 2 "tasks") (eN 0)) aN)) (gT [2, 3]) (sDrop (eCall Fn_check_task_releases (aC (eN 2) (aC (eN 3) (aC (e2 opIx (eN 1) (eN 2)) aN))))))
def Fn_check_releases : List D → Res D := runFn 2 4 body_check_releases
-- _law_system(_law_tasks, _law_table_here); names 0:_law_tasks, 1:_law_table_here, 2:_law_task
def body_law_system : Sv :=
    (sRet (eMake 2 Fn_System_init (aApp (aC (eL (lLc (iS (eN 0)) (gN 2) [2] tYes' (eMake 1 Fn_Task_init (aApp (aC (e2 opIx (eN 2) (eC (.int 0))) aN) (aC (eL (lList (aC (e2 opIx (eN 2) (eC (.int 1))) aN))) (aC (eL (lList (aC (e2 opIx (eN 2) (eC (.int 2))) aN))) aN)))))) aN) (aC (eL (lList (aC (eN 1) aN))) aN))))
def Fn_law_system : List D → Res D := runFn 2 3 body_law_system
-- run(system, releases); names 0:system, 1:releases, 2:jobs, 3:left, 4:ends, 5:slots, 6:slot, 7:place, 8:job, 9:row
def body_run : Sv :=
    (sSeq (sDrop (eCall Fn_check_releases (aC (eN 0) (aC (eN 1) aN))))
    (sSeq (sSet 2 (eCall Fn_all_jobs (aC (eN 0) (aC (eN 1) aN))))
    (sSeq (sNewC 10 3 (lLc (iS (eN 2)) (gN 8) [8] tYes' (e2 opIx (eN 8) (eC (.int 4)))))
    (sSeq (sNewCC 10 4 (nLc (iS (eN 1)) (gN 9) [9] tYes' (lRep (eL (aC (eC .non) aN)) (eF fLen (aC (eN 9) aN)))))
    (sSeq (sOwn 5 aN)
    (sSeq (sFor (iR1 (aC (eCall Fn_last_due (aC (eN 0) (aC (eN 1) aN))) aN)) (gN 6) (sSeq (sAppX 5 (xCall 10 Fn_serve (axV (eN 2) (axC (pvN 3) (axV (eN 6) (axV (eCall Fn_capacity (aC (e1 (fld 2 "table") (eN 0)) (aC (eN 6) aN))) axN))))))
    (sFor (iE (aC (eN 2) aN)) (gT [7, 8]) (sIf (tAnd' (tV (e2 opEq (e2 opIx (eCell 10 (pvN 3)) (eN 7)) (eC (.int 0)))) (tV (e2 opIsN (e2 opIx (eCell 10 (pvIx 10 (pvN 4) (e2 opIx (eN 8) (eC (.int 2))))) (e2 opIx (eN 8) (eC (.int 3)))) (eC .non)))) (sPutC 10 (pvIx 10 (pvN 4) (e2 opIx (eN 8) (eC (.int 2)))) (e2 opIx (eN 8) (eC (.int 3))) (e2 opAdd (eN 6) (eC (.int 1)))) sNil))))
    (sFrzC 10 4 (sFrz 5 (sRet (eMake 0 Fn_Outcome_init (aC (eN 5) (aC (eN 4) (aC (eCall Fn_first_late (aC (eN 2) (aC (eN 4) aN))) aN)))))))))))))
def Fn_run : List D → Res D := runFn 2 10 body_run
-- run_ranked(system, releases, policy, order); names 0:system, 1:releases, 2:policy, 3:order, 4:jobs, 5:left, 6:ends, 7:slots, 8:slot, 9:free, 10:row, 11:place, 12:units, 13:job
def body_run_ranked : Sv :=
    (sSeq (sDrop (eCall Fn_check_releases (aC (eN 0) (aC (eN 1) aN))))
    (sSeq (sSet 4 (eCall Fn_all_jobs (aC (eN 0) (aC (eN 1) aN))))
    (sSeq (sNewC 14 5 (lLc (iS (eN 4)) (gN 13) [13] tYes' (e2 opIx (eN 13) (eC (.int 4)))))
    (sSeq (sNewCC 14 6 (nLc (iS (eN 1)) (gN 10) [10] tYes' (lRep (eL (aC (eC .non) aN)) (eF fLen (aC (eN 10) aN)))))
    (sSeq (sOwn 7 aN)
    (sSeq (sFor (iR1 (aC (eCall Fn_last_due (aC (eN 0) (aC (eN 1) aN))) aN)) (gN 8) (sSeq (sSet 9 (eCall Fn_capacity (aC (e1 (fld 2 "table") (eN 0)) (aC (eN 8) aN))))
    (sSeq (sOwn 10 aN)
    (sSeq (sForX (xCall 14 Fn_ready_places (axV (eN 2) (axV (eN 4) (axC (pvN 5) (axV (eN 8) (axV (eN 3) axN)))))) (gN 11) (sSeq (sSet 12 (eF fMin2 (aC (eN 9) (aC (e2 opIx (eCell 14 (pvN 5)) (eN 11)) aN))))
    (sIf (tV (e2 opGt (eN 12) (eC (.int 0)))) (sSeq (sAugC opSub 14 (pvN 5) (eN 11) (eN 12))
    (sSeq (sAug 9 opSub (eN 12))
    (sSeq (sApp 10 (eT (aC (e2 opIx (e2 opIx (eN 4) (eN 11)) (eC (.int 2))) (aC (e2 opIx (e2 opIx (eN 4) (eN 11)) (eC (.int 3))) (aC (eN 12) aN)))))
    (sIf (tV (e2 opEq (e2 opIx (eCell 14 (pvN 5)) (eN 11)) (eC (.int 0)))) (sPutC 14 (pvIx 14 (pvN 6) (e2 opIx (e2 opIx (eN 4) (eN 11)) (eC (.int 2)))) (e2 opIx (e2 opIx (eN 4) (eN 11)) (eC (.int 3))) (e2 opAdd (eN 8) (eC (.int 1)))) sNil)))) sNil)))
    (sFrz 10 (sApp 7 (eN 10)))))))
    (sFrzC 14 6 (sFrz 7 (sRet (eMake 0 Fn_Outcome_init (aC (eN 7) (aC (eN 6) (aC (eCall Fn_first_late (aC (eN 4) (aC (eN 6) aN))) aN)))))))))))))
def Fn_run_ranked : List D → Res D := runFn 4 14 body_run_ranked
-- run_policy(system, releases, policy); names 0:system, 1:releases, 2:policy
def body_run_policy : Sv :=
    (sSeq (sIf (tV (e2 opNotIn (eN 2) (eC (.tup (tp_POLICIES.map D.str))))) (fun _ => .stuck) sNil)
    (sRet (eCall Fn_run_ranked (aC (eN 0) (aC (eN 1) (aC (eN 2) (aC (eL (lListR (eF fLen (aC (e1 (fld 2 "tasks") (eN 0)) aN)))) aN)))))))
def Fn_run_policy : List D → Res D := runFn 3 3 body_run_policy
-- run_fixed(system, releases, order); names 0:system, 1:releases, 2:order
def body_run_fixed : Sv :=
    (sRet (eCall Fn_run_ranked (aC (eN 0) (aC (eN 1) (aC (eC (.str "fixed")) (aC (eL (lList (aC (eN 2) aN))) aN))))))
def Fn_run_fixed : List D → Res D := runFn 3 3 body_run_fixed
-- late_by_policy(system, releases); names 0:system, 1:releases, 2:policy
def body_late_by_policy : Sv :=
    (sRet (eL (lLc (iS (eC (.tup (tp_POLICIES.map D.str)))) (gN 2) [2] tYes' (eT (aC (eN 2) (aC (e1 (fld 0 "late") (eCall Fn_run_policy (aApp (aC (eN 0) (aC (eN 1) aN)) (aC (eN 2) aN)))) aN))))))
def Fn_late_by_policy : List D → Res D := runFn 2 3 body_late_by_policy
-- fixed_order(system, releases); names 0:system, 1:releases, 2:order
def body_fixed_order : Sv :=
    (sSeq (sDrop (eCall Fn_check_releases (aC (eN 0) (aC (eN 1) aN))))
    (sSeq (sFor (iP (eF fLen (aC (e1 (fld 2 "tasks") (eN 0)) aN))) (gN 2) (sIf (tV (e2 opIsN (e1 (fld 0 "late") (eCall Fn_run_fixed (aApp (aC (eN 0) (aC (eN 1) aN)) (aC (eN 2) aN)))) (eC .non))) (sRet (eN 2)) sNil))
    (sRet (eC .non))))
def Fn_fixed_order : List D → Res D := runFn 2 3 body_fixed_order
-- law(_law_script); names 0:_law_script, 1:_law_numbers_here, 2:_law_tasks, 3:_law_table_here, 4:_law_releases, 5:_law_system_here, 6:_law_jobs_here, 7:_law_size, 8:_law_rows, 9:_law_keeping, 10:_law_order, 11:_law_slots, 12:_law_late_here, 13:_law_pair, 14:_law_actual, 15:_law_number
def body_law : Sv :=
    (sSeq (sSet 1 (eCall Fn_law_numbers (aC (eN 0) (aC (eC (.int 140)) aN))))
    (sSeq (sTo (gT [2, 3, 4]) (eCall Fn_law_world (aC (eN 1) aN)))
    (sSeq (sSet 5 (eCall Fn_law_system (aC (eN 2) (aC (eN 3) aN))))
    (sSeq (sSet 6 (eCall Fn_law_jobs (aC (eN 2) (aC (eN 4) aN))))
    (sSeq (sSet 7 (eCall Fn_law_last (aC (eN 6) aN)))
    (sSeq (sSet 8 (eCall Fn_law_copy (aC (eN 4) aN)))
    (sSeq (sOwn 9 aN)
    (sSeq (sFor (iS (eCall Fn_law_orders (aC (eF fLen (aC (eN 2) aN)) aN))) (gN 10) (sSeq (sSet 11 (eCall Fn_law_policy (aC (eN 6) (aC (eN 3) (aC (eN 7) (aC (eC (.str "fixed")) (aC (eN 10) aN)))))))
    (sIf (tV (e2 opIsN (eCall Fn_law_late (aC (eN 6) (aC (eCall Fn_law_ends (aC (eN 6) (aC (eN 11) aN))) aN))) (eC .non))) (sApp 9 (eN 10)) sNil)))
    (sSeq (sSet 12 (e1 (fld 0 "late") (eCall Fn_run (aC (eN 5) (aC (eN 8) aN)))))
    (sSeq (sFor (iS (eCall Fn_late_by_policy (aC (eN 5) (aC (eN 8) aN)))) (gN 13) (sIf (tAnd' (tV (e2 opIsN (e2 opIx (eN 13) (eC (.int 1))) (eC .non))) (tV (e2 opNotN (eN 12) (eC .non)))) (sRet (eC (.bl false))) sNil))
    (sSeq (sIf (tAnd' (tV (e2 opGt (eF fLen (aC (eB 9) aN)) (eC (.int 0)))) (tV (e2 opNotN (eN 12) (eC .non)))) (sRet (eC (.bl false))) sNil)
    (sSeq (sSet 14 (eCall Fn_fixed_order (aC (eN 5) (aC (eN 8) aN))))
    (sSeq (sIf (tV (e2 opNe (eN 8) (eN 4))) (sRet (eC (.bl false))) sNil)
    (sSeq (sIf (tV (e2 opEq (eF fLen (aC (eB 9) aN)) (eC (.int 0)))) (sRet (e2 opIsN (eN 14) (eC .non))) sNil)
    (sSeq (sIf (tOr' (tNot' (tV (eIsi .tuple (eN 14)))) (tV (e2 opNe (eL (lList (aC (eN 14) aN))) (e2 opIx (eB 9) (eC (.int 0)))))) (sRet (eC (.bl false))) sNil)
    (sSeq (sFor (iS (eN 14)) (gN 15) (sIf (tNot' (tV (eCall Fn_law_is_integer (aC (eN 15) aN)))) (sRet (eC (.bl false))) sNil))
    (sRet (e2 opIsN (e1 (fld 0 "late") (eCall Fn_run_fixed (aApp (aC (eN 5) (aC (eN 8) aN)) (aC (eN 14) aN)))) (eC .non)))))))))))))))))))
def Fn_law : List D → Res D := runFn 1 16 body_law
end G88

namespace G88
open PySem PySem.Spec PyProof.Rows L2 Pu
/-- a list of numbers -/
abbrev dI (ns : List Int) : D := .lst (ns.map D.int)
theorem ix_I {ns : List Int} {i : Int} {n : Nat} {v : Int} (hi : i = n) (h : ns[n]? = some v) : opIx (dI ns) (.int i) = some (.int v) := ix_lst' hi (by rw [List.getElem?_map, h]; rfl)
/-- the list xs, its first i things: what a loop has laid -/
theorem take_snoc {α : Type} {xs : List α} {i : Nat} {x : α} (h : xs[i]? = some x) : xs.take (i + 1) = xs.take i ++ [x] := by
  rw [List.take_add_one, h]; rfl
structure Tk where
  ks : List (Str × Int × Int)
  ws : List (Str × Str × Int)
def dK (k : Str × Int × Int) : D := .tup [.str k.1, .int k.2.1, .int k.2.2]
def dW (w : Str × Str × Int) : D := .tup [.str w.1, .str w.2.1, .int w.2.2]
abbrev dT (nm : Str) (t : Tk) : D := .obj 1 [("name", .str nm), ("kinds", .tup (t.ks.map dK)), ("ways", .tup (t.ws.map dW))]
@[simp] theorem fld_kinds (nm : Str) (t : Tk) : fld 1 "kinds" (dT nm t) = some (.tup (t.ks.map dK)) := by
  show (if (1 : Nat) = 1 then List.lookup ("kinds" : Str) [(("name" : Str), D.str nm), (("kinds" : Str), D.tup (t.ks.map dK)), (("ways" : Str), D.tup (t.ws.map dW))] else none) = _
  rw [if_pos rfl]
  rfl
@[simp] theorem fld_ways (nm : Str) (t : Tk) : fld 1 "ways" (dT nm t) = some (.tup (t.ws.map dW)) := by
  show (if (1 : Nat) = 1 then List.lookup ("ways" : Str) [(("name" : Str), D.str nm), (("kinds" : Str), D.tup (t.ks.map dK)), (("ways" : Str), D.tup (t.ws.map dW))] else none) = _
  rw [if_pos rfl]
  rfl
@[simp] theorem ook_kn (nm : Str) (t : Tk) : oOk 1 "kind_number" (dT nm t) = true := by
  unfold oOk
  rfl
@[simp] theorem ook_wf (nm : Str) (t : Tk) : oOk 1 "ways_from" (dT nm t) = true := by
  unfold oOk
  rfl
@[simp] theorem ook_cost (nm : Str) (t : Tk) : oOk 1 "cost" (dT nm t) = true := by
  unfold oOk
  rfl
/-- the number of the kind of a name -/
def num (ks : List (Str × Int × Int)) (x : Str) : Nat := ks.findIdx fun k => decide (k.1 = x)
theorem num_lt {ks : List (Str × Int × Int)} {x : Str} (h : x ∈ ks.map (·.1)) : num ks x < ks.length := by
  obtain ⟨k, hk, rfl⟩ := List.mem_map.mp h
  exact List.findIdx_lt_length_of_exists ⟨k, hk, by simp⟩
theorem num_get {ks : List (Str × Int × Int)} {x : Str} (h : x ∈ ks.map (·.1)) : ∃ k, ks[num ks x]? = some k ∧ k.1 = x := by
  have hl : List.findIdx (fun k : Str × Int × Int => decide (k.1 = x)) ks < ks.length := num_lt h
  refine ⟨ks[List.findIdx (fun k : Str × Int × Int => decide (k.1 = x)) ks], List.getElem?_eq_getElem hl, ?_⟩
  have := List.findIdx_getElem (xs := ks) (p := fun k : Str × Int × Int => decide (k.1 = x)) (w := hl)
  simpa using this
theorem num_min {ks : List (Str × Int × Int)} {x : Str} {j : Nat} (h : j < num ks x) {k : Str × Int × Int} (e : ks[j]? = some k) : k.1 ≠ x := by
  have hl : j < ks.length := (List.getElem?_eq_some_iff.mp e).1
  have := List.not_of_lt_findIdx h
  rw [List.getElem?_eq_getElem hl] at e
  cases e
  simpa using this
theorem num_of {ks : List (Str × Int × Int)} (nd : (ks.map (·.1)).Nodup) {i : Nat} {k : Str × Int × Int} (e : ks[i]? = some k) : num ks k.1 = i := by
  have hm : k.1 ∈ ks.map (·.1) := List.mem_map_of_mem (List.mem_of_getElem? e)
  obtain ⟨k', e', hk⟩ := num_get hm
  have hl : i < (ks.map (·.1)).length := by rw [List.length_map]; exact (List.getElem?_eq_some_iff.mp e).1
  have hq : (ks.map (·.1))[i]? = (ks.map (·.1))[num ks k.1]? := by rw [List.getElem?_map, List.getElem?_map, e, e', Option.map_some, Option.map_some, hk]
  exact ((List.getElem?_inj hl nd).mp hq).symm
theorem f_kn {nm x : Str} {t : Tk} (h : x ∈ t.ks.map (·.1)) : Fn_Task_kind_number [dT nm t, .str x] = .ok (.int (num t.ks x)) := by
  refine runFn_eq rfl ?_
  have key := forS_ind (g := gT [2, 3]) (body := sIf (tV (e2 opEq (e2 opIx (eN 3) (eC (.int 0))) (eN 1))) (sRet (eN 2)) sNil) (fun o => o = .rt (.int (num t.ks x))) (prs 0 (t.ks.map dK))
    (fun i ρ => i ≤ num t.ks x ∧ ∃ a b, ρ = [.val (dT nm t), .val (.str x), a, b]) [.val (dT nm t), .val (.str x), .un, .un] ⟨Nat.zero_le _, _, _, rfl⟩ (fun i d ρ e hi => by
      obtain ⟨hle, a, b, rfl⟩ := hi
      obtain ⟨y, e1, rfl⟩ := prs_map _ _ _ _ e
      rw [List.getElem?_map] at e1
      obtain ⟨k, ek, rfl⟩ := Option.map_eq_some_iff.mp e1
      refine ⟨_, rfl, ?_⟩
      by_cases hk : k.1 = x
      · right
        have : num t.ks x = i := by
          have : ¬ i < num t.ks x := fun z => num_min z ek hk
          omega
        refine ⟨_, rfl, ?_, ?_⟩ <;> simp [dK, hk, this]
      · left
        refine ⟨[.val (dT nm t), .val (.str x), .val (.int (0 + i : Nat)), .val (dK k)], .inl (by simp [dK, hk]), ?_, _, _, rfl⟩
        have : i ≠ num t.ks x := fun z => by
          obtain ⟨k', e', hk'⟩ := num_get h
          rw [← z, ek] at e'
          cases e'
          exact hk hk'
        omega)
  rw [prs_len, List.length_map] at key
  rcases key with ⟨ρ', _, h1, _⟩ | h1
  · have := num_lt h; omega
  · simp -implicitDefEqProofs [ini, body_Task_kind_number, h1]
theorem f_cost {nm x : Str} {t : Tk} {k : Str × Int × Int} (h : x ∈ t.ks.map (·.1)) (hk : t.ks[num t.ks x]? = some k) : Fn_Task_cost [dT nm t, .str x] = .ok (.int k.2.1) := by
  refine runFn_eq rfl ?_
  have e1 : opIx (.tup (t.ks.map dK)) (.int (num t.ks x : Int)) = some (dK k) := ix_tup' rfl (by rw [List.getElem?_map, hk]; rfl)
  simp -implicitDefEqProofs [ini, body_Task_cost, f_kn h, e1]
  simp [dK]
theorem f_wf {nm x : Str} {t : Tk} (hz : t.ws.length ≤ 1000) (h : x ∈ t.ks.map (·.1)) : Fn_Task_ways_from [dT nm t, .str x] = .ok (.lst ((t.ws.filter fun w => decide (w.1 = x)).map fun w => .tup [.str w.2.1, .int w.2.2])) := by
  refine runFn_eq rfl ?_
  have key := lcGo_filter (g := gN 2) (tt := tV (e2 opEq (e2 opIx (eN 2) (eC (.int 0))) (eN 1))) (ev := eT (aC (e2 opIx (eN 2) (eC (.int 1))) (aC (e2 opIx (eN 2) (eC (.int 2))) aN))) (ρ := [.val (dT nm t), .val (.str x), .un]) (δ := dW)
    (fun w => decide (w.1 = x)) (fun w => .tup [.str w.2.1, .int w.2.2]) t.ws (fun w _ => ⟨_, rfl, by simp [dW], by simp [dW]⟩)
  have hz' : t.ws.length ≤ sizeLine := Nat.le_of_lt (small1000 hz)
  simp -implicitDefEqProofs [ini, body_Task_ways_from, f_kn h, hz', key]
structure Ok (t : Tk) : Prop where
  k1 : 1 ≤ t.ks.length
  k8 : t.ks.length ≤ 4
  w16 : t.ws.length ≤ 8
  nd : (t.ks.map (·.1)).Nodup
  kk : ∀ k ∈ t.ks, 1 ≤ k.2.1 ∧ k.2.1 ≤ 1000 ∧ 1 ≤ k.2.2 ∧ k.2.2 ≤ 1000
  ww : ∀ w ∈ t.ws, w.1 ∈ t.ks.map (·.1) ∧ w.2.1 ∈ t.ks.map (·.1) ∧ 1 ≤ w.2.2 ∧ w.2.2 ≤ 1000
end G88

namespace G88
open PySem PySem.Spec PyProof.Rows L2 Pu
def Small (l : List Int) : Prop := ∀ x ∈ l, 0 ≤ x ∧ x < 1009
theorem f_lrow (c : Int) {m : Nat} (hm : m ≤ 200) : ∃ l : List Int, Fn_law_row [.int c, .int m] = .ok (dI l) ∧ l.length = m ∧ Small l := by
  have hp : opPow (.int 10) (.int 18) = some (.int (10 ^ 18)) := rfl
  obtain ⟨ρ', e, l, x, y, z, rfl, hl, hs⟩ := forS_thru (g := gN 4) (body := sIf (tV (e2 opGe (eF fAbs (aC (eF fInt (aC (eN 0) aN)) aN)) (e2 opPow (eC (.int 10)) (eC (.int 18))))) (sSeq (sApp 2 (e2 opMod (eF fInt (aC (eN 3) aN)) (eC (.int 1009))))
    (sSet 3 (e2 opDiv (eN 3) (eC (.int 1009))))) (sSeq (sSet 5 (e2 opMod (eF fInt (aC (e2 opAdd (e2 opMul (eN 3) (eC (.int 48271))) (e2 opMul (e2 opAdd (eN 4) (eC (.int 1))) (eC (.int 69621)))) aN)) (eC (.int 2147483647))))
    (sSeq (sSet 5 (e2 opMod (eF fInt (aC (e2 opAdd (e2 opMul (eN 5) (eC (.int 16807))) (e2 opMul (eC (.int 271)) (e2 opAdd (eN 4) (eC (.int 3))))) aN)) (eC (.int 2147483629))))
    (sApp 2 (e2 opMod (eF fInt (aC (eN 5) aN)) (eC (.int 1009)))))))
    (rgD 0 (m : Int)) (fun i ρ => ∃ (l : List Int) (r : Int) (y z : Pu.Slot), ρ = [.val (.int c), .val (.int m), .own (l.map D.int), .val (.int r), y, z] ∧ l.length = i ∧ Small l)
    [.val (.int c), .val (.int m), .own [], .val (.int (if c < 0 then -c else c)), .un, .un] ⟨[], _, _, _, rfl, rfl, fun x h => (by cases h)⟩ (fun i d ρ e hi => by
      obtain ⟨l, r, y, z, rfl, hl, hs⟩ := hi
      obtain ⟨rfl, hil⟩ := rg0_some e
      have hsz : (l.map D.int).length < sizeLine := by rw [List.length_map]; exact small1000 (by omega)
      have snoc : ∀ v : Int, (l ++ [v % 1009]).length = i + 1 ∧ Small (l ++ [v % 1009]) := fun v => by
        refine ⟨by rw [List.length_append, hl]; rfl, fun x hx => ?_⟩
        rcases List.mem_append.mp hx with hx | hx
        · exact hs x hx
        · rw [List.mem_singleton.mp hx]; omega
      have hab : fAbs [.int c] = some (.int (if c < 0 then -c else c)) := rfl
      by_cases hb : (10 : Int) ^ 18 ≤ (if c < 0 then -c else c)
      · refine ⟨_, [.val (.int c), .val (.int m), .own ((l ++ [r % 1009]).map D.int), .val (.int (r / 1009)), .val (.int i), z], rfl, .inl ?_, _, _, _, _, rfl, (snoc r).1, (snoc r).2⟩
        rw [List.map_append]
        generalize l.map D.int = ll at *
        generalize (if c < 0 then -c else c) = ab at *
        generalize hbig : (10 : Int) ^ 18 = big at *
        simp -implicitDefEqProofs [-fAbs_int, hab, hp, hb, hsz, opMod_of _ _ (show (0 : Int) < 1009 by omega), opDiv_of _ _ (show (0 : Int) < 1009 by omega) (by omega)]
      · refine ⟨_, [.val (.int c), .val (.int m), .own ((l ++ [((((r * 48271 + ((i : Int) + 1) * 69621) % 2147483647) * 16807 + 271 * ((i : Int) + 3)) % 2147483629) % 1009]).map D.int), .val (.int r), .val (.int i), .val (.int ((((r * 48271 + ((i : Int) + 1) * 69621) % 2147483647) * 16807 + 271 * ((i : Int) + 3)) % 2147483629))], rfl, .inl ?_, _, _, _, _, rfl, (snoc _).1, (snoc _).2⟩
        rw [List.map_append]
        have m1 := opMul_of r 48271 (by omega)
        have m2 := opMul_of ((i : Int) + 1) 69621 (by omega)
        have m3 := opMul_of ((r * 48271 + ((i : Int) + 1) * 69621) % 2147483647) 16807 (by omega)
        have m4 := opMul_of' 271 ((i : Int) + 3) (by omega)
        have d1 := fun z : Int => opMod_of z 2147483647 (by omega)
        have d2 := fun z : Int => opMod_of z 2147483629 (by omega)
        have d3 := fun z : Int => opMod_of z 1009 (by omega)
        generalize l.map D.int = ll at *
        generalize (if c < 0 then -c else c) = ab at *
        generalize hbig : (10 : Int) ^ 18 = big at *
        simp -implicitDefEqProofs [-fAbs_int, hab, hp, hb, hsz, m1, m2, m3, m4, d1, d2, d3])
  rw [rgD_length] at hl
  refine ⟨l, runFn_eq rfl ?_, by omega, hs⟩
  have hr := asR1_of (m : Int) (by omega) (by omega)
  have hab : fAbs [.int c] = some (.int (if c < 0 then -c else c)) := rfl
  generalize (if c < 0 then -c else c) = ab at *
  generalize rgD 0 (m : Int) = RG at *
  show _ = Res.ok (D.lst (l.map D.int))
  generalize l.map D.int = ll at *
  simp -implicitDefEqProofs [ini, body_law_row, -fAbs_int, hab, hr, e]
end G88

namespace G88
open PySem PySem.Spec PyProof.Rows L2 Pu
theorem cutD_ints (l : List Int) (lo hi : Option Int) : ∃ l' : List Int, Pu.cutD (l.map D.int) lo hi = l'.map D.int ∧ (∀ x ∈ l', x ∈ l) := by
  refine ⟨(l.drop (HT.sIx l.length 0 lo)).take (HT.sIx l.length l.length hi - HT.sIx l.length 0 lo), ?_, fun x hx => List.mem_of_mem_drop (List.mem_of_mem_take hx)⟩
  unfold Pu.cutD
  rw [List.length_map, ← List.map_drop, ← List.map_take]
theorem cutD_head (l : List Int) (n : Nat) : Pu.cutD (l.map D.int) none (some (n : Int)) = (l.take n).map D.int := by
  unfold Pu.cutD
  rw [List.length_map, HT.sIx_none, HT.sIx_nat, List.drop_zero, Nat.sub_zero, ← List.map_take]
  by_cases h : n ≤ l.length
  · rw [Nat.min_eq_left h]
  · rw [Nat.min_eq_right (by omega), List.take_of_length_le (Nat.le_refl _), List.take_of_length_le (by omega)]
theorem f_lnums {ns : List Int} (hn : ns.length ≤ 63) : ∃ l : List Int, Fn_law_numbers [.scr ns, .int 140] = .ok (dI l) ∧ l.length = 140 ∧ Small l := by
  have hzs : ns.length ≤ sizeLine := Nat.le_of_lt (small1000 (by omega))
  have hcut : Pu.cutD (ns.map D.int) none (some 63) = (ns.take 63).map D.int := cutD_head ns 63
  obtain ⟨cs, hcs, hcl⟩ : ∃ cs, cs = ns.take 63 ∧ cs.length ≤ 63 := ⟨_, rfl, by rw [List.length_take]; omega⟩
  rw [← hcs] at hcut
  clear hcs
  obtain ⟨each, he1, he2, he3⟩ : ∃ each : Nat, (1 : Int) + 140 / max 1 (cs.length : Int) = each ∧ each ≤ 141 ∧ True := by
    have h1 : 0 ≤ (140 : Int) / max 1 (cs.length : Int) := Int.ediv_nonneg (by omega) (by omega)
    have h2 : (140 : Int) / max 1 (cs.length : Int) ≤ 140 := Int.ediv_le_self _ (by omega)
    exact ⟨(1 + (140 : Int) / max 1 (cs.length : Int)).toNat, by omega, by omega, trivial⟩
  have inner : ∀ (l r : List Int) (c : Int) (x : Pu.Slot), Small l → Small r → l.length ≤ 63 * 200 → r.length ≤ 200 → ∃ x', forS (gN 6) (sApp 4 (eN 6)) (r.map D.int) [.val (.scr ns), .val (.int 140), .val (dI cs), .val (.int each), .own (l.map D.int), .val (.int c), x] = .nx [.val (.scr ns), .val (.int 140), .val (dI cs), .val (.int each), .own ((l ++ r).map D.int), .val (.int c), x'] := by
    intro l r c x h1 h2 h3 h4
    obtain ⟨ρ', e, x', rfl⟩ := forS_thru (g := gN 6) (body := sApp 4 (eN 6)) (r.map D.int) (fun i ρ => ∃ x, ρ = [.val (.scr ns), .val (.int 140), .val (dI cs), .val (.int each), .own ((l ++ r.take i).map D.int), .val (.int c), x])
      [.val (.scr ns), .val (.int 140), .val (dI cs), .val (.int each), .own (l.map D.int), .val (.int c), x] ⟨_, by rw [List.take_zero, List.append_nil]⟩ (fun i d ρ e hi => by
        obtain ⟨x, rfl⟩ := hi
        rw [List.getElem?_map] at e
        obtain ⟨z, ez, rfl⟩ := Option.map_eq_some_iff.mp e
        have hsz : ((l ++ r.take i).map D.int).length < sizeLine := Nat.lt_of_le_of_lt (show _ ≤ 20000 by rw [List.length_map, List.length_append, List.length_take]; omega) (by decide)
        rw [take_snoc ez, ← List.append_assoc]
        refine ⟨_, [.val (.scr ns), .val (.int 140), .val (dI cs), .val (.int each), .own ((l ++ r.take i ++ [z]).map D.int), .val (.int c), .val (.int z)], rfl, .inl ?_, _, rfl⟩
        rw [List.map_append (l₂ := [z])]
        generalize (l ++ r.take i).map D.int = LL at *
        generalize dI cs = CS
        simp -implicitDefEqProofs [hsz])
    rw [List.length_map, List.take_length] at e
    exact ⟨x', e⟩
  obtain ⟨ρ', e, l, x, y, rfl, hl, hs⟩ := forS_thru (g := gN 5) (body := sFor (iS (eCall Fn_law_row (aC (eN 5) (aC (eN 3) aN)))) (gN 6) (sApp 4 (eN 6))) (cs.map D.int)
    (fun i ρ => ∃ (l : List Int) (x y : Pu.Slot), ρ = [.val (.scr ns), .val (.int 140), .val (dI cs), .val (.int each), .own (l.map D.int), x, y] ∧ l.length = i * each ∧ Small l)
    [.val (.scr ns), .val (.int 140), .val (dI cs), .val (.int each), .own [], .un, .un] ⟨[], _, _, rfl, by simp, fun x h => (by cases h)⟩ (fun i d ρ e hi => by
      obtain ⟨l, x, y, rfl, hl, hs⟩ := hi
      rw [List.getElem?_map] at e
      obtain ⟨z, ez, rfl⟩ := Option.map_eq_some_iff.mp e
      have hi63 : i < 63 := by have := (List.getElem?_eq_some_iff.mp ez).1; omega
      obtain ⟨r, e1, r1, r2⟩ := f_lrow z (m := each) (by omega)
      have hle : i * each ≤ 63 * 200 := Nat.mul_le_mul (by omega) (by omega)
      obtain ⟨x', e2⟩ := inner l r z y hs r2 (by omega) (by omega)
      refine ⟨_, [.val (.scr ns), .val (.int 140), .val (dI cs), .val (.int each), .own ((l ++ r).map D.int), .val (.int z), x'], rfl, .inl ?_, _, _, _, rfl, by rw [List.length_append, hl, r1, Nat.add_mul, Nat.one_mul], fun x hx => ?_⟩
      · generalize (l ++ r).map D.int = L2' at *
        generalize l.map D.int = L1' at *
        have hcc : asSeq (dI r) = .ok (r.map D.int) := rfl
        generalize r.map D.int = RR at *
        generalize dI r = R at *
        generalize dI cs = CS at *
        simp -implicitDefEqProofs [e1, hcc, e2]
      · rcases List.mem_append.mp hx with hx | hx
        · exact hs x hx
        · exact r2 x hx)
  rw [List.length_map] at hl
  -- noughts behind
  have wh : ∀ (k : Nat) (l : List Int), Small l → l.length ≤ 63 * 200 → 140 ≤ l.length + k → ∃ l', whileS (tV (e2 opLt (eF fLen (aC (eB 4) aN)) (eN 1))) (sApp 4 (eC (.int 0))) (k + 1) [.val (.scr ns), .val (.int 140), .val (dI cs), .val (.int each), .own (l.map D.int), x, y] = .nx [.val (.scr ns), .val (.int 140), .val (dI cs), .val (.int each), .own (l'.map D.int), x, y] ∧ 140 ≤ l'.length ∧ l'.length ≤ 63 * 200 + 140 ∧ Small l' := by
    intro k
    induction k with
    | zero =>
      intro l h1 h2 h3
      refine ⟨l, ?_, by omega, by omega, h1⟩
      have hlt : ¬ ((l.map D.int).length : Int) < 140 := by rw [List.length_map]; omega
      generalize l.map D.int = LL at *
      generalize dI cs = CS
      unfold whileS
      simp -implicitDefEqProofs [hlt]
    | succ k ih =>
      intro l h1 h2 h3
      by_cases hc : l.length < 140
      · obtain ⟨l', g1, g2, g3, g4⟩ := ih (l ++ [0]) (fun x hx => by
          rcases List.mem_append.mp hx with hx | hx
          · exact h1 x hx
          · rw [List.mem_singleton.mp hx]; omega) (by rw [List.length_append]; simp; omega) (by rw [List.length_append]; simp; omega)
        refine ⟨l', ?_, g2, g3, g4⟩
        have hlt : ((l.map D.int).length : Int) < 140 := by rw [List.length_map]; omega
        have hsz : (l.map D.int).length < sizeLine := by rw [List.length_map]; exact small1000 (by omega)
        rw [List.map_append] at g1
        have g1' : whileS (tV (e2 opLt (eF fLen (aC (eB 4) aN)) (eN 1))) (sApp 4 (eC (.int 0))) (k + 1) [.val (.scr ns), .val (.int 140), .val (dI cs), .val (.int each), .own (l.map D.int ++ [.int 0]), x, y] = _ := g1
        generalize l'.map D.int = LL' at *
        generalize l.map D.int = LL at *
        generalize dI cs = CS at *
        rw [whileS]
        simp -implicitDefEqProofs [hlt, hsz, g1']
      · refine ⟨l, ?_, by omega, by omega, h1⟩
        have hlt : ¬ ((l.map D.int).length : Int) < 140 := by rw [List.length_map]; omega
        generalize l.map D.int = LL at *
        generalize dI cs = CS
        rw [whileS]
        simp -implicitDefEqProofs [hlt]
  have hlb : l.length ≤ 63 * 200 := by rw [hl]; exact Nat.mul_le_mul hcl (by omega)
  obtain ⟨l', w1, w2, w3, w4⟩ := wh 199 l hs hlb (by omega)
  refine ⟨l'.take 140, runFn_eq rfl ?_, by rw [List.length_take]; omega, fun x hx => w4 x (List.mem_of_mem_take hx)⟩
  have hc2 := cutD_head l' 140
  have hz2 : (l'.map D.int).length ≤ sizeLine := Nat.le_of_lt (Nat.lt_of_le_of_lt (show _ ≤ 20000 by rw [List.length_map]; omega) (by decide))
  have hmx : opDiv (.int 140) (.int (max 1 (cs.length : Int))) = some (.int (140 / max 1 (cs.length : Int))) := opDiv_of _ _ (by omega) (by omega)
  have hln : fLen [dI cs] = some (.int (cs.length : Int)) := by simp
  have hdc : (D.lst (cs.map D.int)) = dI cs := rfl
  have hcc : asSeq (dI cs) = .ok (cs.map D.int) := rfl
  show _ = Res.ok (D.lst ((l'.take 140).map D.int))
  generalize (l'.take 140).map D.int = LT at *
  generalize l'.map D.int = LL' at *
  generalize l.map D.int = LL at *
  generalize (cs.length : Int) = Z at *
  generalize hM : max 1 Z = M at *
  generalize hE : (1 : Int) + 140 / M = EE at *
  generalize cs.map D.int = CM at *
  generalize dI cs = CS at *
  subst he1
  have hc2' : Pu.cutD LL' none (some 140) = LT := hc2
  simp -implicitDefEqProofs [ini, body_law_numbers, hzs, hcut, hdc, hln, hM, hmx, hE, hcc, e, w1, hc2', hz2]
end G88

namespace G88
open PySem PySem.Spec PyProof.Rows L2 Pu
def mk (l : List Nat) : Str := ⟨l.toArray⟩
/-- the signs that a name may have -/
def Cl : List Nat := (("abcdefghijklmnopqrstuvwxyz0123456789" : Str)).cps.toList
theorem Cl_len : Cl.length = 36 := by decide +kernel
def kq : List Nat := (("kq3zx9" : Str)).cps.toList
theorem kq_len : kq.length = 6 := by decide +kernel
theorem kq_nd : kq.Nodup := by decide +kernel
theorem kq_Cl : ∀ c ∈ kq, c ∈ Cl := by decide +kernel
theorem ix_str {l : List Nat} {z : Str} {i : Int} {n : Nat} {c : Nat} (hz : z.cps.toList = l) (hl : l.length ≤ 100) (hi : i = n) (hc : l[n]? = some c) : opIx (.str z) (.int i) = some (.str ⟨#[c]⟩) := by
  have hn : n < l.length := (List.getElem?_eq_some_iff.mp hc).1
  have hzl : z.length ≤ sizeLine := by
    rw [show z.length = l.length by rw [← hz]; simp [Str.length]]
    exact Nat.le_of_lt (small1000 (by omega))
  subst hi
  show (if z.length ≤ sizeLine then (atI z.cps.toList (n : Int)).map fun c => D.str ⟨#[c]⟩ else none) = _
  rw [if_pos hzl, hz, atI_nat hn, hc]; rfl
theorem joinL_one : ∀ ls : List Nat, TL.joinL [] (ls.map fun c => [c]) = ls
  | [] => rfl
  | [_] => rfl
  | a :: b :: r => by
    show [a] ++ ([] ++ TL.joinL [] ((b :: r).map fun c => [c])) = _
    rw [joinL_one (b :: r)]; rfl
theorem mk_len (l : List Nat) : (mk l).length = l.length := by simp [mk, Str.length]
theorem mk_app (a b : List Nat) : mk a ++ mk b = mk (a ++ b) := by
  apply TL.ext_tl
  rw [TL.tl_append]
  simp [mk, TL.tl]
theorem cut_lo (l : List Nat) {z : Nat} (h : z ≤ l.length) : L2.cutS (mk l) none (some (z : Int)) = mk (l.take z) := by
  unfold L2.cutS
  rw [mk_len, HT.sIx_none, HT.sIx_nat, Nat.min_eq_left h]
  simp [mk]
theorem cut_hi (l : List Nat) {z : Nat} (h : z ≤ l.length) : L2.cutS (mk l) (some (z : Int)) none = mk (l.drop z) := by
  unfold L2.cutS
  rw [mk_len, HT.sIx_none, HT.sIx_nat, Nat.min_eq_left h]
  have : ((mk l).cps.toList.drop z).take (l.length - z) = l.drop z := List.take_of_length_le (by rw [List.length_drop]; exact Nat.le_refl _)
  rw [this]; rfl
theorem sum_ones : ∀ m : Nat, ((List.range m).map fun _ => 1).sum = m
  | 0 => rfl
  | m + 1 => by rw [List.range_succ, List.map_append, List.sum_append, sum_ones m]; rfl
theorem join_mk (l : List Nat) : Txt.join "" (l.map fun c => mk [c]) = mk l := by
  apply TL.ext_tl
  rw [TL.join_eq, TL.tl_join, List.map_map]
  exact joinL_one l
/-- a kind of the law's -/
structure KindOk (k : Str × Int × Int) : Prop where
  nm : ∃ L : List Nat, k.1 = mk L ∧ 1 ≤ L.length ∧ L.length ≤ 12 ∧ ∀ c ∈ L, c ∈ Cl
  c : 1 ≤ k.2.1 ∧ k.2.1 ≤ 1000
  d : 1 ≤ k.2.2 ∧ k.2.2 ≤ 9
def nmk (A B : List Nat) (k : Nat) : Str := mk (A ++ (kq[k]?.getD 0) :: B)
theorem nmk_inj {A B : List Nat} {i j : Nat} (hi : i < 6) (hj : j < 6) (h : nmk A B i = nmk A B j) : i = j := by
  have e : A ++ (kq[i]?.getD 0) :: B = A ++ (kq[j]?.getD 0) :: B := by
    have := congrArg (fun s : Str => s.cps.toList) h
    exact this
  have e2 := (List.cons.inj (List.append_cancel_left e)).1
  have hi' : i < kq.length := by rw [kq_len]; exact hi
  have hj' : j < kq.length := by rw [kq_len]; exact hj
  refine (List.getElem?_inj hi' kq_nd).mp ?_
  rw [List.getElem?_eq_getElem hi', List.getElem?_eq_getElem hj'] at e2 ⊢
  exact congrArg some e2
structure WayOk (ks : List (Str × Int × Int)) (w : Str × Str × Int) : Prop where
  s : w.1 ∈ ks.map (·.1)
  t : w.2.1 ∈ ks.map (·.1)
  d : 1 ≤ w.2.2 ∧ w.2.2 ≤ 6
end G88

namespace G88
open PySem PySem.Spec PyProof.Rows L2 Pu
def NameOk (s : Str) : Prop := 1 ≤ s.cps.toList.length ∧ s.cps.toList.length ≤ 12 ∧ ∀ c ∈ s.cps.toList, c ∈ Cl
structure Good (t : Tk) : Prop where
  ok : Ok t
  nm : ∀ k ∈ t.ks, NameOk k.1
theorem good_of {ks : List (Str × Int × Int)} {ws : List (Str × Str × Int)} (h1 : 1 ≤ ks.length) (h3 : ks.length ≤ 3) (nd : (ks.map (·.1)).Nodup) (hk : ∀ k ∈ ks, NameOk k.1 ∧ 1 ≤ k.2.1 ∧ k.2.1 ≤ 1000 ∧ 1 ≤ k.2.2 ∧ k.2.2 ≤ 1000) (hw4 : ws.length ≤ 4)
    (hw : ∀ w ∈ ws, w.1 ∈ ks.map (·.1) ∧ w.2.1 ∈ ks.map (·.1) ∧ 1 ≤ w.2.2 ∧ w.2.2 ≤ 1000) : Good ⟨ks, ws⟩ :=
  ⟨⟨h1, by show ks.length ≤ 4; omega, by show ws.length ≤ 8; omega, nd, fun k h => (hk k h).2, hw⟩, fun k h => (hk k h).1⟩
theorem f_isname {s : Str} (h : NameOk s) : Fn_is_name [.str s] = .ok (.bl true) := by
  obtain ⟨h1, h2, h3⟩ := h
  have hl : s.length = s.cps.toList.length := by simp [Str.length]
  have e1 : fLen [.str s] = some (.int (s.cps.toList.length : Int)) := by
    show (if s.length ≤ sizeLine then some (D.int (s.length : Int)) else none) = _
    rw [hl, if_pos (Nat.le_of_lt (small1000 (by omega)))]
  have key := lcGo_map (g := gN 1) (ev := e2 opIn (eN 1) (eC (.str "abcdefghijklmnopqrstuvwxyz0123456789"))) (ρ := [.val (.str s), .un]) (δ := fun c : Nat => D.str ⟨#[c]⟩) (fun _ => D.bl true) s.cps.toList (fun c hc => ⟨_, rfl, by
    have e : opIn (.str ⟨#[c]⟩) (.str "abcdefghijklmnopqrstuvwxyz0123456789") = some (.bl true) := by
      show (some (decide (c ∈ Cl))).map D.bl = _
      rw [decide_eq_true (h3 c hc)]; rfl
    generalize (Str.ofString "abcdefghijklmnopqrstuvwxyz0123456789") = CC at *
    simp -implicitDefEqProofs [e]⟩)
  have hb : (s.cps.toList.map fun _ => D.bl true) = (s.cps.toList.map fun _ => true).map D.bl := by rw [List.map_map]; rfl
  rw [hb] at key
  have e2 : fAll [.lst ((s.cps.toList.map fun _ => true).map D.bl)] = some (.bl true) := by
    show (bls? _).map _ = _
    rw [bls?_map]
    show some (D.bl ((s.cps.toList.map fun _ => true).all id)) = _
    rw [List.all_map]
    congr 2
    rw [List.all_eq_true]
    intro x _; rfl
  have hz : (s.cps.toList.map fun c : Nat => D.str ⟨#[c]⟩).length ≤ sizeLine := by rw [List.length_map]; exact Nat.le_of_lt (small1000 (by omega))
  have hcc : asSeq (.str s) = .ok (s.cps.toList.map fun c : Nat => D.str ⟨#[c]⟩) := rfl
  refine runFn_eq rfl ?_
  have q1 : (1 : Int) ≤ s.cps.toList.length := by omega
  have q2 : (s.cps.toList.length : Int) ≤ 12 := by omega
  unfold body_is_name
  generalize (s.cps.toList.map fun _ => true).map D.bl = BB at *
  generalize (s.cps.toList.map fun c : Nat => D.str ⟨#[c]⟩) = DD at *
  generalize (s.cps.toList.length : Int) = Z at *
  generalize (Str.ofString "abcdefghijklmnopqrstuvwxyz0123456789") = CC at *
  generalize D.str s = SS at *
  simp -implicitDefEqProofs [-asSeq_str, ini, e1, q1, q2, hcc, hz, key, e2]
theorem in_strs (s : Str) (l : List Str) : opIn (.str s) (.lst (l.map D.str)) = some (.bl (decide (s ∈ l))) := by
  have h1 : (l.map D.str).all flat = true := by
    rw [List.all_map, List.all_eq_true]; intro x _; rfl
  have h2 : ((l.map D.str).any fun y => eqF y (.str s)) = decide (s ∈ l) := by
    rw [List.any_map]
    clear h1
    induction l with
    | nil => rfl
    | cons x l ih =>
      rw [List.any_cons, ih]
      show (x == s || decide (s ∈ l)) = _
      by_cases hx : x = s
      · subst hx; simp
      · have h3 : (x == s) = false := by simpa using hx
        rw [h3]; simp [Ne.symm hx]
  show (inF (.str s) (l.map D.str)).map D.bl = _
  unfold inF
  rw [h1, h2]
  rfl
theorem f_arek {t : Tk} (g : Good t) : Fn_are_kinds [.lst (t.ks.map dK)] = .ok (.bl true) := by
  have k1 := g.ok.k1
  have k8 := g.ok.k8
  obtain ⟨ρ', e, x, y, z, rfl⟩ := forS_thru (g := gT [2, 3, 4]) (body := sSeq (sIf (tOr' (tNot' (tV (eCall Fn_is_name (aC (eN 2) aN)))) (tV (e2 opIn (eN 2) (eB 1)))) (sRet (eC (.bl false))) sNil)
    (sSeq (sIf (tOr' (tNot' (tV (eCh opLe opLe (eC (.int 1)) (eN 3) (eC (.int 1000))))) (tNot' (tV (eCh opLe opLe (eC (.int 1)) (eN 4) (eC (.int 1000)))))) (sRet (eC (.bl false))) sNil)
    (sApp 1 (eN 2)))) (t.ks.map dK) (fun i ρ => ∃ x y z, ρ = [.val (.lst (t.ks.map dK)), .own (((t.ks.take i).map (·.1)).map D.str), x, y, z])
    [.val (.lst (t.ks.map dK)), .own [], .un, .un, .un] ⟨_, _, _, rfl⟩ (fun i d ρ e hi => by
      obtain ⟨x, y, z, rfl⟩ := hi
      rw [List.getElem?_map] at e
      obtain ⟨k, ek, rfl⟩ := Option.map_eq_some_iff.mp e
      have hkm := List.mem_of_getElem? ek
      have hk := g.ok.kk k hkm
      have e1 := f_isname (g.nm k hkm)
      have hil := (List.getElem?_eq_some_iff.mp ek).1
      have hni : ¬ k.1 ∈ (t.ks.take i).map (·.1) := fun h => by
        obtain ⟨k', hk', he⟩ := List.mem_map.mp h
        obtain ⟨j, hj⟩ := List.mem_iff_getElem?.mp hk'
        have hjl := (List.getElem?_eq_some_iff.mp hj).1
        rw [List.length_take] at hjl
        rw [List.getElem?_take_of_lt (by omega)] at hj
        have h1 := num_of g.ok.nd ek
        have h2 := num_of g.ok.nd hj
        rw [he] at h2
        omega
      have e2 := in_strs k.1 ((t.ks.take i).map (·.1))
      rw [decide_eq_false hni] at e2
      have hsz : (((t.ks.take i).map (·.1)).map D.str).length < sizeLine := by
        rw [List.length_map, List.length_map, List.length_take]; exact small1000 (by omega)
      rw [take_snoc ek, List.map_append, List.map_append]
      refine ⟨_, [.val (.lst (t.ks.map dK)), .own (((t.ks.take i).map (·.1)).map D.str ++ [.str k.1]), .val (.str k.1), .val (.int k.2.1), .val (.int k.2.2)], rfl, .inl ?_, _, _, _, rfl⟩
      generalize ((t.ks.take i).map (·.1)).map D.str = SN at *
      generalize t.ks.map dK = KS
      simp -implicitDefEqProofs [e1, e2, hk.1, hk.2.1, hk.2.2.1, hk.2.2.2, hsz])
  refine runFn_eq rfl ?_
  have q1 : (1 : Int) ≤ t.ks.length := by omega
  have q2 : (t.ks.length : Int) ≤ 8 := by omega
  have hln : fLen [.lst (t.ks.map dK)] = some (.int (t.ks.length : Int)) := by simp
  rw [List.length_map] at e
  generalize ((t.ks.take t.ks.length).map (·.1)).map D.str = SN at *
  generalize (t.ks.length : Int) = Z at *
  generalize t.ks.map dK = KS at *
  simp -implicitDefEqProofs [ini, body_are_kinds, hln, q1, q2, e]

theorem notin_strs (s : Str) (l : List Str) : opNotIn (.str s) (.lst (l.map D.str)) = some (.bl (!decide (s ∈ l))) := by
  have h := in_strs s l
  unfold opIn at h
  unfold opNotIn
  obtain ⟨b, e1, e2⟩ := Option.map_eq_some_iff.mp h
  cases e2
  rw [e1]; rfl
theorem f_arew {t : Tk} (g : Good t) : Fn_are_ways [.lst (t.ws.map dW), .lst ((t.ks.map (·.1)).map D.str)] = .ok (.bl true) := by
  have w16 := g.ok.w16
  obtain ⟨ρ', e, x, y, z, rfl⟩ := forS_thru (g := gT [2, 3, 4]) (body := sSeq (sIf (tOr' (tV (e2 opNotIn (eN 2) (eN 1))) (tV (e2 opNotIn (eN 3) (eN 1)))) (sRet (eC (.bl false))) sNil)
    (sIf (tNot' (tV (eCh opLe opLe (eC (.int 1)) (eN 4) (eC (.int 1000))))) (sRet (eC (.bl false))) sNil)) (t.ws.map dW) (fun i ρ => ∃ x y z, ρ = [.val (.lst (t.ws.map dW)), .val (.lst ((t.ks.map (·.1)).map D.str)), x, y, z])
    [.val (.lst (t.ws.map dW)), .val (.lst ((t.ks.map (·.1)).map D.str)), .un, .un, .un] ⟨_, _, _, rfl⟩ (fun i d ρ e hi => by
      obtain ⟨x, y, z, rfl⟩ := hi
      rw [List.getElem?_map] at e
      obtain ⟨w, ew, rfl⟩ := Option.map_eq_some_iff.mp e
      have hw := g.ok.ww w (List.mem_of_getElem? ew)
      have n1 := notin_strs w.1 (t.ks.map (·.1))
      have n2 := notin_strs w.2.1 (t.ks.map (·.1))
      rw [decide_eq_true hw.1] at n1
      rw [decide_eq_true hw.2.1] at n2
      refine ⟨_, [.val (.lst (t.ws.map dW)), .val (.lst ((t.ks.map (·.1)).map D.str)), .val (.str w.1), .val (.str w.2.1), .val (.int w.2.2)], rfl, .inl ?_, _, _, _, rfl⟩
      generalize D.lst ((t.ks.map (·.1)).map D.str) = SN at *
      generalize t.ws.map dW = WS
      simp -implicitDefEqProofs [n1, n2, hw.2.2.1, hw.2.2.2])
  refine runFn_eq rfl ?_
  have hln : fLen [.lst (t.ws.map dW)] = some (.int (t.ws.length : Int)) := by simp
  have hq : ¬ (16 : Int) < t.ws.length := by omega
  generalize D.lst ((t.ks.map (·.1)).map D.str) = SN at *
  generalize (t.ws.length : Int) = Z at *
  generalize t.ws.map dW = WS at *
  simp -implicitDefEqProofs [ini, body_are_ways, hln, hq, e]
@[simp] theorem sFldC_ob (C i : Nat) (f : Str) (a : Ev) (ρ : PEnv) : sFldC C i f a ρ = match ρ[i]? with | some (.ob C' fs) => if C' = C then sFld i f a ρ else .stuck | _ => .stuck := rfl
@[simp] theorem sFld_ap (i : Nat) (f : Str) (a : Ev) (ρ : PEnv) : sFld i f a ρ = match ρ[i]? with | some (.ob C fs) => Out.of (a ρ) fun d => if fs.length < 1000 then .nx (ρ.set i (.ob C (putD f d fs))) else .stuck | _ => .stuck := rfl
theorem putD_len (f : Str) (d : D) : ∀ fs : List (Str × D), (putD f d fs).length ≤ fs.length + 1
  | [] => Nat.le_refl _
  | (g, x) :: r => by
    unfold putD
    split
    · exact Nat.le_succ _
    · exact Nat.succ_le_succ (putD_len f d r)
theorem putD_ne {f g : Str} {d x : D} {r : List (Str × D)} (h : ¬ g = f) : putD f d ((g, x) :: r) = (g, x) :: putD f d r := by
  show (if g = f then (g, d) :: r else (g, x) :: putD f d r) = _
  rw [if_neg h]
theorem putD_flds (a b c : D) : putD ("ways" : Str) c (putD ("kinds" : Str) b (putD ("name" : Str) a [])) = [(("name" : Str), a), (("kinds" : Str), b), (("ways" : Str), c)] := by
  have h1 : ¬ (("name" : Str) = ("kinds" : Str)) := by decide +kernel
  have h2 : ¬ (("name" : Str) = ("ways" : Str)) := by decide +kernel
  have h3 : ¬ (("kinds" : Str) = ("ways" : Str)) := by decide +kernel
  show putD ("ways" : Str) c (putD ("kinds" : Str) b [(("name" : Str), a)]) = _
  rw [putD_ne h1]
  show putD ("ways" : Str) c [(("name" : Str), a), (("kinds" : Str), b)] = _
  rw [putD_ne h2, putD_ne h3]
  rfl
theorem f_init {nm : Str} {t : Tk} (hn : NameOk nm) (g : Good t) : Fn_Task_init [.str nm, .lst (t.ks.map dK), .lst (t.ws.map dW)] = .ok [("name", .str nm), ("kinds", .tup (t.ks.map dK)), ("ways", .tup (t.ws.map dW))] := by
  have k8 := g.ok.k8
  have w16 := g.ok.w16
  have c1 := f_isname hn
  have c2 := f_arek g
  have c3 := f_arew g
  have hz1 : (t.ks.map dK).length ≤ sizeLine := by rw [List.length_map]; exact Nat.le_of_lt (small1000 (by omega))
  have hz2 : (t.ws.map dW).length ≤ sizeLine := by rw [List.length_map]; exact Nat.le_of_lt (small1000 (by omega))
  have l1 : ∀ a b c d e, lcGo (gN 4) tYes' (e2 opIx (eN 4) (eC (.int 0))) [a, b, c, d, .un, e] (t.ks.map dK) = .ok ((t.ks.map (·.1)).map D.str) := fun a b c d e => by
    rw [lcGo_map (δ := dK) (fun k => D.str k.1) t.ks (fun k _ => ⟨_, rfl, by simp -implicitDefEqProofs [dK]⟩), List.map_map]; rfl
  have l2 : ∀ a b c d e, lcGo (gN 4) tYes' (eT (aC (e2 opIx (eN 4) (eC (.int 0))) (aC (e2 opIx (eN 4) (eC (.int 1))) (aC (e2 opIx (eN 4) (eC (.int 2))) aN)))) [a, b, c, d, .un, e] (t.ks.map dK) = .ok (t.ks.map dK) := fun a b c d e =>
    lcGo_map (δ := dK) dK t.ks (fun k _ => ⟨_, rfl, by simp -implicitDefEqProofs [dK]⟩)
  have l3 : ∀ a b c d e, lcGo (gN 5) tYes' (eT (aC (e2 opIx (eN 5) (eC (.int 0))) (aC (e2 opIx (eN 5) (eC (.int 1))) (aC (e2 opIx (eN 5) (eC (.int 2))) aN)))) [a, b, c, d, e, .un] (t.ws.map dW) = .ok (t.ws.map dW) := fun a b c d e =>
    lcGo_map (δ := dW) dW t.ws (fun k _ => ⟨_, rfl, by simp -implicitDefEqProofs [dW]⟩)
  rw [← putD_flds]
  have p1 : (putD "name" (D.str nm) []).length < 1000 := by have h := putD_len "name" (D.str nm) []; have e : ([] : List (Str × D)).length = 0 := rfl; omega
  have p2 : (putD "kinds" (.tup (t.ks.map dK)) (putD "name" (D.str nm) [])).length < 1000 := by
    have h := putD_len "name" (D.str nm) []
    have h2 := putD_len "kinds" (.tup (t.ks.map dK)) (putD "name" (D.str nm) [])
    have e : ([] : List (Str × D)).length = 0 := rfl
    omega
  show runIn 1 4 6 body_Task_init _ = _
  unfold runIn
  rw [if_pos (show ([D.str nm, .lst (t.ks.map dK), .lst (t.ws.map dW)] : List D).length + 1 = 4 from rfl)]
  show (body_Task_init [.ob 1 [], .val (.str nm), .val (.lst (t.ks.map dK)), .val (.lst (t.ws.map dW)), .un, .un]).init 1 = _
  have tf : ∀ (as : Av) (ρ : PEnv) (ds : List D), as ρ = .ok [.lst ds] → eTupF as ρ = .ok (.tup ds) := fun as ρ ds h => eTupF_lst ρ as ds h
  generalize hg1 : putD "name" (D.str nm) [] = g1 at *
  generalize hg2 : putD "kinds" (.tup (t.ks.map dK)) g1 = g2 at *
  generalize hg3 : putD "ways" (.tup (t.ws.map dW)) g2 = g3 at *
  have t1 : ∀ a b c d e, eTupF (aC (eL (lLc (iS (eN 2)) (gN 4) [4] tYes' (eT (aC (e2 opIx (eN 4) (eC (.int 0))) (aC (e2 opIx (eN 4) (eC (.int 1))) (aC (e2 opIx (eN 4) (eC (.int 2))) aN)))))) aN) [a, b, .val (.lst (t.ks.map dK)), c, d, e] = .ok (.tup (t.ks.map dK)) := fun a b c d e => by
    refine tf _ _ _ ?_
    generalize t.ks.map dK = KS at *
    simp -implicitDefEqProofs [l2, hz1]
  have t2 : ∀ a b c d e, eTupF (aC (eL (lLc (iS (eN 3)) (gN 5) [5] tYes' (eT (aC (e2 opIx (eN 5) (eC (.int 0))) (aC (e2 opIx (eN 5) (eC (.int 1))) (aC (e2 opIx (eN 5) (eC (.int 2))) aN)))))) aN) [a, b, c, .val (.lst (t.ws.map dW)), d, e] = .ok (.tup (t.ws.map dW)) := fun a b c d e => by
    refine tf _ _ _ ?_
    generalize t.ws.map dW = KS at *
    simp -implicitDefEqProofs [l3, hz2]
  generalize ((t.ks.map (·.1)).map D.str) = SN at *
  generalize t.ks.map dK = KS at *
  generalize t.ws.map dW = WS at *
  generalize D.str nm = NM at *
  simp -implicitDefEqProofs [body_Task_init, c1, c2, l1, hz1, c3, t1, t2, hg1, p1, hg2, p2, hg3, Out.init, Slot.fsOf]
end G88

namespace G88
open PySem PySem.Spec PyProof.Rows L2 Pu
/-! ### the law's names -/
theorem f_deadline {nm x : Str} {t : Tk} {k : Str × Int × Int} (h : x ∈ t.ks.map (·.1)) (hk : t.ks[num t.ks x]? = some k) : Fn_Task_deadline [dT nm t, .str x] = .ok (.int k.2.2) := by
  refine runFn_eq rfl ?_
  have e1 : opIx (.tup (t.ks.map dK)) (.int (num t.ks x : Int)) = some (dK k) := ix_tup' rfl (by rw [List.getElem?_map, hk]; rfl)
  simp -implicitDefEqProofs [ini, body_Task_deadline, f_kn h, e1]
  simp [dK]
/-- a number of the law's, at a place, of so many -/
theorem pk {l : List Int} {N : Nat} (hl : l.length = N) {z : Int} (h : 0 ≤ z ∧ z < N) : ∃ v : Int, opIx (dI l) (.int z) = some (.int v) ∧ v ∈ l := by
  have hz : z.toNat < l.length := by omega
  exact ⟨l[z.toNat], ix_I (n := z.toNat) (by omega) (List.getElem?_eq_getElem hz), List.getElem_mem hz⟩
theorem f_word {s : Int} (hs0 : 0 ≤ s ∧ s < 1009) : ∃ wd : List Nat, Fn_law_word [.int s] = .ok (.str (mk wd)) ∧ wd.length ≤ 4 ∧ ∀ c ∈ wd, c ∈ Cl := by
  obtain ⟨m, hm, hm4⟩ : ∃ m : Nat, s % 5 = m ∧ m ≤ 4 := ⟨(s % 5).toNat, by omega, by omega⟩
  have hc : ∀ j : Nat, ∃ c : Nat, j ≤ 4 → c ∈ Cl ∧ opIx (.str "abcdefghijklmnopqrstuvwxyz0123456789") (.int ((s / 5 + 7 * (j : Int) + s * (j : Int)) % 36)) = some (.str ⟨#[c]⟩) := fun j => by
    have h1 : 0 ≤ (s / 5 + 7 * (j : Int) + s * (j : Int)) % 36 := Int.emod_nonneg _ (by omega)
    have h2 : (s / 5 + 7 * (j : Int) + s * (j : Int)) % 36 < 36 := Int.emod_lt_of_pos _ (by omega)
    have hlt : ((s / 5 + 7 * (j : Int) + s * (j : Int)) % 36).toNat < Cl.length := by rw [Cl_len]; omega
    exact ⟨Cl[((s / 5 + 7 * (j : Int) + s * (j : Int)) % 36).toNat], fun _ => ⟨List.getElem_mem hlt, ix_str (l := Cl) rfl (by rw [Cl_len]; omega) (by omega) (List.getElem?_eq_getElem hlt)⟩⟩
  obtain ⟨ch, hch⟩ := Classical.axiomOfChoice hc
  have hrg : rgD 0 (m : Int) = (List.range m).map fun j : Nat => D.int (j : Int) := by
    unfold rgD
    have : ((m : Int) - 0).toNat = m := by omega
    rw [this]
    apply List.map_congr_left
    intro a _
    rw [Int.zero_add]
  have key : lcGo (gN 2) tYes' (e2 opIx (eN 1) (e2 opMod (eF fInt (aC (e2 opAdd (e2 opAdd (e2 opDiv (eN 0) (eC (.int 5))) (e2 opMul (eC (.int 7)) (eN 2))) (e2 opMul (eN 0) (eN 2))) aN)) (eC (.int 36))))
      [.val (.int s), .val (.str "abcdefghijklmnopqrstuvwxyz0123456789"), .un] (rgD 0 (m : Int)) = .ok (((List.range m).map fun j => mk [ch j]).map D.str) := by
    rw [hrg, lcGo_map (δ := fun j : Nat => D.int (j : Int)) (fun j => .str (mk [ch j])) (List.range m) (fun j hj => ?_), List.map_map]
    · rfl
    · have hj4 : j ≤ 4 := by have := List.mem_range.mp hj; omega
      have h1 := (hch j hj4).2
      have d1 := opDiv_of s 5 (by omega) (by omega)
      have d2 := opMul_of 7 (j : Int) (by omega)
      have d3 := opMul_of s (j : Int) (by omega)
      have d4 := opMod_of (s / 5 + 7 * (j : Int) + s * (j : Int)) 36 (by omega)
      refine ⟨_, rfl, ?_⟩
      generalize (Str.ofString "abcdefghijklmnopqrstuvwxyz0123456789") = CC at h1 ⊢
      simp -implicitDefEqProofs [d1, d2, d3, d4, h1, mk]
  have hfj : fJoin (.str "") [.lst (((List.range m).map fun j => mk [ch j]).map D.str)] = some (.str (mk ((List.range m).map ch))) := by
    have h1 : Pu.strs? (((List.range m).map fun j => mk [ch j]).map D.str) = some ((List.range m).map fun j => mk [ch j]) := strs?_map _
    have h2 : (((List.range m).map fun j => mk [ch j]).map (·.length)).sum + ((List.range m).map fun j => mk [ch j]).length * (("" : Str)).length ≤ 16777216 := by
      have e0 : (("" : Str)).length = 0 := by decide +kernel
      rw [e0, Nat.mul_zero, Nat.add_zero, List.map_map]
      have : ((List.range m).map ((fun x : Str => x.length) ∘ fun j => mk [ch j])) = (List.range m).map fun _ => 1 := by
        apply List.map_congr_left
        intro a _
        show (mk [ch a]).length = 1
        rw [mk_len]; rfl
      rw [this]
      rw [sum_ones]; omega
    show ((Pu.strs? _).bind fun ys => if (ys.map (·.length)).sum + ys.length * (("" : Str)).length ≤ 16777216 then some (D.str (Txt.join "" ys)) else none) = _
    rw [h1]
    show (if _ ≤ _ then _ else _) = _
    rw [if_pos h2]
    have h3 := join_mk ((List.range m).map ch)
    rw [List.map_map] at h3
    exact congrArg (fun z => some (D.str z)) h3
  refine ⟨(List.range m).map ch, runFn_eq rfl ?_, by rw [List.length_map, List.length_range]; exact hm4, fun c hc => ?_⟩
  · have hr := asR1_of (m : Int) (by omega) (by omega)
    have hzr : (rgD 0 (m : Int)).length ≤ sizeLine := by rw [rgD_length]; exact Nat.le_of_lt (small1000 (by omega))
    have d5 := opMod_of s 5 (by omega)
    have ej : ∀ (b : Ev) (ρ : PEnv) (x : D), b ρ = .ok x → eJoin (eC (.str "")) b ρ = Res.of (fJoin (.str "") [x]) := fun b ρ x h => by
      unfold eJoin
      rw [eC_ap, h]; rfl
    have e3 := ej (eL (lLc (iR1 (aC (e2 opMod (eF fInt (aC (eN 0) aN)) (eC (.int 5))) aN)) (gN 2) [2] tYes' (e2 opIx (eN 1) (e2 opMod (eF fInt (aC (e2 opAdd (e2 opAdd (e2 opDiv (eN 0) (eC (.int 5))) (e2 opMul (eC (.int 7)) (eN 2))) (e2 opMul (eN 0) (eN 2))) aN)) (eC (.int 36))))))
      [.val (.int s), .val (.str "abcdefghijklmnopqrstuvwxyz0123456789"), .un] (.lst (((List.range m).map fun j => mk [ch j]).map D.str)) (by
        generalize ((List.range m).map fun j => mk [ch j]).map D.str = WW at *
        generalize (Str.ofString "abcdefghijklmnopqrstuvwxyz0123456789") = CC at *
        generalize rgD 0 (m : Int) = RG at *
        simp -implicitDefEqProofs [d5, hm, hr, hzr, key])
    rw [hfj] at e3
    clear key hch hc ej
    show (body_law_word [.val (.int s), .un, .un]).res = _
    unfold body_law_word
    generalize mk ((List.range m).map ch) = R0 at *
    generalize (Str.ofString "abcdefghijklmnopqrstuvwxyz0123456789") = CC at *
    simp -implicitDefEqProofs [e3]
  · obtain ⟨j, hj, rfl⟩ := List.mem_map.mp hc
    exact (hch j (by have := List.mem_range.mp hj; omega)).1
/-- a word is cut in two -/
theorem f_named {wd : List Nat} {u : Int} (hw4 : wd.length ≤ 4) (hwc : ∀ c ∈ wd, c ∈ Cl) (hu0 : 0 ≤ u) : ∃ A B : List Nat, A.length + B.length ≤ 4 ∧ (∀ c ∈ A, c ∈ Cl) ∧ (∀ c ∈ B, c ∈ Cl) ∧ ∀ (k c : Nat), kq[k]? = some c → Fn_law_named [.str (mk wd), .int u, .int k] = .ok (.str (mk (A ++ c :: B))) := by
  obtain ⟨m, hwl, hm4⟩ : ∃ m, wd.length = m ∧ m ≤ 4 := ⟨_, rfl, hw4⟩
  obtain ⟨z, hz, hzl⟩ : ∃ z : Nat, u % ((m : Int) + 1) = z ∧ z ≤ m := by
    have h1 : 0 ≤ u % ((m : Int) + 1) := Int.emod_nonneg _ (by omega)
    have h2 : u % ((m : Int) + 1) < (m : Int) + 1 := Int.emod_lt_of_pos _ (by omega)
    exact ⟨(u % ((m : Int) + 1)).toNat, by omega, by omega⟩
  refine ⟨wd.take z, wd.drop z, by rw [List.length_take, List.length_drop]; omega, fun c hc => hwc c (List.mem_of_mem_take hc), fun c hc => hwc c (List.mem_of_mem_drop hc), fun k c hkc => ?_⟩
  have i3 : opIx (.str "kq3zx9") (.int (k : Int)) = some (.str (mk [c])) := ix_str (l := kq) rfl (by rw [kq_len]; omega) rfl hkc
  have w1 : fLen [.str (mk wd)] = some (.int (m : Int)) := by
    show (if (mk wd).length ≤ sizeLine then some (D.int ((mk wd).length : Int)) else none) = _
    rw [mk_len, hwl, if_pos (Nat.le_of_lt (small1000 (by omega)))]
  have wz : (mk wd).length ≤ sizeLine := by rw [mk_len]; exact Nat.le_of_lt (small1000 (by omega))
  have c1 := cut_lo wd (z := z) (by omega)
  have c2 := cut_hi wd (z := z) (by omega)
  have a1 : opAdd (.str (mk (wd.take z))) (.str (mk [c])) = some (.str (mk (wd.take z ++ [c]))) := by
    show (if _ ≤ _ then _ else _) = _
    rw [if_pos (by rw [mk_len, mk_len, List.length_take]; exact Nat.le_of_lt (small1000 (by simp; omega))), mk_app]
  have a2 : opAdd (.str (mk (wd.take z ++ [c]))) (.str (mk (wd.drop z))) = some (.str (mk (wd.take z ++ c :: wd.drop z))) := by
    show (if _ ≤ _ then _ else _) = _
    rw [if_pos (by rw [mk_len, mk_len, List.length_append, List.length_take, List.length_drop]; exact Nat.le_of_lt (small1000 (by simp; omega))), mk_app, List.append_assoc]; rfl
  have sl : ∀ (a : Ev) (lo hi : Ov) (ρ : PEnv) (x : Str) (p q : Option Int), a ρ = .ok (.str x) → lo ρ = .ok p → hi ρ = .ok q → x.length ≤ sizeLine → eSlS a lo hi ρ = .ok (.str (L2.cutS x p q)) := fun a lo hi ρ x p q h1 h2 h3 h4 => by
    unfold eSlS
    rw [h1, h2, h3]
    show (if x.length ≤ sizeLine then _ else _) = _
    rw [if_pos h4]
  have dm := opMod_of u ((m : Int) + 1) (by omega)
  have s1 := sl (eN 0) oN (oS (eN 3)) [.val (.str (mk wd)), .val (.int u), .val (.int k), .val (.int z)] (mk wd) none (some (z : Int)) rfl rfl rfl wz
  have s2 := sl (eN 0) (oS (eN 3)) oN [.val (.str (mk wd)), .val (.int u), .val (.int k), .val (.int z)] (mk wd) (some (z : Int)) none rfl rfl rfl wz
  rw [c1] at s1
  rw [c2] at s2
  refine runFn_eq rfl ?_
  show (body_law_named [.val (.str (mk wd)), .val (.int u), .val (.int k), .un]).res = _
  clear sl
  unfold body_law_named
  generalize mk (wd.take z ++ c :: wd.drop z) = R4 at *
  generalize mk (wd.take z ++ [c]) = R3 at *
  generalize mk (wd.take z) = R1 at *
  generalize mk (wd.drop z) = R2 at *
  generalize mk wd = R0 at *
  generalize mk [c] = R5 at *
  generalize (Str.ofString "kq3zx9") = KQ at *
  simp -implicitDefEqProofs [w1, dm, hz, s1, s2, i3, a1, a2]
end G88

namespace G88
open PySem PySem.Spec PyProof.Rows L2 Pu
/-! ### the law's kinds and ways -/
/-- a number of the law's, of so many -/
theorem pkm {l : List Int} {N : Nat} (hl : l.length = N) {z n : Int} (h : 0 ≤ z ∧ z < N) (hn : 0 < n) : ∃ v r : Int, opIx (dI l) (.int z) = some (.int v) ∧ opMod (.int v) (.int n) = some (.int r) ∧ 0 ≤ r ∧ r < n := by
  obtain ⟨v, e, _⟩ := pk hl h
  exact ⟨v, v % n, e, opMod_of _ _ hn, Int.emod_nonneg _ (by omega), Int.emod_lt_of_pos _ hn⟩
theorem f_lkinds {l : List Int} (hl : l.length = 140) (hs : Small l) {a sc : Int} (ha : 0 ≤ a ∧ a ≤ 130) (hsc : 1 ≤ sc ∧ sc ≤ 250) :
    ∃ ks : List (Str × Int × Int), Fn_law_kinds [dI l, .int a, .int sc] = .ok (.lst (ks.map dK)) ∧ 1 ≤ ks.length ∧ ks.length ≤ 3 ∧ (ks.map (·.1)).Nodup ∧ ∀ k ∈ ks, KindOk k := by
  obtain ⟨s1, s2⟩ := hsc
  obtain ⟨m', m, e0, e0', m0, m3⟩ := pkm hl (z := a) (n := 3) (by omega) (by omega)
  obtain ⟨u, eu, hu⟩ := pk hl (z := a + 7) (by omega)
  obtain ⟨u2, eu2, hu2⟩ := pk hl (z := a + 8) (by omega)
  obtain ⟨wd, ew, hw4, hwc⟩ := f_word (hs u hu)
  obtain ⟨A, B, hAB, hA, hB, hnm⟩ := f_named hw4 hwc (hs u2 hu2).1
  obtain ⟨ρ', e, ks, x, y, rfl, hkl, hk⟩ := forS_thru (g := gN 5) (body := sSeq (sSet 6 (e2 opMul (eN 2) (e2 opAdd (eC (.int 1)) (e2 opMod (eF fInt (aC (e2 opIx (eN 0) (e2 opAdd (e2 opAdd (eN 1) (eC (.int 1))) (e2 opMul (eC (.int 2)) (eN 5)))) aN)) (eC (.int 4))))))
    (sApp 4 (eT (aC (eCall Fn_law_named (aC (eN 3) (aC (e2 opIx (eN 0) (e2 opAdd (eN 1) (eC (.int 8)))) (aC (eN 5) aN)))) (aC (eN 6) (aC (e2 opAdd (eC (.int 1)) (e2 opMod (eF fInt (aC (e2 opIx (eN 0) (e2 opAdd (e2 opAdd (eN 1) (eC (.int 2))) (e2 opMul (eC (.int 2)) (eN 5)))) aN)) (eC (.int 9)))) aN)))))) (rgD 0 (1 + m))
    (fun i ρ => ∃ (ks : List (Str × Int × Int)) (x y : Pu.Slot), ρ = [.val (dI l), .val (.int a), .val (.int sc), .val (.str (mk wd)), .own (ks.map dK), x, y] ∧ ks.length = i ∧ ∀ j k, ks[j]? = some k → k.1 = nmk A B j ∧ KindOk k)
    [.val (dI l), .val (.int a), .val (.int sc), .val (.str (mk wd)), .own [], .un, .un] ⟨[], _, _, rfl, rfl, fun j k h => by simp at h⟩ (fun i d ρ e hi => by
      obtain ⟨ks, x, y, rfl, hkl, hk⟩ := hi
      obtain ⟨rfl, hil⟩ := rg0_some e
      have hi6 : i < kq.length := by rw [kq_len]; omega
      obtain ⟨p', p, e1, e1', p1, p2⟩ := pkm hl (z := a + 1 + 2 * (i : Int)) (n := 4) (by omega) (by omega)
      obtain ⟨q', q, e2, e2', q1, q2⟩ := pkm hl (z := a + 2 + 2 * (i : Int)) (n := 9) (by omega) (by omega)
      have e3 := hnm i kq[i] (List.getElem?_eq_getElem hi6)
      have hen : nmk A B i = mk (A ++ kq[i] :: B) := by unfold nmk; rw [List.getElem?_eq_getElem hi6]; rfl
      have hsz : (ks.map dK).length < sizeLine := by rw [List.length_map]; exact small1000 (by omega)
      have d1 := opMul_of 2 (i : Int) (by omega)
      have d2 := opMul_of' sc (1 + p) (by omega)
      have b1 : sc * (1 + p) ≤ 250 * 4 := Int.mul_le_mul s2 (by omega) (by omega) (by omega)
      have b2 : 1 * 1 ≤ sc * (1 + p) := Int.mul_le_mul s1 (by omega) (by omega) (by omega)
      refine ⟨_, [.val (dI l), .val (.int a), .val (.int sc), .val (.str (mk wd)), .own ((ks ++ [(nmk A B i, sc * (1 + p), 1 + q)]).map dK), .val (.int i), .val (.int (sc * (1 + p)))], rfl, .inl ?_, _, _, _, rfl, by rw [List.length_append, hkl]; rfl, fun j k hj => ?_⟩
      · rw [List.map_append, hen]
        generalize ks.map dK = KS at *
        generalize mk (A ++ kq[i] :: B) = NM at *
        generalize mk wd = WD at *
        generalize dI l = LL at *
        simp -implicitDefEqProofs [eu2, e1, e1', e2, e2', e3, d1, d2, hsz, dK]
      · by_cases hjl : j < ks.length
        · rw [List.getElem?_append_left hjl] at hj
          exact hk j k hj
        · have : j = i := by
            have := (List.getElem?_eq_some_iff.mp hj).1
            rw [List.length_append, List.length_singleton] at this
            omega
          subst this
          rw [List.getElem?_append_right (by omega), hkl, Nat.sub_self] at hj
          cases hj
          refine ⟨rfl, ⟨_, hen, by simp; omega, by simp; omega, fun c hc => ?_⟩, ⟨by show 1 ≤ sc * (1 + p); omega, by show sc * (1 + p) ≤ 1000; omega⟩, by show 1 ≤ 1 + q; omega, by show 1 + q ≤ 9; omega⟩
          rcases List.mem_append.mp hc with hc | hc
          · exact hA c hc
          · rcases List.mem_cons.mp hc with rfl | hc
            · exact kq_Cl _ (List.getElem_mem hi6)
            · exact hB c hc)
  rw [rgD_length] at hkl
  have hr := asR1_of (1 + m) (by omega) (by omega)
  refine ⟨ks, runFn_eq rfl ?_, by omega, by omega, ?_, fun k hk' => ?_⟩
  · generalize ks.map dK = KS at *
    generalize dI l = LL at *
    generalize rgD 0 (1 + m) = RG at *
    generalize mk wd = WD at *
    simp -implicitDefEqProofs [ini, body_law_kinds, e0, e0', eu, ew, hr, e]
  · refine List.pairwise_iff_getElem.mpr fun i j hi hj hij heq => ?_
    rw [List.length_map] at hi hj
    rw [List.getElem_map, List.getElem_map] at heq
    have h1 := (hk i _ (List.getElem?_eq_getElem (by omega : i < ks.length))).1
    have h2 := (hk j _ (List.getElem?_eq_getElem hj)).1
    have h3 : (ks[i]).1 = (ks[j]).1 := heq
    rw [h1, h2] at h3
    have := nmk_inj (by omega) (by omega) h3
    omega
  · obtain ⟨j, hj⟩ := List.mem_iff_getElem?.mp hk'
    exact (hk j k hj).2
theorem f_lways {l : List Int} {ks : List (Str × Int × Int)} (hl : l.length = 140) (h1 : 1 ≤ ks.length) (h3 : ks.length ≤ 3) {a : Int} (ha : 0 ≤ a ∧ a ≤ 120) :
    ∃ ws : List (Str × Str × Int), Fn_law_ways [dI l, .int a, .lst (ks.map dK)] = .ok (.lst (ws.map dW)) ∧ ws.length ≤ 4 ∧ ∀ w ∈ ws, WayOk ks w := by
  obtain ⟨m', m, e0, e0', m0, m3⟩ := pkm hl (z := a) (n := 5) (by omega) (by omega)
  have kat : ∀ z : Int, 0 ≤ z → z < (ks.length : Int) → ∃ k : Str × Int × Int, k.1 ∈ ks.map (·.1) ∧ opIx (.lst (ks.map dK)) (.int z) = some (.tup [.str k.1, .int k.2.1, .int k.2.2]) := fun z h1 h2 => by
    have hz : z.toNat < ks.length := by omega
    exact ⟨ks[z.toNat], List.mem_map_of_mem (List.getElem_mem hz), ix_lst' (n := z.toNat) (by omega) (by rw [List.getElem?_map, List.getElem?_eq_getElem hz]; rfl)⟩
  have hln : fLen [.lst (ks.map dK)] = some (.int (ks.length : Int)) := by simp
  obtain ⟨ρ', e, ws, x, y, z, rfl, hwl, hw⟩ := forS_thru (g := gN 4) (body := sSeq (sSet 5 (e2 opIx (e2 opIx (eN 2) (e2 opMod (eF fInt (aC (e2 opIx (eN 0) (e2 opAdd (e2 opAdd (eN 1) (eC (.int 1))) (e2 opMul (eC (.int 3)) (eN 4)))) aN)) (eF fLen (aC (eN 2) aN)))) (eC (.int 0))))
    (sSeq (sSet 6 (e2 opIx (e2 opIx (eN 2) (e2 opMod (eF fInt (aC (e2 opIx (eN 0) (e2 opAdd (e2 opAdd (eN 1) (eC (.int 2))) (e2 opMul (eC (.int 3)) (eN 4)))) aN)) (eF fLen (aC (eN 2) aN)))) (eC (.int 0))))
    (sApp 3 (eT (aC (eN 5) (aC (eN 6) (aC (e2 opAdd (eC (.int 1)) (e2 opMod (eF fInt (aC (e2 opIx (eN 0) (e2 opAdd (e2 opAdd (eN 1) (eC (.int 3))) (e2 opMul (eC (.int 3)) (eN 4)))) aN)) (eC (.int 6)))) aN))))))) (rgD 0 m)
    (fun i ρ => ∃ (ws : List (Str × Str × Int)) (x y z : Pu.Slot), ρ = [.val (dI l), .val (.int a), .val (.lst (ks.map dK)), .own (ws.map dW), x, y, z] ∧ ws.length = i ∧ ∀ w ∈ ws, WayOk ks w)
    [.val (dI l), .val (.int a), .val (.lst (ks.map dK)), .own [], .un, .un, .un] ⟨[], _, _, _, rfl, rfl, fun w h => (by cases h)⟩ (fun i d ρ e hi => by
      obtain ⟨ws, x, y, z, rfl, hwl, hw⟩ := hi
      obtain ⟨rfl, hil⟩ := rg0_some e
      obtain ⟨p', p, e1, e1', p1, p2⟩ := pkm hl (z := a + 1 + 3 * (i : Int)) (n := (ks.length : Int)) (by omega) (by omega)
      obtain ⟨q', q, e2, e2', q1, q2⟩ := pkm hl (z := a + 2 + 3 * (i : Int)) (n := (ks.length : Int)) (by omega) (by omega)
      obtain ⟨r', r, e3, e3', r1, r2⟩ := pkm hl (z := a + 3 + 3 * (i : Int)) (n := 6) (by omega) (by omega)
      obtain ⟨k1, n1, i1⟩ := kat p p1 p2
      obtain ⟨k2, n2, i2⟩ := kat q q1 q2
      have hsz : (ws.map dW).length < sizeLine := by rw [List.length_map]; exact small1000 (by omega)
      have d1 := opMul_of 3 (i : Int) (by omega)
      refine ⟨_, [.val (dI l), .val (.int a), .val (.lst (ks.map dK)), .own ((ws ++ [(k1.1, k2.1, 1 + r)]).map dW), .val (.int i), .val (.str k1.1), .val (.str k2.1)], rfl, .inl ?_, _, _, _, _, rfl, by rw [List.length_append, hwl]; rfl, fun w hw' => ?_⟩
      · rw [List.map_append]
        generalize ws.map dW = WS at *
        generalize (ks.length : Int) = Z at *
        generalize ks.map dK = KS at *
        generalize dI l = LL at *
        simp -implicitDefEqProofs [hln, e1, e1', e2, e2', e3, e3', i1, i2, d1, hsz, dW]
      · rcases List.mem_append.mp hw' with hw' | hw'
        · exact hw w hw'
        · rw [List.mem_singleton.mp hw']
          exact ⟨n1, n2, by show 1 ≤ 1 + r; omega, by show 1 + r ≤ 6; omega⟩)
  rw [rgD_length] at hwl
  have hr := asR1_of m (by omega) (by omega)
  refine ⟨ws, runFn_eq rfl ?_, by omega, hw⟩
  generalize ws.map dW = WS at *
  generalize ks.map dK = KS at *
  generalize dI l = LL at *
  generalize rgD 0 m = RG at *
  simp -implicitDefEqProofs [ini, body_law_ways, e0, e0', hr, e]
end G88

namespace G88
open PySem PySem.Spec PyProof.Rows L2 Pu
def dRel (r : Int × Str) : D := .tup [.int r.1, .str r.2]
def Leads (t : Tk) (a b : Int × Str) : Prop := ∃ w ∈ t.ws, w.1 = a.2 ∧ w.2.1 = b.2 ∧ a.1 + w.2.2 ≤ b.1
/-- a course of the law's -/
structure Course (t : Tk) (rs : List (Int × Str)) : Prop where
  ch : ∀ i a b, rs[i]? = some a → rs[i + 1]? = some b → Leads t a b
  ok : ∀ r ∈ rs, 0 ≤ r.1 ∧ r.2 ∈ t.ks.map (·.1) ∧ r.1 ≤ 1010 * (rs.length : Int)
  len : rs.length ≤ 4
theorem ch_snoc {t : Tk} {pre : List (Int × Str)} {a b : Int × Str} (h : ∀ i x y, (pre ++ [a])[i]? = some x → (pre ++ [a])[i + 1]? = some y → Leads t x y) (hl : Leads t a b) :
    ∀ i x y, (pre ++ [a] ++ [b])[i]? = some x → (pre ++ [a] ++ [b])[i + 1]? = some y → Leads t x y := by
  intro i x y ex ey
  by_cases q : i + 1 < (pre ++ [a]).length
  · rw [List.getElem?_append_left (by omega)] at ex
    rw [List.getElem?_append_left q] at ey
    exact h i x y ex ey
  · have hi := (List.getElem?_eq_some_iff.mp ey).1
    rw [List.length_append, List.length_append] at hi
    rw [List.length_append] at q
    simp only [List.length_cons, List.length_nil] at hi q
    have e : i = pre.length := by omega
    subst e
    rw [List.append_assoc, List.getElem?_append_right (Nat.le_refl _), Nat.sub_self] at ex
    rw [List.append_assoc, List.getElem?_append_right (by omega)] at ey
    have e1 : pre.length + 1 - pre.length = 1 := by omega
    rw [e1] at ey
    cases ex
    cases ey
    exact hl
theorem f_course {l : List Int} {t : Tk} (hl : l.length = 140) (g : Good t) {at_ v : Int} (ha : 0 ≤ at_ ∧ at_ ≤ 120) (hv : 0 ≤ v ∧ v < 5) : ∃ rs : List (Int × Str), Fn_law_course [dI l, .int at_, .lst (t.ks.map dK), .lst (t.ws.map dW), .int v] = .ok (.lst (rs.map dRel)) ∧ Course t rs := by
  by_cases hv0 : v = 0
  · subst hv0
    refine ⟨[], runFn_eq rfl ?_, fun i a b h => by simp at h, fun r hr => by simp at hr, by simp⟩
    generalize t.ws.map dW = WS at *
    generalize t.ks.map dK = KS at *
    generalize dI l = LL at *
    simp -implicitDefEqProofs [ini, body_law_course]
  have k1 := g.ok.k1
  have k8 := g.ok.k8
  have w16 := g.ok.w16
  obtain ⟨p', p, E1, E1', p1, p2⟩ := pkm hl (z := at_) (n := (t.ks.length : Int)) (by omega) (by omega)
  obtain ⟨q', q, E2, E2', q1, q2⟩ := pkm hl (z := at_ + 1) (n := 4) (by omega) (by omega)
  obtain ⟨k, hk, I1⟩ : ∃ k : Str × Int × Int, k.1 ∈ t.ks.map (·.1) ∧ opIx (.lst (t.ks.map dK)) (.int p) = some (.tup [.str k.1, .int k.2.1, .int k.2.2]) := by
    have hz : p.toNat < t.ks.length := by omega
    exact ⟨t.ks[p.toNat], List.mem_map_of_mem (List.getElem_mem hz), ix_lst' (n := p.toNat) (by omega) (by rw [List.getElem?_map, List.getElem?_eq_getElem hz]; rfl)⟩
  have hlk : fLen [.lst (t.ks.map dK)] = some (.int (t.ks.length : Int)) := by simp
  have hz : (t.ws.map dW).length ≤ sizeLine := by rw [List.length_map]; exact Nat.le_of_lt (small1000 (by omega))
  have key := forS_ind (g := gN 8) (body := sSeq (sSet 9 (eL (lLc (iS (eN 3)) (gN 10) [10] (tV (e2 opEq (e2 opIx (eN 10) (eC (.int 0))) (eN 5))) (eN 10))))
    (sSeq (sIf (tV (e2 opEq (eF fLen (aC (eN 9) aN)) (eC (.int 0)))) (sFrz 7 (sRet (eN 7))) sNil)
    (sSeq (sSet 10 (e2 opIx (eN 9) (e2 opMod (eF fInt (aC (e2 opIx (eN 0) (e2 opAdd (e2 opAdd (eN 1) (eC (.int 2))) (e2 opMul (eC (.int 2)) (eN 8)))) aN)) (eF fLen (aC (eN 9) aN)))))
    (sSeq (sSet 6 (e2 opAdd (e2 opAdd (eN 6) (e2 opIx (eN 10) (eC (.int 2)))) (eF fMax2 (aC (eC (.int 0)) (aC (e2 opSub (e2 opMod (eF fInt (aC (e2 opIx (eN 0) (e2 opAdd (e2 opAdd (eN 1) (eC (.int 3))) (e2 opMul (eC (.int 2)) (eN 8)))) aN)) (eC (.int 6))) (eC (.int 3))) aN)))))
    (sSeq (sSet 5 (e2 opIx (eN 10) (eC (.int 1))))
    (sApp 7 (eT (aC (eN 6) (aC (eN 5) aN)))))))))
    (fun o => ∃ rs : List (Int × Str), o = .rt (.lst (rs.map dRel)) ∧ Course t rs) (rgD 0 (v - 1))
    (fun i ρ => ∃ (pre : List (Int × Str)) (tm : Int) (kd : Str) (a b c : Pu.Slot), ρ = [.val (dI l), .val (.int at_), .val (.lst (t.ks.map dK)), .val (.lst (t.ws.map dW)), .val (.int v), .val (.str kd), .val (.int tm), .own ((pre ++ [(tm, kd)]).map dRel), a, b, c] ∧ pre.length ≤ i ∧ Course t (pre ++ [(tm, kd)]))
    [.val (dI l), .val (.int at_), .val (.lst (t.ks.map dK)), .val (.lst (t.ws.map dW)), .val (.int v), .val (.str k.1), .val (.int q), .own [dRel (q, k.1)], .un, .un, .un] ⟨[], q, k.1, _, _, _, rfl, Nat.le_refl _, fun i a b h h2 => by simp at h2, fun r hr => by rw [List.mem_singleton.mp hr]; exact ⟨q1, hk, by show q ≤ 1010 * ((1 : Nat) : Int); omega⟩, by simp⟩ (fun i d ρ e hi => by
      obtain ⟨pre, tm, kd, a, b, c, rfl, hpl, hC⟩ := hi
      obtain ⟨rfl, hil⟩ := rg0_some e
      have hlast := hC.ok (tm, kd) (List.mem_append_right _ List.mem_cons_self)
      have hpl8 : i < 3 := by omega
      obtain ⟨chs, hchs⟩ : ∃ chs, chs = t.ws.filter fun w => decide (w.1 = kd) := ⟨_, rfl⟩
      have key := lcGo_filter (g := gN 10) (tt := tV (e2 opEq (e2 opIx (eN 10) (eC (.int 0))) (eN 5))) (ev := eN 10) (ρ := [.val (dI l), .val (.int at_), .val (.lst (t.ks.map dK)), .val (.lst (t.ws.map dW)), .val (.int v), .val (.str kd), .val (.int tm), .own ((pre ++ [(tm, kd)]).map dRel), .val (.int i), b, .un]) (δ := dW) (fun w => decide (w.1 = kd)) dW t.ws (fun w _ => ⟨_, rfl, by simp [dW], rfl⟩)
      rw [← hchs] at key
      refine ⟨[.val (dI l), .val (.int at_), .val (.lst (t.ks.map dK)), .val (.lst (t.ws.map dW)), .val (.int v), .val (.str kd), .val (.int tm), .own ((pre ++ [(tm, kd)]).map dRel), .val (.int i), b, c], rfl, ?_⟩
      have hlc : fLen [.lst (chs.map dW)] = some (.int (chs.length : Int)) := by simp
      by_cases hne : chs = []
      · right
        refine ⟨.rt (.lst ((pre ++ [(tm, kd)]).map dRel)), ?_, trivial, _, rfl, hC⟩
        have h0 : (chs.length : Int) = 0 := by rw [hne]; rfl
        generalize (pre ++ [(tm, kd)]).map dRel = RS at *
        generalize chs.map dW = CS at *
        generalize (chs.length : Int) = Z at *
        generalize t.ws.map dW = WS at *
        generalize t.ks.map dK = KS at *
        generalize dI l = LL at *
        simp -implicitDefEqProofs [hz, key, hlc, h0]
      · left
        have hcl : 1 ≤ chs.length := by cases chs with | nil => exact absurd rfl hne | cons _ _ => simp
        obtain ⟨x', x, F1, F1', x1, x2⟩ := pkm hl (z := at_ + 2 + 2 * (i : Int)) (n := (chs.length : Int)) (by omega) (by omega)
        obtain ⟨y', y, F2, F2', y1, y2⟩ := pkm hl (z := at_ + 3 + 2 * (i : Int)) (n := 6) (by omega) (by omega)
        have hxl : x.toNat < chs.length := by omega
        obtain ⟨w, hw⟩ : ∃ w, chs[x.toNat]? = some w := ⟨_, List.getElem?_eq_getElem hxl⟩
        have hwm : w ∈ t.ws ∧ w.1 = kd := by
          have := List.mem_of_getElem? hw
          rw [hchs] at this
          have := List.mem_filter.mp this
          exact ⟨this.1, by simpa using this.2⟩
        have hwo := g.ok.ww w hwm.1
        have I2 : opIx (.lst (chs.map dW)) (.int x) = some (.tup [.str w.1, .str w.2.1, .int w.2.2]) := ix_lst' (n := x.toNat) (by omega) (by rw [List.getElem?_map, hw]; rfl)
        have d1 := opMul_of 2 (i : Int) (by omega)
        have h0 : ¬ (chs.length : Int) = 0 := by omega
        have hsz : ((pre ++ [(tm, kd)]).map dRel).length < sizeLine := by rw [List.length_map, List.length_append]; exact small1000 (by simp; omega)
        have hsn : (((pre ++ [(tm, kd)]) ++ [(tm + w.2.2 + max 0 (y - 3), w.2.1)]).map dRel) = (pre ++ [(tm, kd)]).map dRel ++ [.tup [.int (tm + w.2.2 + max 0 (y - 3)), .str w.2.1]] := by rw [List.map_append]; rfl
        refine ⟨[.val (dI l), .val (.int at_), .val (.lst (t.ks.map dK)), .val (.lst (t.ws.map dW)), .val (.int v), .val (.str w.2.1), .val (.int (tm + w.2.2 + max 0 (y - 3))), .own (((pre ++ [(tm, kd)]) ++ [(tm + w.2.2 + max 0 (y - 3), w.2.1)]).map dRel), .val (.int i), .val (.lst (chs.map dW)), .val (.tup [.str w.1, .str w.2.1, .int w.2.2])], .inl ?_, pre ++ [(tm, kd)], _, _, _, _, _, rfl, by rw [List.length_append]; simp; omega, ?_, fun r hr => ?_, ?_⟩
        · rw [hsn]
          generalize (pre ++ [(tm, kd)]).map dRel = RS at *
          generalize chs.map dW = CS at *
          generalize (chs.length : Int) = Z at *
          generalize t.ws.map dW = WS at *
          generalize t.ks.map dK = KS at *
          generalize dI l = LL at *
          simp -implicitDefEqProofs [hz, key, hlc, h0, F1, F1', F2, F2', I2, d1, hsz]
        · refine ch_snoc hC.ch ⟨w, hwm.1, hwm.2, rfl, ?_⟩
          show tm + w.2.2 ≤ tm + w.2.2 + max 0 (y - 3)
          have h4 : 0 ≤ max 0 (y - 3) := Int.le_max_left _ _
          omega
        · have hlen : ((pre ++ [(tm, kd)] ++ [(tm + w.2.2 + max 0 (y - 3), w.2.1)]).length : Int) = ((pre ++ [(tm, kd)]).length : Int) + 1 := by rw [List.length_append]; simp
          rw [hlen]
          rcases List.mem_append.mp hr with hr | hr
          · have := hC.ok r hr
            exact ⟨this.1, this.2.1, by omega⟩
          · rw [List.mem_singleton.mp hr]
            have h3 : (0 : Int) ≤ tm := hlast.1
            have h4 : 0 ≤ max 0 (y - 3) := Int.le_max_left _ _
            have h5 : max 0 (y - 3) ≤ 5 := by omega
            have h6 : tm ≤ 1010 * ((pre ++ [(tm, kd)]).length : Int) := hlast.2.2
            exact ⟨by show 0 ≤ tm + w.2.2 + max 0 (y - 3); omega, hwo.2.1, by show tm + w.2.2 + max 0 (y - 3) ≤ _; omega⟩
        · simp; omega)
  have hr := asR1_of (v - 1) (by omega) (by omega)
  have hvv : ¬ v = 0 := hv0
  generalize rgD 0 (v - 1) = RG at *
  rcases key with ⟨ρ', e, pre, tm, kd, a, b, c, rfl, _, hC⟩ | ⟨rs, e, hC⟩
  · refine ⟨pre ++ [(tm, kd)], runFn_eq rfl ?_, hC⟩
    have e' : forS _ _ RG [.val (dI l), .val (.int at_), .val (.lst (t.ks.map dK)), .val (.lst (t.ws.map dW)), .val (.int v), .val (.str k.1), .val (.int q), .own [.tup [.int q, .str k.1]], .un, .un, .un] = _ := e
    show (body_law_course [.val (dI l), .val (.int at_), .val (.lst (t.ks.map dK)), .val (.lst (t.ws.map dW)), .val (.int v), .un, .un, .un, .un, .un, .un]).res = _
    generalize (pre ++ [(tm, kd)]).map dRel = RS at *
    generalize (t.ks.length : Int) = Z at *
    generalize t.ws.map dW = WS at *
    generalize t.ks.map dK = KS at *
    generalize dI l = LL at *
    simp -implicitDefEqProofs [body_law_course, hvv, hlk, E1, E1', I1, E2, E2', hr, e']
  · refine ⟨rs, runFn_eq rfl ?_, hC⟩
    have e' : forS _ _ RG [.val (dI l), .val (.int at_), .val (.lst (t.ks.map dK)), .val (.lst (t.ws.map dW)), .val (.int v), .val (.str k.1), .val (.int q), .own [.tup [.int q, .str k.1]], .un, .un, .un] = _ := e
    show (body_law_course [.val (dI l), .val (.int at_), .val (.lst (t.ks.map dK)), .val (.lst (t.ws.map dW)), .val (.int v), .un, .un, .un, .un, .un, .un]).res = _
    generalize rs.map dRel = RS at *
    generalize (t.ks.length : Int) = Z at *
    generalize t.ws.map dW = WS at *
    generalize t.ks.map dK = KS at *
    generalize dI l = LL at *
    simp -implicitDefEqProofs [body_law_course, hvv, hlk, E1, E1', I1, E2, E2', hr, e']
end G88

namespace G88
open PySem PySem.Spec PyProof.Rows L2 Pu
/-! ### the law's table, the law's world -/
structure Tab (T : List Int) : Prop where
  l1 : 1 ≤ T.length
  l4 : T.length ≤ 4
  nn : ∀ x ∈ T, 0 ≤ x ∧ x ≤ 1000
theorem rg0_map (n : Nat) : rgD 0 (n : Int) = (List.range n).map fun j : Nat => D.int (j : Int) := by
  unfold rgD
  have : ((n : Int) - 0).toNat = n := by omega
  rw [this]
  apply List.map_congr_left
  intro a _
  rw [Int.zero_add]
theorem f_table {l : List Int} (hl : l.length = 140) {a sc : Int} (ha : 0 ≤ a ∧ a ≤ 120) (hsc : 1 ≤ sc ∧ sc ≤ 250) : ∃ T : List Int, Fn_law_table [dI l, .int a, .int sc] = .ok (dI T) ∧ Tab T := by
  obtain ⟨s1, s2⟩ := hsc
  obtain ⟨m', m, e0, e0', m0, m3⟩ := pkm hl (z := a) (n := 4) (by omega) (by omega)
  obtain ⟨n, hn⟩ : ∃ n : Nat, 1 + m = n := ⟨(1 + m).toNat, by omega⟩
  have hv : ∀ j : Nat, ∃ x : Int, j < n → (e2 opMul (eN 2) (e2 opMod (eF fInt (aC (e2 opIx (eN 0) (e2 opAdd (e2 opAdd (eN 1) (eC (.int 1))) (eN 3))) aN)) (eC (.int 4)))) [.val (dI l), .val (.int a), .val (.int sc), .val (.int j)] = .ok (.int x) ∧ 0 ≤ x ∧ x ≤ 1000 := fun j => by
    by_cases hj : j < n
    · obtain ⟨p', p, e1, e1', p1, p2⟩ := pkm hl (z := a + 1 + (j : Int)) (n := 4) (by omega) (by omega)
      have d2 := opMul_of' sc p (by omega)
      have b1 : sc * p ≤ 250 * 4 := Int.mul_le_mul s2 (by omega) (by omega) (by omega)
      have b2 : 0 ≤ sc * p := Int.mul_nonneg (by omega) (by omega)
      refine ⟨sc * p, fun _ => ⟨?_, b2, by omega⟩⟩
      generalize dI l = LL at *
      simp -implicitDefEqProofs [e1, e1', d2]
    · exact ⟨0, fun h => absurd h hj⟩
  obtain ⟨f, hf⟩ := Classical.axiomOfChoice hv
  have key : lcGo (gN 3) tYes' (e2 opMul (eN 2) (e2 opMod (eF fInt (aC (e2 opIx (eN 0) (e2 opAdd (e2 opAdd (eN 1) (eC (.int 1))) (eN 3))) aN)) (eC (.int 4)))) [.val (dI l), .val (.int a), .val (.int sc), .un] (rgD 0 (n : Int)) = .ok (((List.range n).map f).map D.int) := by
    rw [rg0_map, lcGo_map (δ := fun j : Nat => D.int (j : Int)) (fun j => .int (f j)) (List.range n) (fun j hj => ⟨_, rfl, (hf j (List.mem_range.mp hj)).1⟩), List.map_map]; rfl
  refine ⟨(List.range n).map f, runFn_eq rfl ?_, by rw [List.length_map, List.length_range]; omega, by rw [List.length_map, List.length_range]; omega, fun x hx => ?_⟩
  · have hr := asR1_of (n : Int) (by omega) (by omega)
    have hzr : (rgD 0 (n : Int)).length ≤ sizeLine := by rw [rgD_length]; exact Nat.le_of_lt (small1000 (by omega))
    show _ = Res.ok (D.lst (((List.range n).map f).map D.int))
    generalize ((List.range n).map f).map D.int = TT at *
    generalize rgD 0 (n : Int) = RG at *
    generalize dI l = LL at *
    simp -implicitDefEqProofs [ini, body_law_table, e0, e0', hn, hr, hzr, key]
  · obtain ⟨j, hj, rfl⟩ := List.mem_map.mp hx
    exact (hf j (List.mem_range.mp hj)).2
/-- a task of the world's with its releases -/
structure Pt where
  nm : Str
  t : Tk
  rs : List (Int × Str)
abbrev dTk (p : Pt) : D := .tup [.str p.nm, .lst (p.t.ks.map dK), .lst (p.t.ws.map dW)]
abbrev dRs (p : Pt) : D := .lst (p.rs.map dRel)
structure PtOk (p : Pt) : Prop where
  nm : NameOk p.nm
  g : Good p.t
  c : Course p.t p.rs
structure Wd (ps : List Pt) : Prop where
  l3 : ps.length ≤ 3
  ok : ∀ p ∈ ps, PtOk p
  nd : (ps.map (·.nm)).Nodup
theorem nmk_ok {A B : List Nat} (hAB : A.length + B.length ≤ 4) (hA : ∀ c ∈ A, c ∈ Cl) (hB : ∀ c ∈ B, c ∈ Cl) {i : Nat} (hi : i < 6) : NameOk (nmk A B i) := by
  have hi6 : i < kq.length := by rw [kq_len]; exact hi
  have hen : nmk A B i = mk (A ++ kq[i] :: B) := by unfold nmk; rw [List.getElem?_eq_getElem hi6]; rfl
  rw [hen]
  refine ⟨by show 1 ≤ (A ++ kq[i] :: B).length; simp; omega, by show (A ++ kq[i] :: B).length ≤ 12; simp; omega, fun c hc => ?_⟩
  rcases List.mem_append.mp (show c ∈ A ++ kq[i] :: B from hc) with hc | hc
  · exact hA c hc
  · rcases List.mem_cons.mp hc with rfl | hc
    · exact kq_Cl _ (List.getElem_mem hi6)
    · exact hB c hc
theorem kind_name {k : Str × Int × Int} (h : KindOk k) : NameOk k.1 := by
  obtain ⟨⟨L, e, l1, l2, l3⟩, _, _⟩ := h
  unfold NameOk
  rw [e]
  exact ⟨l1, l2, l3⟩
theorem f_world {l : List Int} (hl : l.length = 140) (hs : Small l) : ∃ (ps : List Pt) (T : List Int), Fn_law_world [dI l] = .ok (.tup [.lst (ps.map dTk), dI T, .lst (ps.map dRs)]) ∧ Wd ps ∧ Tab T := by
  obtain ⟨v0, e0, hv0⟩ := pk hl (z := 0) (by omega)
  obtain ⟨v1, v1', e1, e1', p1, p2⟩ := pkm hl (z := 1) (n := 4) (by omega) (by omega)
  obtain ⟨v7, e7, hv7⟩ := pk hl (z := 7) (by omega)
  obtain ⟨v8, e8, hv8⟩ := pk hl (z := 8) (by omega)
  obtain ⟨sc, hsc, hscb⟩ : ∃ sc : Int, opIx (.lst [.int 1, .int 1, .int 1, .int 250]) (.int v1') = some (.int sc) ∧ 1 ≤ sc ∧ sc ≤ 250 := by
    have : v1' = 0 ∨ v1' = 1 ∨ v1' = 2 ∨ v1' = 3 := by omega
    rcases this with rfl | rfl | rfl | rfl
    · exact ⟨1, rfl, by omega, by omega⟩
    · exact ⟨1, rfl, by omega, by omega⟩
    · exact ⟨1, rfl, by omega, by omega⟩
    · exact ⟨250, rfl, by omega, by omega⟩
  obtain ⟨T, eT_, hT⟩ := f_table hl (a := 2) (by omega) hscb
  obtain ⟨wd, ew, hw4, hwc⟩ := f_word (hs v7 hv7)
  obtain ⟨A, B, hAB, hA, hB, hnm⟩ := f_named hw4 hwc (hs v8 hv8).1
  have hm := opMod_of (v0 + 3) 4 (by omega)
  have m0 : 0 ≤ (v0 + 3) % 4 := Int.emod_nonneg _ (by omega)
  have m4 : (v0 + 3) % 4 < 4 := Int.emod_lt_of_pos _ (by omega)
  generalize (v0 + 3) % 4 = m at *
  obtain ⟨ρ', e, ps, x6, x7, x8, x9, rfl, hpl, hp⟩ := forS_thru (g := gN 6) (body := sSeq (sSet 7 (e2 opAdd (eC (.int 10)) (e2 opMul (eC (.int 40)) (eN 6))))
    (sSeq (sSet 8 (eCall Fn_law_kinds (aC (eN 0) (aC (eN 7) (aC (eN 1) aN)))))
    (sSeq (sSet 9 (eCall Fn_law_ways (aC (eN 0) (aC (e2 opAdd (eN 7) (eC (.int 9))) (aC (eN 8) aN)))))
    (sSeq (sApp 4 (eT (aC (eCall Fn_law_named (aC (eN 3) (aC (e2 opIx (eN 0) (eC (.int 8))) (aC (eN 6) aN)))) (aC (eN 8) (aC (eN 9) aN)))))
    (sApp 5 (eCall Fn_law_course (aC (eN 0) (aC (e2 opAdd (eN 7) (eC (.int 23))) (aC (eN 8) (aC (eN 9) (aC (e2 opMod (eF fInt (aC (e2 opIx (eN 0) (e2 opAdd (eN 7) (eC (.int 22)))) aN)) (eC (.int 5))) aN)))))))))))
    (rgD 0 m)
    (fun i ρ => ∃ (ps : List Pt) (x6 x7 x8 x9 : Pu.Slot), ρ = [.val (dI l), .val (.int sc), .val (dI T), .val (.str (mk wd)), .own (ps.map dTk), .own (ps.map dRs), x6, x7, x8, x9] ∧ ps.length = i ∧ ∀ j p, ps[j]? = some p → p.nm = nmk A B j ∧ PtOk p)
    [.val (dI l), .val (.int sc), .val (dI T), .val (.str (mk wd)), .own [], .own [], .un, .un, .un, .un] ⟨[], _, _, _, _, rfl, rfl, fun j p h => by simp at h⟩ (fun i d ρ e hi => by
      obtain ⟨ps, x6, x7, x8, x9, rfl, hpl, hp⟩ := hi
      obtain ⟨rfl, hil⟩ := rg0_some e
      have hi6 : i < kq.length := by rw [kq_len]; omega
      have d1 := opMul_of 40 (i : Int) (by omega)
      have d0 : opAdd (.int 10) (.int (40 * (i : Int))) = some (.int (10 + 40 * (i : Int))) := rfl
      obtain ⟨at_, hat⟩ : ∃ at_ : Int, 10 + 40 * (i : Int) = at_ := ⟨_, rfl⟩
      rw [hat] at d0
      obtain ⟨ks, h_1, a1, a2, a3, a4⟩ := f_lkinds hl hs (a := at_) (by omega) hscb
      obtain ⟨ws, h_2, b1, b2⟩ := f_lways (ks := ks) hl a1 a2 (a := at_ + 9) (by omega)
      have e3 := hnm i kq[i] (List.getElem?_eq_getElem hi6)
      have hen : nmk A B i = mk (A ++ kq[i] :: B) := by unfold nmk; rw [List.getElem?_eq_getElem hi6]; rfl
      obtain ⟨y', y, F2, F2', y1, y2⟩ := pkm hl (z := at_ + 22) (n := 5) (by omega) (by omega)
      have hg : Good ⟨ks, ws⟩ := good_of a1 a2 a3 (fun k hk => ⟨kind_name (a4 k hk), (a4 k hk).c.1, (a4 k hk).c.2, (a4 k hk).d.1, by have := (a4 k hk).d.2; omega⟩) b1 (fun w hw => ⟨(b2 w hw).s, (b2 w hw).t, (b2 w hw).d.1, by have := (b2 w hw).d.2; omega⟩)
      obtain ⟨rs, h_3, hC⟩ := f_course hl hg (at_ := at_ + 23) (v := y) (by omega) ⟨y1, y2⟩
      have hsz1 : (ps.map dTk).length < sizeLine := by rw [List.length_map]; exact small1000 (by omega)
      have hsz2 : (ps.map dRs).length < sizeLine := by rw [List.length_map]; exact small1000 (by omega)
      refine ⟨_, [.val (dI l), .val (.int sc), .val (dI T), .val (.str (mk wd)), .own ((ps ++ [Pt.mk (nmk A B i) (Tk.mk ks ws) rs]).map dTk), .own ((ps ++ [Pt.mk (nmk A B i) (Tk.mk ks ws) rs]).map dRs), .val (.int i), .val (.int at_), .val (.lst (ks.map dK)), .val (.lst (ws.map dW))], rfl, .inl ?_, _, _, _, _, _, rfl, by rw [List.length_append, hpl]; rfl, fun j p hj => ?_⟩
      · have h_3' : Fn_law_course [dI l, .int (at_ + 23), .lst (ks.map dK), .lst (ws.map dW), .int y] = .ok (.lst (rs.map dRel)) := h_3
        have t1 : dTk (Pt.mk (nmk A B i) (Tk.mk ks ws) rs) = .tup [.str (nmk A B i), .lst (ks.map dK), .lst (ws.map dW)] := rfl
        have t2 : dRs (Pt.mk (nmk A B i) (Tk.mk ks ws) rs) = .lst (rs.map dRel) := rfl
        rw [List.map_append, List.map_append, List.map_singleton, List.map_singleton, t1, t2, hen]
        generalize rs.map dRel = RS at *
        generalize ks.map dK = KS at *
        generalize ws.map dW = WS at *
        generalize ps.map dTk = TS at *
        generalize ps.map dRs = CS at *
        generalize mk (A ++ kq[i] :: B) = NM at *
        generalize mk wd = WD at *
        generalize dI l = LL at *
        generalize dI T = TT at *
        simp -implicitDefEqProofs [-opAdd_int, d0, d1, h_1, h_2, e8, e3, F2, F2', h_3', hsz1, hsz2, show opAdd (.int at_) (.int 9) = some (.int (at_ + 9)) from rfl, show opAdd (.int at_) (.int 22) = some (.int (at_ + 22)) from rfl, show opAdd (.int at_) (.int 23) = some (.int (at_ + 23)) from rfl]
      · by_cases hjl : j < ps.length
        · rw [List.getElem?_append_left hjl] at hj
          exact hp j p hj
        · have : j = i := by
            have := (List.getElem?_eq_some_iff.mp hj).1
            rw [List.length_append, List.length_singleton] at this
            omega
          subst this
          rw [List.getElem?_append_right (by omega), hpl, Nat.sub_self] at hj
          cases hj
          exact ⟨rfl, nmk_ok hAB hA hB (by rw [kq_len] at hi6; exact hi6), hg, hC⟩)
  rw [rgD_length] at hpl
  have hr := asR1_of m (by omega) (by omega)
  refine ⟨ps, T, runFn_eq rfl ?_, ⟨by omega, fun p hp' => ?_, ?_⟩, hT⟩
  · generalize ps.map dTk = TS at *
    generalize ps.map dRs = CS at *
    generalize dI l = LL at *
    generalize dI T = TT at *
    generalize rgD 0 m = RG at *
    generalize mk wd = WD at *
    simp -implicitDefEqProofs [ini, body_law_world, e0, e1, e1', hsc, eT_, e7, ew, hm, hr, e]
  · obtain ⟨j, hj⟩ := List.mem_iff_getElem?.mp hp'
    exact (hp j p hj).2
  · refine List.pairwise_iff_getElem.mpr fun i j hi hj hij heq => ?_
    rw [List.length_map] at hi hj
    rw [List.getElem_map, List.getElem_map] at heq
    have h1 := (hp i _ (List.getElem?_eq_getElem (by omega : i < ps.length))).1
    have h2 := (hp j _ (List.getElem?_eq_getElem hj)).1
    have h3 : (ps[i]).nm = (ps[j]).nm := heq
    rw [h1, h2] at h3
    have := nmk_inj (by omega) (by omega) h3
    omega
end G88

namespace G88
open PySem PySem.Spec PyProof.Rows L2 Pu
/-! ### the system -/
abbrev dTp (p : Pt) : D := dT p.nm p.t
abbrev dSys (ps : List Pt) (T : List Int) : D := .obj 2 [("tasks", .tup (ps.map dTp)), ("table", .tup (T.map D.int))]
theorem fld_name (nm : Str) (t : Tk) : fld 1 "name" (dT nm t) = some (.str nm) := by
  show (if (1 : Nat) = 1 then List.lookup ("name" : Str) [(("name" : Str), D.str nm), (("kinds" : Str), D.tup (t.ks.map dK)), (("ways" : Str), D.tup (t.ws.map dW))] else none) = _
  rw [if_pos rfl]
  rfl
theorem fld_tasks (ps : List Pt) (T : List Int) : fld 2 "tasks" (dSys ps T) = some (.tup (ps.map dTp)) := by
  show (if (2 : Nat) = 2 then List.lookup ("tasks" : Str) [(("tasks" : Str), D.tup (ps.map dTp)), (("table" : Str), .tup (T.map D.int))] else none) = _
  rw [if_pos rfl]
  rfl
theorem fld_table (ps : List Pt) (T : List Int) : fld 2 "table" (dSys ps T) = some (.tup (T.map D.int)) := by
  show (if (2 : Nat) = 2 then List.lookup ("table" : Str) [(("tasks" : Str), D.tup (ps.map dTp)), (("table" : Str), .tup (T.map D.int))] else none) = _
  rw [if_pos rfl]
  rfl
theorem f_istable {T : List Int} (h : Tab T) : Fn_is_table [dI T] = .ok (.bl true) := by
  have l1 := h.l1
  have l4 := h.l4
  have key := lcGo_map (g := gN 1) (ev := eCh opLe opLe (eC (.int 0)) (eN 1) (eC (.int 1000000))) (ρ := [.val (dI T), .un]) (δ := D.int) (fun _ => D.bl true) T (fun c hc => ⟨_, rfl, by
    have := h.nn c hc
    generalize dI T = TT at *
    simp -implicitDefEqProofs [this.1, show c ≤ 1000000 by omega]⟩)
  have hb : (T.map fun _ => D.bl true) = (T.map fun _ => true).map D.bl := by rw [List.map_map]; rfl
  rw [hb] at key
  have e2 : fAll [.lst ((T.map fun _ => true).map D.bl)] = some (.bl true) := by
    show (bls? _).map _ = _
    rw [bls?_map]
    show some (D.bl ((T.map fun _ => true).all id)) = _
    rw [List.all_map]
    congr 2
    rw [List.all_eq_true]
    intro x _; rfl
  have hz : (T.map D.int).length ≤ sizeLine := by rw [List.length_map]; exact Nat.le_of_lt (small1000 (by omega))
  have e1 : fLen [dI T] = some (.int (T.length : Int)) := by simp
  have hcc : asSeq (dI T) = .ok (T.map D.int) := rfl
  refine runFn_eq rfl ?_
  have q1 : (1 : Int) ≤ T.length := by omega
  have q2 : (T.length : Int) ≤ 1001 := by omega
  unfold body_is_table
  generalize (T.map fun _ => true).map D.bl = BB at *
  generalize T.map D.int = DD at *
  generalize (T.length : Int) = Z at *
  generalize dI T = TT at *
  simp -implicitDefEqProofs [ini, e1, q1, q2, hcc, hz, key, e2]
theorem putD_sys (a b : D) : putD ("table" : Str) b (putD ("tasks" : Str) a []) = [(("tasks" : Str), a), (("table" : Str), b)] := by
  have h1 : ¬ (("tasks" : Str) = ("table" : Str)) := by decide +kernel
  show putD ("table" : Str) b [(("tasks" : Str), a)] = _
  rw [putD_ne h1]
  rfl
theorem f_sinit {ps : List Pt} {T : List Int} (W : Wd ps) (h : Tab T) : Fn_System_init [.lst (ps.map dTp), dI T] = .ok [("tasks", .tup (ps.map dTp)), ("table", .tup (T.map D.int))] := by
  have l3 := W.l3
  have l4 := h.l4
  have c1 := f_istable h
  obtain ⟨ρ', e, x, rfl⟩ := forS_thru (g := gN 4) (body := sSeq (sIf (tV (e2 opIn (e1 (fld 1 "name") (eN 4)) (eB 3))) (fun _ => .stuck) sNil)
    (sApp 3 (e1 (fld 1 "name") (eN 4)))) (ps.map dTp) (fun i ρ => ∃ x, ρ = [.ob 2 [], .val (.lst (ps.map dTp)), .val (dI T), .own (((ps.take i).map (·.nm)).map D.str), x])
    [.ob 2 [], .val (.lst (ps.map dTp)), .val (dI T), .own [], .un] ⟨_, rfl⟩ (fun i d ρ e hi => by
      obtain ⟨x, rfl⟩ := hi
      rw [List.getElem?_map] at e
      obtain ⟨p, ep, rfl⟩ := Option.map_eq_some_iff.mp e
      have hil := (List.getElem?_eq_some_iff.mp ep).1
      have hni : ¬ p.nm ∈ (ps.take i).map (·.nm) := fun h => by
        obtain ⟨p', hp', he⟩ := List.mem_map.mp h
        obtain ⟨j, hj⟩ := List.mem_iff_getElem?.mp hp'
        have hjl := (List.getElem?_eq_some_iff.mp hj).1
        rw [List.length_take] at hjl
        rw [List.getElem?_take_of_lt (by omega)] at hj
        have h1 : (ps.map (·.nm))[i]? = (ps.map (·.nm))[j]? := by rw [List.getElem?_map, List.getElem?_map, ep, hj, Option.map_some, Option.map_some, he]
        have := (List.getElem?_inj (by rw [List.length_map]; exact hil) W.nd).mp h1
        omega
      have e2 := in_strs p.nm ((ps.take i).map (·.nm))
      rw [decide_eq_false hni] at e2
      have e3 : fld 1 "name" (dTp p) = some (.str p.nm) := fld_name p.nm p.t
      have hsz : (((ps.take i).map (·.nm)).map D.str).length < sizeLine := by
        rw [List.length_map, List.length_map, List.length_take]; exact small1000 (by omega)
      rw [take_snoc ep, List.map_append, List.map_append]
      refine ⟨_, [.ob 2 [], .val (.lst (ps.map dTp)), .val (dI T), .own (((ps.take i).map (·.nm)).map D.str ++ [.str p.nm]), .val (dTp p)], rfl, .inl ?_, _, rfl⟩
      generalize ((ps.take i).map (·.nm)).map D.str = SN at *
      generalize ps.map dTp = TS at *
      generalize dI T = TT at *
      generalize dTp p = P at *
      simp -implicitDefEqProofs [e2, e3, hsz])
  rw [List.length_map] at e
  have hln : fLen [.lst (((ps.take ps.length).map (·.nm)).map D.str)] = some (.int (ps.length : Int)) := by
    have hl : (((ps.take ps.length).map (·.nm)).map D.str).length = ps.length := by rw [List.length_map, List.length_map, List.take_length]
    rw [← hl]; simp
  have hgt : ¬ (6 : Int) < ps.length := by omega
  rw [← putD_sys]
  have p1 : (putD "tasks" (.tup (ps.map dTp)) []).length < 1000 := by have h := putD_len "tasks" (.tup (ps.map dTp)) []; have e : ([] : List (Str × D)).length = 0 := rfl; omega
  have t1 : ∀ a b c d, eTupF (aC (eN 1) aN) [a, .val (.lst (ps.map dTp)), b, c, d] = .ok (.tup (ps.map dTp)) := fun a b c d => eTupF_lst _ _ _ rfl
  have t2 : ∀ a b c d, eTupF (aC (eN 2) aN) [a, b, .val (dI T), c, d] = .ok (.tup (T.map D.int)) := fun a b c d => eTupF_lst _ _ _ rfl
  show runIn 2 3 5 body_System_init _ = _
  unfold runIn
  rw [if_pos (show ([D.lst (ps.map dTp), dI T] : List D).length + 1 = 3 from rfl)]
  show (body_System_init [.ob 2 [], .val (.lst (ps.map dTp)), .val (dI T), .un, .un]).init 2 = _
  generalize hg1 : putD "tasks" (.tup (ps.map dTp)) [] = g1 at *
  generalize hg2 : putD "table" (.tup (T.map D.int)) g1 = g2 at *
  generalize ((ps.take ps.length).map (·.nm)).map D.str = SN at *
  generalize (ps.length : Int) = Z at *
  generalize ps.map dTp = TS at *
  generalize T.map D.int = TI at *
  generalize dI T = TT at *
  simp -implicitDefEqProofs [body_System_init, c1, e, hln, hgt, t1, t2, hg1, p1, hg2, Out.init, Slot.fsOf]
theorem f_system {ps : List Pt} {T : List Int} (W : Wd ps) (h : Tab T) : Fn_law_system [.lst (ps.map dTk), dI T] = .ok (dSys ps T) := by
  have l3 := W.l3
  have l4 := h.l4
  have c1 := f_sinit W h
  have key := lcGo_map (g := gN 2) (ev := eMake 1 Fn_Task_init (aApp (aC (e2 opIx (eN 2) (eC (.int 0))) aN) (aC (eL (lList (aC (e2 opIx (eN 2) (eC (.int 1))) aN))) (aC (eL (lList (aC (e2 opIx (eN 2) (eC (.int 2))) aN))) aN)))) (ρ := [.val (.lst (ps.map dTk)), .val (dI T), .un]) (δ := dTk) dTp ps (fun p hp => ⟨_, rfl, by
    have o := W.ok p hp
    have k8 := o.g.ok.k8
    have w16 := o.g.ok.w16
    have hz1 : p.t.ks.length ≤ sizeLine := Nat.le_of_lt (small1000 (by omega))
    have hz2 : p.t.ws.length ≤ sizeLine := Nat.le_of_lt (small1000 (by omega))
    have c := f_init o.nm o.g
    show _ = Res.ok (D.obj 1 [("name", .str p.nm), ("kinds", .tup (p.t.ks.map dK)), ("ways", .tup (p.t.ws.map dW))])
    generalize ([(("name" : Str), D.str p.nm), ("kinds", .tup (p.t.ks.map dK)), ("ways", .tup (p.t.ws.map dW))] : List (Str × D)) = FS at *
    generalize ps.map dTk = TS at *
    generalize dI T = TT at *
    simp -implicitDefEqProofs [hz1, hz2, c]⟩)
  have hz : (ps.map dTk).length ≤ sizeLine := by rw [List.length_map]; exact Nat.le_of_lt (small1000 (by omega))
  have hz2 : (T.map D.int).length ≤ sizeLine := by rw [List.length_map]; exact Nat.le_of_lt (small1000 (by omega))
  refine runFn_eq rfl ?_
  show (body_law_system [.val (.lst (ps.map dTk)), .val (.lst (T.map D.int)), .un]).res = _
  show _ = Res.ok (D.obj 2 [("tasks", .tup (ps.map dTp)), ("table", .tup (T.map D.int))])
  generalize ([(("tasks" : Str), D.tup (ps.map dTp)), ("table", .tup (T.map D.int))] : List (Str × D)) = FS at *
  have c1' : Fn_System_init [.lst (ps.map dTp), .lst (T.map D.int)] = .ok FS := c1
  have key' : lcGo (gN 2) tYes' _ [.val (.lst (ps.map dTk)), .val (.lst (T.map D.int)), .un] (ps.map dTk) = .ok (ps.map dTp) := key
  clear key
  generalize ps.map dTk = TS at *
  generalize ps.map dTp = TP at *
  generalize T.map D.int = TI at *
  simp -implicitDefEqProofs [body_law_system, hz, hz2, key', c1']
/-- the table, slot by slot -/
def cap (T : List Int) (n : Nat) : Int := (T[n % T.length]?).getD 0
theorem cap_nn {T : List Int} (h : Tab T) (n : Nat) : 0 ≤ cap T n ∧ cap T n ≤ 1000 := by
  have l1 := h.l1
  have hl : n % T.length < T.length := Nat.mod_lt _ (by omega)
  unfold cap
  rw [List.getElem?_eq_getElem hl]
  exact h.nn _ (List.getElem_mem hl)
theorem f_capacity {T : List Int} (h : Tab T) (n : Nat) : Fn_capacity [.tup (T.map D.int), .int n] = .ok (.int (cap T n)) := by
  have l1 := h.l1
  have hl : n % T.length < T.length := Nat.mod_lt _ (by omega)
  have e1 : fLen [.tup (T.map D.int)] = some (.int (T.length : Int)) := by simp
  have e2 := opMod_of (n : Int) (T.length : Int) (by omega)
  have e3 : opIx (.tup (T.map D.int)) (.int ((n : Int) % (T.length : Int))) = some (.int (cap T n)) := by
    refine ix_tup' (n := n % T.length) (by rw [Int.natCast_emod]) ?_
    rw [List.getElem?_map, List.getElem?_eq_getElem hl]
    unfold cap
    rw [List.getElem?_eq_getElem hl]; rfl
  refine runFn_eq rfl ?_
  generalize T.map D.int = TI at *
  generalize (T.length : Int) = Z at *
  simp -implicitDefEqProofs [ini, body_capacity, e1, e2, e3]
end G88

namespace G88
open PySem PySem.Spec PyProof.Rows L2 Pu Edf
/-! ### the releases are well -/
@[simp] theorem sThru_ap (s : Sv) (ρ : PEnv) : sThru s ρ = match s ρ with | .exc _ _ => .stuck | o => o := rfl
@[simp] theorem ook_dl (nm : Str) (t : Tk) : oOk 1 "deadline" (dT nm t) = true := by
  unfold oOk
  rfl
/-- the kind of a release -/
def kd (t : Tk) (r : Int × Str) : Str × Int × Int := (t.ks[num t.ks r.2]?).getD ("", 0, 0)
theorem kd_get {t : Tk} {r : Int × Str} (h : r.2 ∈ t.ks.map (·.1)) : t.ks[num t.ks r.2]? = some (kd t r) ∧ kd t r ∈ t.ks := by
  obtain ⟨k, e, _⟩ := num_get h
  unfold kd
  rw [e]
  exact ⟨rfl, List.mem_of_getElem? e⟩
theorem f_due {nm : Str} {t : Tk} {r : Int × Str} (h : r.2 ∈ t.ks.map (·.1)) : Fn_due [dT nm t, dRel r] = .ok (.int (r.1 + (kd t r).2.2)) := by
  have e := f_deadline (nm := nm) h (kd_get h).1
  have o := ook_dl nm t
  refine runFn_eq rfl ?_
  generalize dT nm t = TT at *
  simp -implicitDefEqProofs [ini, body_due, dRel, o, e]
theorem f_follows {nm : Str} {t : Tk} {a b : Int × Str} (hz : t.ws.length ≤ 1000) (ha : a.2 ∈ t.ks.map (·.1)) (hb : b.2 ∈ t.ks.map (·.1)) (h : Leads t a b) : Fn_follows [dT nm t, dRel a, dRel b] = .ok (.bl true) := by
  obtain ⟨w, hw, w1, w2, w3⟩ := h
  have wf1 := f_wf (nm := nm) hz ha
  have kn2 := f_kn (nm := nm) hb
  have o1 := ook_wf nm t
  have o2 := ook_kn nm t
  have hm : w ∈ t.ws.filter fun w => decide (w.1 = a.2) := List.mem_filter.mpr ⟨hw, by simp [w1]⟩
  generalize (t.ws.filter fun w => decide (w.1 = a.2)) = fs at *
  have key := forS_ind (g := gT [5, 6]) (body := sIf (tAnd' (tV (e2 opEq (eN 5) (e2 opIx (eN 2) (eC (.int 1))))) (tV (e2 opLe (eN 6) (eN 4)))) (sRet (eC (.bl true))) sNil) (fun o => o = .rt (.bl true)) (fs.map fun w => D.tup [.str w.2.1, .int w.2.2])
    (fun i ρ => (∀ x ∈ fs.take i, ¬ (x.2.1 = b.2 ∧ a.1 + x.2.2 ≤ b.1)) ∧ ∃ x y, ρ = [.val (dT nm t), .val (dRel a), .val (dRel b), .val (.lst (fs.map fun w => .tup [.str w.2.1, .int w.2.2])), .val (.int (b.1 - a.1)), x, y])
    [.val (dT nm t), .val (dRel a), .val (dRel b), .val (.lst (fs.map fun w => .tup [.str w.2.1, .int w.2.2])), .val (.int (b.1 - a.1)), .un, .un] ⟨fun x hx => by simp at hx, _, _, rfl⟩ (fun i d ρ e hi => by
      obtain ⟨hn, x, y, rfl⟩ := hi
      rw [List.getElem?_map] at e
      obtain ⟨u, eu, rfl⟩ := Option.map_eq_some_iff.mp e
      refine ⟨[.val (dT nm t), .val (dRel a), .val (dRel b), .val (.lst (fs.map fun w => .tup [.str w.2.1, .int w.2.2])), .val (.int (b.1 - a.1)), .val (.str u.2.1), .val (.int u.2.2)], rfl, ?_⟩
      generalize (fs.map fun w => D.tup [.str w.2.1, .int w.2.2]) = FS at *
      generalize dT nm t = TT at *
      by_cases q1 : u.2.1 = b.2
      · by_cases q2 : u.2.2 ≤ b.1 - a.1
        · right
          refine ⟨.rt (.bl true), ?_, trivial, rfl⟩
          simp -implicitDefEqProofs [dRel, q1, q2]
        · left
          refine ⟨[.val TT, .val (dRel a), .val (dRel b), .val (.lst FS), .val (.int (b.1 - a.1)), .val (.str u.2.1), .val (.int u.2.2)], .inl ?_, fun x hx => ?_, _, _, rfl⟩
          · simp -implicitDefEqProofs [dRel, q1, q2]
          · rw [take_snoc eu] at hx
            rcases List.mem_append.mp hx with hx | hx
            · exact hn x hx
            · rw [List.mem_singleton.mp hx]; rintro ⟨_, z⟩; omega
      · left
        refine ⟨[.val TT, .val (dRel a), .val (dRel b), .val (.lst FS), .val (.int (b.1 - a.1)), .val (.str u.2.1), .val (.int u.2.2)], .inl ?_, fun x hx => ?_, _, _, rfl⟩
        · simp -implicitDefEqProofs [dRel, q1]
        · rw [take_snoc eu] at hx
          rcases List.mem_append.mp hx with hx | hx
          · exact hn x hx
          · rw [List.mem_singleton.mp hx]; rintro ⟨z, _⟩; exact q1 z)
  rw [List.length_map] at key
  rcases key with ⟨ρ', _, h1, _⟩ | h1
  · rw [List.take_length] at h1
    exact absurd ⟨w2, w3⟩ (h1 w hm)
  · refine runFn_eq rfl ?_
    show (body_follows [.val (dT nm t), .val (dRel a), .val (dRel b), .un, .un, .un, .un]).res = _
    unfold dRel at *
    generalize (fs.map fun w => D.tup [.str w.2.1, .int w.2.2]) = FS at *
    generalize dT nm t = TT at *
    simp -implicitDefEqProofs [body_follows, wf1, kn2, o1, o2, h1]
theorem f_ctask {p : Pt} (o : PtOk p) (n : Int) : Fn_check_task_releases [.int n, dTp p, dRs p] = .ok .non := by
  have w16 := o.g.ok.w16
  obtain ⟨ρ', e, x, y, rfl⟩ := forS_thru (g := gT [3, 4]) (body := sSeq (sThru (sDrop (eMeth 1 "kind_number" Fn_Task_kind_number (eN 1) (aC (e2 opIx (eN 4) (eC (.int 1))) aN))))
    (sIf (tAnd' (tV (e2 opGt (eN 3) (eC (.int 0)))) (tNot' (tV (eCall Fn_follows (aC (eN 1) (aC (e2 opIx (eN 2) (e2 opSub (eN 3) (eC (.int 1)))) (aC (eN 4) aN))))))) (fun _ => .stuck) sNil)) (prs 0 (p.rs.map dRel))
    (fun i ρ => ∃ x y, ρ = [.val (.int n), .val (dTp p), .val (dRs p), x, y]) [.val (.int n), .val (dTp p), .val (dRs p), .un, .un] ⟨_, _, rfl⟩ (fun i d ρ e hi => by
      obtain ⟨x, y, rfl⟩ := hi
      obtain ⟨z, e1, rfl⟩ := prs_map _ _ _ _ e
      rw [List.getElem?_map] at e1
      obtain ⟨r, er, rfl⟩ := Option.map_eq_some_iff.mp e1
      have hr := (o.c.ok r (List.mem_of_getElem? er)).2.1
      have k1 := f_kn (nm := p.nm) hr
      have o2 := ook_kn p.nm p.t
      refine ⟨_, [.val (.int n), .val (dTp p), .val (dRs p), .val (.int (i : Nat)), .val (dRel r)], by rw [Nat.zero_add]; rfl, .inl ?_, _, _, rfl⟩
      cases i with
      | zero =>
        generalize dRs p = RR at *
        show _ = Out.nx [.val (.int n), .val (dTp p), .val RR, .val (.int (0 : Nat)), .val (.tup [.int r.1, .str r.2])]
        have k1' : Fn_Task_kind_number [dTp p, .str r.2] = _ := k1
        have o2' : oOk 1 "kind_number" (dTp p) = true := o2
        generalize dTp p = TT at *
        simp -implicitDefEqProofs [dRel, k1', o2']
      | succ i =>
        obtain ⟨r0, er0⟩ : ∃ r0, p.rs[i]? = some r0 := ⟨_, List.getElem?_eq_getElem (by have := (List.getElem?_eq_some_iff.mp er).1; omega)⟩
        have hr0 := (o.c.ok r0 (List.mem_of_getElem? er0)).2.1
        have k2 : Fn_follows [dTp p, .tup [.int r0.1, .str r0.2], .tup [.int r.1, .str r.2]] = .ok (.bl true) := f_follows (nm := p.nm) (by omega) hr0 hr (o.c.ch i r0 r er0 er)
        have i1 : opIx (dRs p) (.int (i : Int)) = some (.tup [.int r0.1, .str r0.2]) := ix_lst' rfl (by rw [List.getElem?_map, er0]; rfl)
        have hgt : (0 : Int) < ((i + 1 : Nat) : Int) := by omega
        have hsub : opSub (.int ((i + 1 : Nat) : Int)) (.int 1) = some (.int (i : Int)) := by
          show some (D.int (((i + 1 : Nat) : Int) - 1)) = _
          congr 2; omega
        generalize dRs p = RR at *
        have k1' : Fn_Task_kind_number [dTp p, .str r.2] = _ := k1
        have o2' : oOk 1 "kind_number" (dTp p) = true := o2
        generalize dTp p = TT at *
        generalize ((i + 1 : Nat) : Int) = I1 at *
        simp -implicitDefEqProofs [-opSub_int, dRel, k1', o2', hgt, hsub, i1, k2])
  refine runFn_eq rfl ?_
  have hE : asE [dRs p] = .ok (prs 0 (p.rs.map dRel)) := rfl
  show (body_check_task_releases [.val (.int n), .val (dTp p), .val (dRs p), .un, .un]).res = _
  generalize prs 0 (p.rs.map dRel) = PR at *
  generalize dRs p = RR at *
  generalize dTp p = TT at *
  simp -implicitDefEqProofs [body_check_task_releases, hE, e]
theorem f_check {ps : List Pt} {T : List Int} (W : Wd ps) : Fn_check_releases [dSys ps T, .lst (ps.map dRs)] = .ok .non := by
  obtain ⟨ρ', e, x, y, rfl⟩ := forS_thru (g := gT [2, 3]) (body := sDrop (eCall Fn_check_task_releases (aC (eN 2) (aC (eN 3) (aC (e2 opIx (eN 1) (eN 2)) aN))))) (prs 0 (ps.map dTp))
    (fun i ρ => ∃ x y, ρ = [.val (dSys ps T), .val (.lst (ps.map dRs)), x, y]) [.val (dSys ps T), .val (.lst (ps.map dRs)), .un, .un] ⟨_, _, rfl⟩ (fun i d ρ e hi => by
      obtain ⟨x, y, rfl⟩ := hi
      obtain ⟨z, e1, rfl⟩ := prs_map _ _ _ _ e
      rw [List.getElem?_map] at e1
      obtain ⟨p, ep, rfl⟩ := Option.map_eq_some_iff.mp e1
      have k := f_ctask (W.ok p (List.mem_of_getElem? ep)) (i : Int)
      have i1 : opIx (.lst (ps.map dRs)) (.int (i : Int)) = some (dRs p) := ix_lst' rfl (by rw [List.getElem?_map, ep]; rfl)
      refine ⟨_, [.val (dSys ps T), .val (.lst (ps.map dRs)), .val (.int (i : Nat)), .val (dTp p)], by rw [Nat.zero_add]; rfl, .inl ?_, _, _, rfl⟩
      generalize ps.map dRs = RR at *
      generalize dSys ps T = SS at *
      generalize dTp p = TT at *
      generalize dRs p = RP at *
      simp -implicitDefEqProofs [i1, k])
  refine runFn_eq rfl ?_
  have hf := fld_tasks ps T
  have hE : asE [.tup (ps.map dTp)] = .ok (prs 0 (ps.map dTp)) := rfl
  show (body_check_releases [.val (dSys ps T), .val (.lst (ps.map dRs)), .un, .un]).res = _
  generalize prs 0 (ps.map dTp) = PR at *
  generalize ps.map dRs = RR at *
  generalize dSys ps T = SS at *
  generalize ps.map dTp = TP at *
  simp -implicitDefEqProofs [body_check_releases, hf, hE, e]
end G88

namespace G88
open PySem PySem.Spec PyProof.Rows L2 Pu Edf
/-! ### sorted -/
theorem leD_trans {a b c : D} (h1 : leD a b = true) (h2 : leD b c = true) : leD a c = true :=
  (PySem.W.sortLe_total (PyProof.Rows.listOrd PyProof.Rows.itemOrd) false fun d : D => PySem.W.keyToks (encD d)).trans a b c h1 h2
theorem leD_or (a b : D) : (leD a b || leD b a) = true := by
  have h : leD a b = true ∨ leD b a = true := (PySem.W.sortLe_total (PyProof.Rows.listOrd PyProof.Rows.itemOrd) false fun d : D => PySem.W.keyToks (encD d)).total a b
  rw [Bool.or_eq_true]; exact h
def jL (b : Jb) : List Int := [b.d, b.r, b.a, b.b, b.c]
def dJ (b : Jb) : D := .tup [.int b.d, .int b.r, .int b.a, .int b.b, .int b.c]
def leJ (x y : Jb) : Bool := leD (dJ x) (dJ y)
theorem leJ_eq (x y : Jb) : leJ x y = decide (jL x ≤ jL y) := by
  show (!PySem.W.dataLt (.tuple ((jL y).map .int)) (.tuple ((jL x).map .int))) = _
  rw [PySem.W.dataLt_tuple]
  show (!PySem.W.rowLt ((jL y).map .int) ((jL x).map .int)) = _
  rw [PySem.W.dataLt_ints]
  by_cases h : jL y < jL x
  · have h' : ¬ jL x ≤ jL y := fun r => List.not_lt.mpr r h
    simp [h, h']
  · have h' : jL x ≤ jL y := List.not_lt.mp h
    simp [h, h']
def srtJ (l : List Jb) : List Jb := l.mergeSort leJ
theorem srtJ_perm (l : List Jb) : (srtJ l).Perm l := List.mergeSort_perm _ _
theorem srtJ_due (l : List Jb) : ByDue (srtJ l) := by
  unfold ByDue
  refine List.Pairwise.imp ?_ (List.pairwise_mergeSort (le := leJ) (fun a b c h1 h2 => leD_trans h1 h2) (fun a b => leD_or _ _) l)
  intro a b h
  rw [leJ_eq] at h
  have h' : jL a ≤ jL b := of_decide_eq_true h
  by_cases q : a.d ≤ b.d
  · exact q
  · exact absurd (List.cons_lt_cons_iff.mpr (.inl (by omega))) h'
theorem srtJ_ok (l : List Jb) : srtOk (l.map dJ) = true := by
  unfold srtOk
  rw [Bool.and_eq_true, List.all_eq_true, List.all_eq_true]
  refine ⟨fun d hd => ?_, fun d hd => ?_⟩
  · obtain ⟨x, _, rfl⟩ := List.mem_map.mp hd
    rfl
  · obtain ⟨x, _, rfl⟩ := List.mem_map.mp hd
    rw [List.all_eq_true]
    intro e he
    obtain ⟨y, _, rfl⟩ := List.mem_map.mp he
    rfl
theorem srtJ_map (l : List Jb) : (l.map dJ).mergeSort leD = (srtJ l).map dJ := by
  unfold srtJ
  exact (List.map_mergeSort (f := dJ) fun a _ b _ => rfl).symm
theorem lSrt_jobs {a : Ev} {ρ : PEnv} {l : List Jb} (h : a ρ = .ok (.lst (l.map dJ))) : lSrt a ρ = .ok ((srtJ l).map dJ) := by
  unfold lSrt
  rw [h]
  show (if srtOk (l.map dJ) = true then Res.ok ((l.map dJ).mergeSort leD) else .stuck) = _
  rw [if_pos (srtJ_ok l), srtJ_map]
/-! ### the jobs -/
def jb (t : Tk) (a k : Int) (r : Int × Str) : Jb := ⟨r.1 + (kd t r).2.2, r.1, a, k, (kd t r).2.1⟩
def jobK (t : Tk) (a : Nat) : Nat → List (Int × Str) → List Jb
  | _, [] => []
  | k, r :: l => jb t a k r :: jobK t a (k + 1) l
def jobT : Nat → List Pt → List Jb
  | _, [] => []
  | a, p :: l => jobK p.t a 0 p.rs ++ jobT (a + 1) l
theorem jobK_snoc (t : Tk) (a : Nat) (r : Int × Str) : ∀ (k : Nat) (l : List (Int × Str)), jobK t a k (l ++ [r]) = jobK t a k l ++ [jb t a (k + l.length : Nat) r]
  | k, [] => rfl
  | k, x :: l => by
    show jb t a k x :: jobK t a (k + 1) (l ++ [r]) = jb t a k x :: jobK t a (k + 1) l ++ [jb t a (k + (l.length + 1) : Nat) r]
    rw [jobK_snoc t a r (k + 1) l, show k + 1 + l.length = k + (l.length + 1) by omega]; rfl
theorem jobT_snoc (p : Pt) : ∀ (a : Nat) (l : List Pt), jobT a (l ++ [p]) = jobT a l ++ jobK p.t (a + l.length) 0 p.rs
  | a, [] => by show jobK p.t a 0 p.rs ++ [] = [] ++ _; rw [List.append_nil, List.nil_append]; rfl
  | a, q :: l => by
    show jobK q.t a 0 q.rs ++ jobT (a + 1) (l ++ [p]) = jobK q.t a 0 q.rs ++ jobT (a + 1) l ++ jobK p.t (a + (l.length + 1)) 0 p.rs
    rw [jobT_snoc p (a + 1) l, List.append_assoc, show a + 1 + l.length = a + (l.length + 1) by omega]
theorem jobK_len (t : Tk) (a : Nat) : ∀ (k : Nat) (l : List (Int × Str)), (jobK t a k l).length = l.length
  | _, [] => rfl
  | k, x :: l => congrArg Nat.succ (jobK_len t a (k + 1) l)
theorem jobT_len {M : Nat} : ∀ (a : Nat) (l : List Pt), (∀ p ∈ l, p.rs.length ≤ M) → (jobT a l).length ≤ l.length * M
  | _, [], _ => by simp [jobT]
  | a, p :: l, h => by
    show (jobK p.t a 0 p.rs ++ jobT (a + 1) l).length ≤ (l.length + 1) * M
    rw [List.length_append, jobK_len, Nat.add_mul, Nat.one_mul]
    have h1 := h p List.mem_cons_self
    have h2 := jobT_len (a + 1) l fun q hq => h q (List.mem_cons_of_mem _ hq)
    omega
/-- the jobs, sorted -/
def JJ (ps : List Pt) : List Jb := srtJ (jobT 0 ps)
theorem Wd.take {ps : List Pt} (W : Wd ps) (k : Nat) : (jobT 0 (ps.take k)).length ≤ 12 := by
  have h := jobT_len (M := 4) 0 (ps.take k) fun p hp => (W.ok p (List.mem_of_mem_take hp)).c.len
  have := W.l3
  rw [List.length_take] at h
  have : min k ps.length * 4 ≤ 3 * 4 := Nat.mul_le_mul_right 4 (by omega)
  omega
@[simp] theorem ook_cost1 (nm : Str) (t : Tk) : oOk 1 "cost" (dT nm t) = true := by
  unfold oOk
  rfl
theorem f_alljobs {ps : List Pt} {T : List Int} (W : Wd ps) : Fn_all_jobs [dSys ps T, .lst (ps.map dRs)] = .ok (.lst ((JJ ps).map dJ)) := by
  have l3 := W.l3
  have inner : ∀ (p : Pt) (a : Nat) (P0 : List Jb) (x5 x6 : Pu.Slot), PtOk p → P0.length ≤ 12 →
      ∃ y5 y6, forS (gT [5, 6]) (sApp 2 (eT (aC (eCall Fn_due (aC (eN 4) (aC (eN 6) aN))) (aC (e2 opIx (eN 6) (eC (.int 0))) (aC (eN 3) (aC (eN 5) (aC (eMeth 1 "cost" Fn_Task_cost (eN 4) (aC (e2 opIx (eN 6) (eC (.int 1))) aN)) aN))))))) (prs 0 (p.rs.map dRel))
        [.val (dSys ps T), .val (.lst (ps.map dRs)), .own (P0.map dJ), .val (.int a), .val (dTp p), x5, x6] = .nx [.val (dSys ps T), .val (.lst (ps.map dRs)), .own ((P0 ++ jobK p.t a 0 p.rs).map dJ), .val (.int a), .val (dTp p), y5, y6] := fun p a P0 x5 x6 o hP => by
    obtain ⟨ρ', e, y5, y6, rfl⟩ := forS_thru (g := gT [5, 6]) (body := sApp 2 (eT (aC (eCall Fn_due (aC (eN 4) (aC (eN 6) aN))) (aC (e2 opIx (eN 6) (eC (.int 0))) (aC (eN 3) (aC (eN 5) (aC (eMeth 1 "cost" Fn_Task_cost (eN 4) (aC (e2 opIx (eN 6) (eC (.int 1))) aN)) aN))))))) (prs 0 (p.rs.map dRel))
      (fun i ρ => ∃ y5 y6, ρ = [.val (dSys ps T), .val (.lst (ps.map dRs)), .own ((P0 ++ jobK p.t a 0 (p.rs.take i)).map dJ), .val (.int a), .val (dTp p), y5, y6])
      [.val (dSys ps T), .val (.lst (ps.map dRs)), .own (P0.map dJ), .val (.int a), .val (dTp p), x5, x6] ⟨x5, x6, by simp [jobK]⟩ (fun i d ρ e hi => by
        obtain ⟨y5, y6, rfl⟩ := hi
        obtain ⟨z, e1, rfl⟩ := prs_map _ _ _ _ e
        rw [List.getElem?_map] at e1
        obtain ⟨r, er, rfl⟩ := Option.map_eq_some_iff.mp e1
        have hr := (o.c.ok r (List.mem_of_getElem? er)).2.1
        have rl := o.c.len
        have hil := (List.getElem?_eq_some_iff.mp er).1
        have n1 : Fn_due [dTp p, .tup [.int r.1, .str r.2]] = .ok (.int (r.1 + (kd p.t r).2.2)) := f_due (nm := p.nm) hr
        have n2 : Fn_Task_cost [dTp p, .str r.2] = .ok (.int (kd p.t r).2.1) := f_cost (nm := p.nm) hr (kd_get hr).1
        have n3 : oOk 1 "cost" (dTp p) = true := ook_cost1 _ _
        have hsz : ((P0 ++ jobK p.t a 0 (p.rs.take i)).map dJ).length < sizeLine := by rw [List.length_map, List.length_append, jobK_len, List.length_take]; exact small1000 (by omega)
        have hj : dJ (jb p.t a (0 + (p.rs.take i).length : Nat) r) = .tup [.int (r.1 + (kd p.t r).2.2), .int r.1, .int a, .int i, .int (kd p.t r).2.1] := by
          rw [List.length_take, Nat.zero_add, Nat.min_eq_left (by omega)]; rfl
        rw [take_snoc er, jobK_snoc, ← List.append_assoc, List.map_append (l₂ := [_]), List.map_singleton, hj]
        refine ⟨_, [.val (dSys ps T), .val (.lst (ps.map dRs)), .own ((P0 ++ jobK p.t a 0 (p.rs.take i)).map dJ ++ [.tup [.int (r.1 + (kd p.t r).2.2), .int r.1, .int a, .int i, .int (kd p.t r).2.1]]), .val (.int a), .val (dTp p), .val (.int (i : Nat)), .val (dRel r)], by rw [Nat.zero_add]; rfl, .inl ?_, _, _, rfl⟩
        generalize (P0 ++ jobK p.t a 0 (p.rs.take i)).map dJ = PP at *
        generalize ps.map dRs = RR at *
        generalize dSys ps T = SS at *
        generalize dTp p = TT at *
        simp -implicitDefEqProofs [dRel, n1, n2, n3, hsz])
    rw [prs_len, List.length_map, List.take_length] at e
    exact ⟨y5, y6, e⟩
  obtain ⟨ρ', e, y3, y4, y5, y6, rfl⟩ := forS_thru (g := gT [3, 4]) (body := sFor (iE (aC (e2 opIx (eN 1) (eN 3)) aN)) (gT [5, 6]) (sApp 2 (eT (aC (eCall Fn_due (aC (eN 4) (aC (eN 6) aN))) (aC (e2 opIx (eN 6) (eC (.int 0))) (aC (eN 3) (aC (eN 5) (aC (eMeth 1 "cost" Fn_Task_cost (eN 4) (aC (e2 opIx (eN 6) (eC (.int 1))) aN)) aN)))))))) (prs 0 (ps.map dTp))
    (fun i ρ => ∃ y3 y4 y5 y6, ρ = [.val (dSys ps T), .val (.lst (ps.map dRs)), .own ((jobT 0 (ps.take i)).map dJ), y3, y4, y5, y6])
    [.val (dSys ps T), .val (.lst (ps.map dRs)), .own [], .un, .un, .un, .un] ⟨_, _, _, _, rfl⟩ (fun i d ρ e hi => by
      obtain ⟨y3, y4, y5, y6, rfl⟩ := hi
      obtain ⟨z, e1, rfl⟩ := prs_map _ _ _ _ e
      rw [List.getElem?_map] at e1
      obtain ⟨p, ep, rfl⟩ := Option.map_eq_some_iff.mp e1
      have hil := (List.getElem?_eq_some_iff.mp ep).1
      obtain ⟨z5, z6, k⟩ := inner p i (jobT 0 (ps.take i)) y5 y6 (W.ok p (List.mem_of_getElem? ep)) (W.take i)
      have i1 : opIx (.lst (ps.map dRs)) (.int (i : Int)) = some (.lst (p.rs.map dRel)) := ix_lst' rfl (by rw [List.getElem?_map, ep]; rfl)
      have hE : asE [.lst (p.rs.map dRel)] = .ok (prs 0 (p.rs.map dRel)) := rfl
      rw [take_snoc ep, jobT_snoc, List.length_take, Nat.min_eq_left (by omega), Nat.zero_add]
      refine ⟨[.val (dSys ps T), .val (.lst (ps.map dRs)), .own ((jobT 0 (ps.take i)).map dJ), .val (.int i), .val (dTp p), y5, y6], [.val (dSys ps T), .val (.lst (ps.map dRs)), .own ((jobT 0 (ps.take i) ++ jobK p.t i 0 p.rs).map dJ), .val (.int i), .val (dTp p), z5, z6], rfl, .inl ?_, _, _, _, _, rfl⟩
      generalize (jobT 0 (ps.take i) ++ jobK p.t i 0 p.rs).map dJ = PQ at *
      generalize (jobT 0 (ps.take i)).map dJ = PP at *
      generalize prs 0 (p.rs.map dRel) = PR at *
      generalize p.rs.map dRel = PL at *
      generalize ps.map dRs = RR at *
      generalize dSys ps T = SS at *
      generalize dTp p = TT at *
      simp -implicitDefEqProofs [i1, hE, k])
  rw [prs_len, List.length_map, List.take_length] at e
  refine runFn_eq rfl ?_
  have hf := fld_tasks ps T
  have hE : asE [.tup (ps.map dTp)] = .ok (prs 0 (ps.map dTp)) := rfl
  have hS : lSrt (eB 2) [.val (dSys ps T), .val (.lst (ps.map dRs)), .own ((jobT 0 ps).map dJ), y3, y4, y5, y6] = .ok ((JJ ps).map dJ) := lSrt_jobs rfl
  show (body_all_jobs [.val (dSys ps T), .val (.lst (ps.map dRs)), .un, .un, .un, .un, .un]).res = _
  generalize (JJ ps).map dJ = JS at *
  generalize (jobT 0 ps).map dJ = PQ at *
  generalize prs 0 (ps.map dTp) = PR at *
  generalize ps.map dRs = RR at *
  generalize dSys ps T = SS at *
  generalize ps.map dTp = TP at *
  simp -implicitDefEqProofs [body_all_jobs, hf, hE, e, hS]
end G88

namespace G88
open PySem PySem.Spec PyProof.Rows L2 Pu Edf
/-! ### the law's jobs -/
theorem filter0 {α : Type} (p : α → Bool) : ∀ l : List α, (l.filter p)[0]? = l[l.findIdx p]?
  | [] => rfl
  | x :: l => by
    rw [List.filter_cons, List.findIdx_cons]
    cases h : p x with
    | true => rfl
    | false =>
      rw [if_neg Bool.false_ne_true, filter0 p l]
      simp
theorem f_lkind {p : Pt} {x : Str} (hz : p.t.ks.length ≤ 1000) {k : Str × Int × Int} (h : p.t.ks[num p.t.ks x]? = some k) : Fn_law_kind [dTk p, .str x] = .ok (.tup [.str k.1, .int k.2.1, .int k.2.2]) := by
  have key := lcGo_filter (g := gN 2) (tt := tV (e2 opEq (e2 opIx (eN 2) (eC (.int 0))) (eN 1))) (ev := eN 2) (ρ := [.val (dTk p), .val (.str x), .un]) (δ := dK) (fun k => decide (k.1 = x)) dK p.t.ks (fun k _ => ⟨_, rfl, by simp -implicitDefEqProofs [dK], rfl⟩)
  have e0 : (p.t.ks.filter fun k => decide (k.1 = x))[0]? = some k := (filter0 _ _).trans h
  have i0 : opIx (.lst ((p.t.ks.filter fun k => decide (k.1 = x)).map dK)) (.int 0) = some (.tup [.str k.1, .int k.2.1, .int k.2.2]) := ix_lst' (n := 0) rfl (by rw [List.getElem?_map, e0]; rfl)
  have hz' : (p.t.ks.map dK).length ≤ sizeLine := by rw [List.length_map]; exact Nat.le_of_lt (small1000 hz)
  have i1 : opIx (dTk p) (.int 1) = some (.lst (p.t.ks.map dK)) := rfl
  refine runFn_eq rfl ?_
  show (body_law_kind [.val (dTk p), .val (.str x), .un]).res = _
  generalize (p.t.ks.filter fun k => decide (k.1 = x)).map dK = FS at *
  generalize p.t.ks.map dK = KS at *
  generalize dTk p = TT at *
  simp -implicitDefEqProofs [body_law_kind, i1, hz', key, i0]
theorem f_ljobs {ps : List Pt} (W : Wd ps) : Fn_law_jobs [.lst (ps.map dTk), .lst (ps.map dRs)] = .ok (.lst ((JJ ps).map dJ)) := by
  have l3 := W.l3
  have inner : ∀ (p : Pt) (a : Nat) (P0 : List Jb) (x4 x5 x6 : Pu.Slot), ps[a]? = some p → P0.length ≤ 12 →
      ∃ y4 y5 y6, forS (gN 4) (sSeq (sSet 5 (e2 opIx (e2 opIx (e2 opIx (eN 1) (eN 3)) (eN 4)) (eC (.int 0))))
    (sSeq (sSet 6 (eCall Fn_law_kind (aC (e2 opIx (eN 0) (eN 3)) (aC (e2 opIx (e2 opIx (e2 opIx (eN 1) (eN 3)) (eN 4)) (eC (.int 1))) aN))))
    (sApp 2 (eT (aC (e2 opAdd (eN 5) (e2 opIx (eN 6) (eC (.int 2)))) (aC (eN 5) (aC (eN 3) (aC (eN 4) (aC (e2 opIx (eN 6) (eC (.int 1))) aN)))))))) ) (rgD 0 (p.rs.length : Int))
        [.val (.lst (ps.map dTk)), .val (.lst (ps.map dRs)), .own (P0.map dJ), .val (.int a), x4, x5, x6] = .nx [.val (.lst (ps.map dTk)), .val (.lst (ps.map dRs)), .own ((P0 ++ jobK p.t a 0 p.rs).map dJ), .val (.int a), y4, y5, y6] := fun p a P0 x4 x5 x6 ep hP => by
    have o := W.ok p (List.mem_of_getElem? ep)
    have k8 := o.g.ok.k8
    obtain ⟨ρ', e, y4, y5, y6, rfl⟩ := forS_thru (g := gN 4) (body := sSeq (sSet 5 (e2 opIx (e2 opIx (e2 opIx (eN 1) (eN 3)) (eN 4)) (eC (.int 0))))
    (sSeq (sSet 6 (eCall Fn_law_kind (aC (e2 opIx (eN 0) (eN 3)) (aC (e2 opIx (e2 opIx (e2 opIx (eN 1) (eN 3)) (eN 4)) (eC (.int 1))) aN))))
    (sApp 2 (eT (aC (e2 opAdd (eN 5) (e2 opIx (eN 6) (eC (.int 2)))) (aC (eN 5) (aC (eN 3) (aC (eN 4) (aC (e2 opIx (eN 6) (eC (.int 1))) aN))))))))) (rgD 0 (p.rs.length : Int))
      (fun i ρ => ∃ y4 y5 y6, ρ = [.val (.lst (ps.map dTk)), .val (.lst (ps.map dRs)), .own ((P0 ++ jobK p.t a 0 (p.rs.take i)).map dJ), .val (.int a), y4, y5, y6])
      [.val (.lst (ps.map dTk)), .val (.lst (ps.map dRs)), .own (P0.map dJ), .val (.int a), x4, x5, x6] ⟨x4, x5, x6, by simp [jobK]⟩ (fun i d ρ e hi => by
        obtain ⟨y4, y5, y6, rfl⟩ := hi
        obtain ⟨rfl, hil⟩ := rg0_some e
        obtain ⟨r, er⟩ : ∃ r, p.rs[i]? = some r := ⟨_, List.getElem?_eq_getElem (by omega)⟩
        have hr := (o.c.ok r (List.mem_of_getElem? er)).2.1
        have rl := o.c.len
        have n1 := f_lkind (p := p) (by omega) (kd_get hr).1
        have hsz : ((P0 ++ jobK p.t a 0 (p.rs.take i)).map dJ).length < sizeLine := by rw [List.length_map, List.length_append, jobK_len, List.length_take]; exact small1000 (by omega)
        have i1 : opIx (.lst (ps.map dRs)) (.int (a : Int)) = some (.lst (p.rs.map dRel)) := ix_lst' rfl (by rw [List.getElem?_map, ep]; rfl)
        have i2 : opIx (.lst (p.rs.map dRel)) (.int (i : Int)) = some (.tup [.int r.1, .str r.2]) := ix_lst' rfl (by rw [List.getElem?_map, er]; rfl)
        have i3 : opIx (.lst (ps.map dTk)) (.int (a : Int)) = some (dTk p) := ix_lst' rfl (by rw [List.getElem?_map, ep]; rfl)
        have hj : dJ (jb p.t a (0 + (p.rs.take i).length : Nat) r) = .tup [.int (r.1 + (kd p.t r).2.2), .int r.1, .int a, .int i, .int (kd p.t r).2.1] := by
          rw [List.length_take, Nat.zero_add, Nat.min_eq_left (by omega)]; rfl
        rw [take_snoc er, jobK_snoc, ← List.append_assoc, List.map_append (l₂ := [_]), List.map_singleton, hj]
        refine ⟨_, [.val (.lst (ps.map dTk)), .val (.lst (ps.map dRs)), .own ((P0 ++ jobK p.t a 0 (p.rs.take i)).map dJ ++ [.tup [.int (r.1 + (kd p.t r).2.2), .int r.1, .int a, .int i, .int (kd p.t r).2.1]]), .val (.int a), .val (.int i), .val (.int r.1), .val (.tup [.str (kd p.t r).1, .int (kd p.t r).2.1, .int (kd p.t r).2.2])], rfl, .inl ?_, _, _, _, rfl⟩
        generalize (P0 ++ jobK p.t a 0 (p.rs.take i)).map dJ = PP at *
        generalize p.rs.map dRel = PL at *
        generalize ps.map dRs = RR at *
        generalize ps.map dTk = TS at *
        generalize dTk p = TT at *
        simp -implicitDefEqProofs [n1, i1, i2, i3, hsz])
    rw [rgD_length, show ((p.rs.length : Int) - 0).toNat = p.rs.length by omega, List.take_length] at e
    exact ⟨y4, y5, y6, e⟩
  obtain ⟨ρ', e, y3, y4, y5, y6, rfl⟩ := forS_thru (g := gN 3) (body := sFor (iR1 (aC (eF fLen (aC (e2 opIx (eN 1) (eN 3)) aN)) aN)) (gN 4) (sSeq (sSet 5 (e2 opIx (e2 opIx (e2 opIx (eN 1) (eN 3)) (eN 4)) (eC (.int 0))))
    (sSeq (sSet 6 (eCall Fn_law_kind (aC (e2 opIx (eN 0) (eN 3)) (aC (e2 opIx (e2 opIx (e2 opIx (eN 1) (eN 3)) (eN 4)) (eC (.int 1))) aN))))
    (sApp 2 (eT (aC (e2 opAdd (eN 5) (e2 opIx (eN 6) (eC (.int 2)))) (aC (eN 5) (aC (eN 3) (aC (eN 4) (aC (e2 opIx (eN 6) (eC (.int 1))) aN)))))))))) (rgD 0 (ps.length : Int))
    (fun i ρ => ∃ y3 y4 y5 y6, ρ = [.val (.lst (ps.map dTk)), .val (.lst (ps.map dRs)), .own ((jobT 0 (ps.take i)).map dJ), y3, y4, y5, y6])
    [.val (.lst (ps.map dTk)), .val (.lst (ps.map dRs)), .own [], .un, .un, .un, .un] ⟨_, _, _, _, rfl⟩ (fun i d ρ e hi => by
      obtain ⟨y3, y4, y5, y6, rfl⟩ := hi
      obtain ⟨rfl, hil⟩ := rg0_some e
      obtain ⟨p, ep⟩ : ∃ p, ps[i]? = some p := ⟨_, List.getElem?_eq_getElem (by omega)⟩
      obtain ⟨z4, z5, z6, k⟩ := inner p i (jobT 0 (ps.take i)) y4 y5 y6 ep (W.take i)
      have rl := (W.ok p (List.mem_of_getElem? ep)).c.len
      have i1 : opIx (.lst (ps.map dRs)) (.int (i : Int)) = some (.lst (p.rs.map dRel)) := ix_lst' rfl (by rw [List.getElem?_map, ep]; rfl)
      have hln : fLen [.lst (p.rs.map dRel)] = some (.int (p.rs.length : Int)) := by simp
      have hr := asR1_of (p.rs.length : Int) (by omega) (by omega)
      rw [take_snoc ep, jobT_snoc, List.length_take, Nat.min_eq_left (by omega), Nat.zero_add]
      refine ⟨[.val (.lst (ps.map dTk)), .val (.lst (ps.map dRs)), .own ((jobT 0 (ps.take i)).map dJ), .val (.int i), y4, y5, y6], [.val (.lst (ps.map dTk)), .val (.lst (ps.map dRs)), .own ((jobT 0 (ps.take i) ++ jobK p.t i 0 p.rs).map dJ), .val (.int i), z4, z5, z6], rfl, .inl ?_, _, _, _, _, rfl⟩
      generalize (jobT 0 (ps.take i) ++ jobK p.t i 0 p.rs).map dJ = PQ at *
      generalize (jobT 0 (ps.take i)).map dJ = PP at *
      generalize rgD 0 (p.rs.length : Int) = RG at *
      generalize (p.rs.length : Int) = Z at *
      generalize p.rs.map dRel = PL at *
      generalize ps.map dRs = RR at *
      generalize ps.map dTk = TS at *
      simp -implicitDefEqProofs [i1, hln, hr, k])
  rw [rgD_length, show ((ps.length : Int) - 0).toNat = ps.length by omega, List.take_length] at e
  refine runFn_eq rfl ?_
  have hln : fLen [.lst (ps.map dTk)] = some (.int (ps.length : Int)) := by simp
  have hr := asR1_of (ps.length : Int) (by omega) (by omega)
  have hS : lSrt (eB 2) [.val (.lst (ps.map dTk)), .val (.lst (ps.map dRs)), .own ((jobT 0 ps).map dJ), y3, y4, y5, y6] = .ok ((JJ ps).map dJ) := lSrt_jobs rfl
  show (body_law_jobs [.val (.lst (ps.map dTk)), .val (.lst (ps.map dRs)), .un, .un, .un, .un, .un]).res = _
  generalize (JJ ps).map dJ = JS at *
  generalize (jobT 0 ps).map dJ = PQ at *
  generalize rgD 0 (ps.length : Int) = RG at *
  generalize (ps.length : Int) = Z at *
  generalize ps.map dRs = RR at *
  generalize ps.map dTk = TS at *
  simp -implicitDefEqProofs [body_law_jobs, hln, hr, e, hS]
theorem f_copy {ps : List Pt} (W : Wd ps) : Fn_law_copy [.lst (ps.map dRs)] = .ok (.lst (ps.map dRs)) := by
  have l3 := W.l3
  have key := lcGo_map (g := gN 1) (ev := eL (lList (aC (eN 1) aN))) (ρ := [.val (.lst (ps.map dRs)), .un]) (δ := dRs) dRs ps (fun p hp => ⟨_, rfl, by
    have rl := (W.ok p hp).c.len
    have hz : p.rs.length ≤ sizeLine := Nat.le_of_lt (small1000 (by omega))
    generalize ps.map dRs = RR at *
    simp -implicitDefEqProofs [hz]⟩)
  have hz : (ps.map dRs).length ≤ sizeLine := by rw [List.length_map]; exact Nat.le_of_lt (small1000 (by omega))
  refine runFn_eq rfl ?_
  show (body_law_copy [.val (.lst (ps.map dRs)), .un]).res = _
  generalize ps.map dRs = RR at *
  simp -implicitDefEqProofs [body_law_copy, hz, key]
end G88

namespace G88
open PySem PySem.Spec PyProof.Rows L2 Pu Edf
/-! ### what is known of the jobs -/
structure JOk (J : List Jb) (ns : List Nat) : Prop where
  j : ∀ j ∈ J, 0 ≤ j.r ∧ j.r < j.d ∧ j.d ≤ 6000 ∧ 1 ≤ j.c ∧ j.c ≤ 1000
  at_ : ∀ j ∈ J, ∃ x y n : Nat, j.a = x ∧ j.b = y ∧ ns[x]? = some n ∧ y < n
  nd : (J.map fun j => (j.a, j.b)).Nodup
  len : J.length ≤ 12
  due : ByDue J
theorem jobK_mem {t : Tk} {a : Nat} {j : Jb} : ∀ {k : Nat} {l : List (Int × Str)}, j ∈ jobK t a k l → ∃ (i : Nat) (r : Int × Str), l[i]? = some r ∧ j = jb t a (k + i : Nat) r
  | k, [], h => by cases h
  | k, x :: l, h => by
    rcases List.mem_cons.mp h with rfl | h
    · exact ⟨0, x, rfl, rfl⟩
    · obtain ⟨i, r, e, rfl⟩ := jobK_mem h
      exact ⟨i + 1, r, by simpa using e, by rw [show k + 1 + i = k + (i + 1) by omega]⟩
theorem jobT_mem {j : Jb} : ∀ {a : Nat} {l : List Pt}, j ∈ jobT a l → ∃ (i k : Nat) (p : Pt) (r : Int × Str), l[i]? = some p ∧ p.rs[k]? = some r ∧ j = jb p.t (a + i : Nat) (k : Nat) r
  | a, [], h => by cases h
  | a, p :: l, h => by
    rcases List.mem_append.mp h with h | h
    · obtain ⟨k, r, e, rfl⟩ := jobK_mem h
      exact ⟨0, k, p, r, rfl, e, by rw [Nat.zero_add]; rfl⟩
    · obtain ⟨i, k, q, r, e1, e2, rfl⟩ := jobT_mem h
      exact ⟨i + 1, k, q, r, by simpa using e1, e2, by rw [show a + 1 + i = a + (i + 1) by omega]⟩
theorem jobK_nd {t : Tk} {a : Nat} : ∀ {k : Nat} {l : List (Int × Str)}, ((jobK t a k l).map fun j => (j.a, j.b)).Nodup
  | k, [] => List.nodup_nil
  | k, x :: l => by
    show ((((a : Int), (k : Int))) :: (jobK t a (k + 1) l).map fun j => (j.a, j.b)).Nodup
    refine List.nodup_cons.mpr ⟨fun h => ?_, jobK_nd⟩
    obtain ⟨j, hj, e⟩ := List.mem_map.mp h
    obtain ⟨i, r, _, rfl⟩ := jobK_mem hj
    have : ((k + 1 + i : Nat) : Int) = (k : Int) := congrArg Prod.snd e
    omega
theorem jobT_nd : ∀ {a : Nat} {l : List Pt}, ((jobT a l).map fun j => (j.a, j.b)).Nodup
  | a, [] => List.nodup_nil
  | a, p :: l => by
    show ((jobK p.t a 0 p.rs ++ jobT (a + 1) l).map fun j => (j.a, j.b)).Nodup
    rw [List.map_append]
    refine List.nodup_append.mpr ⟨jobK_nd, jobT_nd, fun x hx y hy z => ?_⟩
    obtain ⟨j, hj, rfl⟩ := List.mem_map.mp hx
    obtain ⟨j', hj', rfl⟩ := List.mem_map.mp hy
    obtain ⟨i, r, _, rfl⟩ := jobK_mem hj
    obtain ⟨i', k', q, r', _, _, rfl⟩ := jobT_mem hj'
    have : (a : Int) = ((a + 1 + i' : Nat) : Int) := congrArg Prod.fst z
    omega
theorem jobT_facts {ps : List Pt} (W : Wd ps) : ∀ j ∈ jobT 0 ps, (0 ≤ j.r ∧ j.r < j.d ∧ j.d ≤ 6000 ∧ 1 ≤ j.c ∧ j.c ≤ 1000) ∧ ∃ x y n : Nat, j.a = x ∧ j.b = y ∧ (ps.map fun p => p.rs.length)[x]? = some n ∧ y < n := fun j hj => by
  obtain ⟨i, k, p, r, e1, e2, rfl⟩ := jobT_mem hj
  have o := W.ok p (List.mem_of_getElem? e1)
  have hr := o.c.ok r (List.mem_of_getElem? e2)
  have hk := o.g.ok.kk _ (kd_get hr.2.1).2
  have rl := o.c.len
  refine ⟨⟨hr.1, ?_, ?_, hk.1, hk.2.1⟩, i, k, p.rs.length, by show ((0 + i : Nat) : Int) = i; rw [Nat.zero_add], rfl, by rw [List.getElem?_map, e1]; rfl, (List.getElem?_eq_some_iff.mp e2).1⟩
  · show r.1 < r.1 + (kd p.t r).2.2; omega
  · show r.1 + (kd p.t r).2.2 ≤ 6000
    have : r.1 ≤ 1010 * (p.rs.length : Int) := hr.2.2
    omega
theorem JJ_ok {ps : List Pt} (W : Wd ps) : JOk (JJ ps) (ps.map fun p => p.rs.length) := by
  have hp := srtJ_perm (jobT 0 ps)
  have h12 := W.take ps.length
  rw [List.take_length] at h12
  exact ⟨fun j hj => (jobT_facts W j (hp.mem_iff.mp hj)).1, fun j hj => (jobT_facts W j (hp.mem_iff.mp hj)).2, (hp.map _).nodup_iff.mpr jobT_nd, by show (srtJ _).length ≤ 12; rw [hp.length_eq]; exact h12, srtJ_due _⟩
/-! ### the last due -/
theorem maxL_ge : ∀ {l : List Int} {x : Int}, x ∈ l → x ≤ maxL l
  | [y], x, h => by rw [List.mem_singleton.mp h]; exact Int.le_refl _
  | y :: z :: r, x, h => by
    show x ≤ max y (maxL (z :: r))
    rcases List.mem_cons.mp h with rfl | h
    · exact Int.le_max_left _ _
    · exact Int.le_trans (maxL_ge h) (Int.le_max_right _ _)
theorem maxL_mem : ∀ {l : List Int}, l ≠ [] → maxL l ∈ l
  | [], h => absurd rfl h
  | [y], _ => List.mem_cons_self
  | y :: z :: r, _ => by
    show max y (maxL (z :: r)) ∈ _
    have := maxL_mem (l := z :: r) (by simp)
    rcases Int.le_total y (maxL (z :: r)) with h | h
    · rw [Int.max_eq_right h]; exact List.mem_cons_of_mem _ this
    · rw [Int.max_eq_left h]; exact List.mem_cons_self
theorem eMaxD_of {as : Av} {k : Ev} {ρ : PEnv} {ns : List Int} {z : Int} (h : as ρ = .ok [.lst (ns.map D.int)]) (hk : k ρ = .ok (.int z)) : eMaxD as k ρ = .ok (.int (if ns.isEmpty = true then z else maxL ns)) := by
  unfold eMaxD
  rw [h, hk]
  show (match ints? (ns.map D.int) with | some ns => Res.ok (D.int (if ns.isEmpty = true then z else maxL ns)) | none => .stuck) = _
  rw [ints?_map]
theorem f_llast {J : List Jb} {ns : List Nat} (h : JOk J ns) : ∃ N : Nat, Fn_law_last [.lst (J.map dJ)] = .ok (.int N) ∧ N ≤ 6000 ∧ ∀ j ∈ J, j.d ≤ N := by
  have key := lcGo_map (g := gN 1) (ev := e2 opIx (eN 1) (eC (.int 0))) (ρ := [.val (.lst (J.map dJ)), .un]) (δ := dJ) (fun j => D.int j.d) J (fun j _ => ⟨_, rfl, by simp -implicitDefEqProofs [dJ]⟩)
  have hz : (J.map dJ).length ≤ sizeLine := by rw [List.length_map]; exact Nat.le_of_lt (small1000 (by have := h.len; omega))
  have hm : (J.map fun j => D.int j.d) = (J.map (·.d)).map D.int := by rw [List.map_map]; rfl
  rw [hm] at key
  have hl : ∀ ds, lcGo (gN 1) tYes' (e2 opIx (eN 1) (eC (.int 0))) [.val (.lst (J.map dJ)), .un] (J.map dJ) = .ok ds → eL (lLc (iS (eN 0)) (gN 1) [1] tYes' (e2 opIx (eN 1) (eC (.int 0)))) [.val (.lst (J.map dJ)), .un] = .ok (.lst ds) := fun ds hd => by
    generalize J.map dJ = JS at *
    simp -implicitDefEqProofs [hz, hd]
  by_cases hJ : J = []
  · subst hJ
    exact ⟨0, rfl, by omega, fun j hj => by cases hj⟩
  · have hne : J.map (·.d) ≠ [] := fun z => hJ (List.map_eq_nil_iff.mp z)
    obtain ⟨j, hj, ej⟩ := List.mem_map.mp (maxL_mem hne)
    have hjj := h.j j hj
    refine ⟨(maxL (J.map (·.d))).toNat, runFn_eq rfl ?_, by omega, fun j' hj' => by have := maxL_ge (List.mem_map_of_mem (f := fun j : Jb => j.d) hj'); omega⟩
    have hx := hl _ key
    have hmx : fMaxL [.lst ((J.map (·.d)).map D.int)] = some (.int (maxL (J.map (·.d)))) := fMaxL_map hne
    show (body_law_last [.val (.lst (J.map dJ)), .un]).res = _
    rw [show (((maxL (J.map (·.d))).toNat : Nat) : Int) = maxL (J.map (·.d)) by omega]
    have hne2 : (J.map (·.d)).map D.int ≠ [] := fun z => hne (List.map_eq_nil_iff.mp z)
    have hD : eMaxD (aC (eL (lLc (iS (eN 0)) (gN 1) [1] tYes' (e2 opIx (eN 1) (eC (.int 0))))) aN) (eC (.int 0)) [.val (.lst (J.map dJ)), .un] = .ok (.int (maxL (J.map (·.d)))) := by
      rw [eMaxD_of (ns := J.map (·.d)) (z := 0) (by rw [aC_ap, hx]; rfl) rfl, if_neg (by cases J with | nil => exact absurd rfl hJ | cons _ _ => simp)]
    unfold body_law_last sRet
    rw [hD]; rfl
theorem f_lastdue {ps : List Pt} {T : List Int} (W : Wd ps) : ∃ N : Nat, Fn_last_due [dSys ps T, .lst (ps.map dRs)] = .ok (.int N) ∧ N ≤ 6000 ∧ ∀ j ∈ JJ ps, j.d ≤ N := by
  have inner : ∀ (p : Pt) (a : Int) (m : Nat) (x5 : Pu.Slot), PtOk p → m ≤ 6000 →
      ∃ (m' : Nat) (y5 : Pu.Slot), forS (gN 5) (sSet 2 (eF fMax2 (aC (eN 2) (aC (eCall Fn_due (aC (eN 4) (aC (eN 5) aN))) aN)))) (p.rs.map dRel)
        [.val (dSys ps T), .val (.lst (ps.map dRs)), .val (.int m), .val (.int a), .val (dTp p), x5] = .nx [.val (dSys ps T), .val (.lst (ps.map dRs)), .val (.int m'), .val (.int a), .val (dTp p), y5] ∧ m ≤ m' ∧ m' ≤ 6000 ∧ ∀ r ∈ p.rs, r.1 + (kd p.t r).2.2 ≤ m' := fun p a m x5 o hm => by
    obtain ⟨ρ', e, m', y5, rfl, h1, h2, h3⟩ := forS_thru (g := gN 5) (body := sSet 2 (eF fMax2 (aC (eN 2) (aC (eCall Fn_due (aC (eN 4) (aC (eN 5) aN))) aN)))) (p.rs.map dRel)
      (fun i ρ => ∃ (m' : Nat) (y5 : Pu.Slot), ρ = [.val (dSys ps T), .val (.lst (ps.map dRs)), .val (.int m'), .val (.int a), .val (dTp p), y5] ∧ m ≤ m' ∧ m' ≤ 6000 ∧ ∀ r ∈ p.rs.take i, r.1 + (kd p.t r).2.2 ≤ m')
      [.val (dSys ps T), .val (.lst (ps.map dRs)), .val (.int m), .val (.int a), .val (dTp p), x5] ⟨m, x5, rfl, Nat.le_refl _, hm, fun r hr => by simp at hr⟩ (fun i d ρ e hi => by
        obtain ⟨m', y5, rfl, h1, h2, h3⟩ := hi
        rw [List.getElem?_map] at e
        obtain ⟨r, er, rfl⟩ := Option.map_eq_some_iff.mp e
        have hr := o.c.ok r (List.mem_of_getElem? er)
        have hk := o.g.ok.kk _ (kd_get hr.2.1).2
        have rl := o.c.len
        have n1 : Fn_due [dTp p, dRel r] = .ok (.int (r.1 + (kd p.t r).2.2)) := f_due (nm := p.nm) hr.2.1
        have hb : r.1 + (kd p.t r).2.2 ≤ 6000 := by
          have : r.1 ≤ 1010 * (p.rs.length : Int) := hr.2.2
          omega
        have hnn : 0 ≤ r.1 + (kd p.t r).2.2 := by omega
        obtain ⟨z, hz⟩ : ∃ z, r.1 + (kd p.t r).2.2 = z := ⟨_, rfl⟩
        rw [hz] at n1 hb hnn
        refine ⟨_, [.val (dSys ps T), .val (.lst (ps.map dRs)), .val (.int ((max (m' : Int) z).toNat : Nat)), .val (.int a), .val (dTp p), .val (dRel r)], rfl, .inl ?_, _, _, rfl, by omega, by omega, fun r' hr' => ?_⟩
        · rw [show (((max (m' : Int) z).toNat : Nat) : Int) = max (m' : Int) z by omega]
          generalize ps.map dRs = RR at *
          generalize dSys ps T = SS at *
          generalize dTp p = TT at *
          generalize dRel r = RL at *
          simp -implicitDefEqProofs [n1]
        · rw [take_snoc er] at hr'
          rcases List.mem_append.mp hr' with hr' | hr'
          · have := h3 r' hr'; omega
          · rw [List.mem_singleton.mp hr', hz]
            omega)
    rw [List.length_map, List.take_length] at h3
    exact ⟨m', y5, e, h1, h2, h3⟩
  obtain ⟨ρ', e, m, y3, y4, y5, rfl, h2, h3⟩ := forS_thru (g := gT [3, 4]) (body := sFor (iS (e2 opIx (eN 1) (eN 3))) (gN 5) (sSet 2 (eF fMax2 (aC (eN 2) (aC (eCall Fn_due (aC (eN 4) (aC (eN 5) aN))) aN))))) (prs 0 (ps.map dTp))
    (fun i ρ => ∃ (m : Nat) (y3 y4 y5 : Pu.Slot), ρ = [.val (dSys ps T), .val (.lst (ps.map dRs)), .val (.int m), y3, y4, y5] ∧ m ≤ 6000 ∧ ∀ p ∈ ps.take i, ∀ r ∈ p.rs, r.1 + (kd p.t r).2.2 ≤ m)
    [.val (dSys ps T), .val (.lst (ps.map dRs)), .val (.int (0 : Nat)), .un, .un, .un] ⟨0, _, _, _, rfl, by omega, fun r hr => by simp at hr⟩ (fun i d ρ e hi => by
      obtain ⟨m, y3, y4, y5, rfl, h2, h3⟩ := hi
      obtain ⟨z, e1, rfl⟩ := prs_map _ _ _ _ e
      rw [List.getElem?_map] at e1
      obtain ⟨p, ep, rfl⟩ := Option.map_eq_some_iff.mp e1
      obtain ⟨m', z5, k, k1, k2, k3⟩ := inner p (i : Int) m y5 (W.ok p (List.mem_of_getElem? ep)) h2
      have i1 : opIx (.lst (ps.map dRs)) (.int (i : Int)) = some (.lst (p.rs.map dRel)) := ix_lst' rfl (by rw [List.getElem?_map, ep]; rfl)
      refine ⟨[.val (dSys ps T), .val (.lst (ps.map dRs)), .val (.int m), .val (.int i), .val (dTp p), y5], [.val (dSys ps T), .val (.lst (ps.map dRs)), .val (.int m'), .val (.int i), .val (dTp p), z5], by rw [Nat.zero_add]; rfl, .inl ?_, _, _, _, _, rfl, k2, fun q hq r hr => ?_⟩
      · generalize p.rs.map dRel = PL at *
        generalize ps.map dRs = RR at *
        generalize dSys ps T = SS at *
        generalize dTp p = TT at *
        simp -implicitDefEqProofs [i1, k]
      · rw [take_snoc ep] at hq
        rcases List.mem_append.mp hq with hq | hq
        · have := h3 q hq r hr; omega
        · rw [List.mem_singleton.mp hq] at hr ⊢
          exact k3 r hr)
  rw [prs_len, List.length_map, List.take_length] at h3
  refine ⟨m, runFn_eq rfl ?_, h2, fun j hj => ?_⟩
  · have hf := fld_tasks ps T
    have hE : asE [.tup (ps.map dTp)] = .ok (prs 0 (ps.map dTp)) := rfl
    show (body_last_due [.val (dSys ps T), .val (.lst (ps.map dRs)), .un, .un, .un, .un]).res = _
    have e' : forS _ _ (prs 0 (ps.map dTp)) [.val (dSys ps T), .val (.lst (ps.map dRs)), .val (.int 0), .un, .un, .un] = _ := e
    generalize prs 0 (ps.map dTp) = PR at *
    generalize ps.map dRs = RR at *
    generalize dSys ps T = SS at *
    generalize ps.map dTp = TP at *
    simp -implicitDefEqProofs [body_last_due, hf, hE, e']
  · obtain ⟨i, k, p, r, e1, e2, rfl⟩ := jobT_mem ((srtJ_perm _).mem_iff.mp hj)
    exact h3 p (List.mem_of_getElem? e1) r (List.mem_of_getElem? e2)
end G88

namespace Pu
open PySem PySem.Spec PyProof.Rows L2
section
variable (ρ : PEnv) (a b ej ea : Ev) (n i k : Nat) (pv : Pv) (xv : Xv) (lv : Av) (av : Axv) (nv : Nv) (Fn : FnM) (gv : Gv) (s : Sv)
@[simp] theorem pvN_ap : pvN i ρ = match ρ[i]? with | some (.al k) => .ok k | _ => .stuck := rfl
@[simp] theorem eCell_ap : eCell n pv ρ = (pv ρ).bind fun k => match ρ[k + n]? with | some (.own ds) => .ok (.lst ds) | _ => .stuck := rfl
@[simp] theorem pvIx_ap : pvIx n pv ej ρ = (pv ρ).bind fun k => match ρ[k + n]? with
  | some (.own2 ks) => (ej ρ).bind fun y => match y with
    | .int i => Res.of (atI ks i)
    | _ => .stuck
  | _ => .stuck := rfl
@[simp] theorem sPutC_ap : sPutC n pv ej ea ρ = Out.of (ea ρ) fun d => Out.of (pv ρ) fun k => match ρ[k + n]? with
  | some (.own ds) => Out.of (ej ρ) fun j => putAt (k + n) ρ ds d j
  | _ => .stuck := rfl
@[simp] theorem sAugC_ap (f : D → D → Option D) : sAugC f n pv ej ea ρ = Out.of (pv ρ) fun k => match ρ[k + n]? with
  | some (.own ds) => Out.of (ej ρ) fun j => augAt f (k + n) ρ ds ea j
  | _ => .stuck := rfl
@[simp] theorem axN_ap : axN ρ = .ok [] := rfl
@[simp] theorem axV_ap : axV ea av ρ = (ea ρ).bind fun d => (av ρ).bind fun as => .ok (.val d :: as) := rfl
@[simp] theorem axC_ap : axC pv av ρ = (pv ρ).bind fun k => (av ρ).bind fun as => .ok (.al k :: as) := rfl
@[simp] theorem xvE_ap : xvE ea ρ = (ea ρ).bind fun d => .ok (.val d, ρ) := rfl
@[simp] theorem xCall_ap : xCall n Fn av ρ = (av ρ).bind fun as => (Fn as (ρ.drop n)).nx.bind fun r => .ok (r.1, ρ.take n ++ r.2) := rfl
@[simp] theorem sRetM_ap : sRetM xv ρ = Out.ofX (xv ρ) fun s ρ' => .rm s ρ' := rfl
@[simp] theorem sAppX_ap : sAppX i xv ρ = match ρ[i]? with
  | some (.own _) => Out.ofX (xv ρ) fun s ρ' => match s, ρ'[i]? with
    | .val d, some (.own ds) => if ds.length < sizeLine then .nx (ρ'.set i (.own (ds ++ [d]))) else .stuck
    | _, _ => .stuck
  | _ => .stuck := rfl
@[simp] theorem sForX_ap : sForX xv gv s ρ = Out.ofX (xv ρ) fun t ρ' => match t with
  | .val (.lst ds) => forS gv s ds ρ'
  | _ => .stuck := rfl
end
theorem augAt_of {f : D → D → Option D} {i : Nat} {ρ : PEnv} {ds : List D} {ea : Ev} {z : Int} {m : Nat} {x d y : D} (hz : z = m) (hx : ds[m]? = some x) (he : ea ρ = .ok d) (hf : f x d = some y) : augAt f i ρ ds ea (.int z) = .nx (ρ.set i (.own (ds.set m y))) := by
  subst hz
  show (if (0 : Int) ≤ (m : Int) then (match ds[(m : Int).toNat]? with
    | some x => Out.of (ea ρ) fun d => (match f x d with
      | some y => .nx (ρ.set i (.own (ds.set (m : Int).toNat y)))
      | none => .stuck)
    | none => .stuck) else .stuck) = _
  rw [if_pos (by omega), Int.toNat_natCast, hx, he]
  show (match f x d with | some y => Out.nx (ρ.set i (.own (ds.set m y))) | none => .stuck) = _
  rw [hf]
theorem putAt_of {i : Nat} {ρ : PEnv} {ds : List D} {d : D} {z : Int} {n : Nat} (hz : z = n) (hn : n < ds.length) : putAt i ρ ds d (.int z) = .nx (ρ.set i (.own (ds.set n d))) := by
  subst hz
  show (match ixN ds.length (n : Int) with | some n => _ | none => _) = _
  have : ixN ds.length (n : Int) = some n := by
    unfold ixN
    rw [if_pos (by omega), if_pos (by omega)]
    simp
  rw [this]
@[simp] theorem opIx_t3 (a b c d : D) (r : List D) : opIx (.tup (a :: b :: c :: d :: r)) (.int 3) = some d := ix_tup' (n := 3) rfl rfl
@[simp] theorem opIx_t4 (a b c d e : D) (r : List D) : opIx (.tup (a :: b :: c :: d :: e :: r)) (.int 4) = some e := ix_tup' (n := 4) rfl rfl
/-- a loop that runs through or breaks -/
theorem forS_brk {g : Gv} {body : Sv} {o : Out} : ∀ (ds : List D) (I : Nat → PEnv → Prop) (B : PEnv → Prop) (ρ : PEnv), forS g body ds ρ = o → I 0 ρ →
    (∀ i d ρ, ds[i]? = some d → I i ρ → ∃ ρ1, g d ρ = some ρ1 ∧ ((∃ ρ2, (body ρ1 = .nx ρ2 ∨ body ρ1 = .ct ρ2) ∧ I (i + 1) ρ2) ∨ ∃ ρ2, body ρ1 = .bk ρ2 ∧ B ρ2)) →
    ∃ ρ', o = .nx ρ' ∧ (I ds.length ρ' ∨ B ρ')
  | [], I, B, ρ, e, h0, _ => ⟨ρ, e.symm, .inl h0⟩
  | d :: ds, I, B, ρ, e, h0, hs => by
    obtain ⟨ρ1, e1, h⟩ := hs 0 d ρ rfl h0
    unfold forS at e
    rw [e1] at e
    rcases h with ⟨ρ2, e2, h2⟩ | ⟨ρ2, e2, h2⟩
    · have e' : forS g body ds ρ2 = o := by
        rcases e2 with e2 | e2
        · simp only [e2] at e; exact e
        · simp only [e2] at e; exact e
      exact forS_brk ds (fun i => I (i + 1)) B ρ2 e' h2 fun i d ρ e hi => hs (i + 1) d ρ (by simpa using e) hi
    · simp only [e2] at e
      exact ⟨ρ2, e.symm, .inr h2⟩
end Pu
namespace G88
open PySem PySem.Spec PyProof.Rows L2 Pu Edf
/-! ### serve -/
def Cs (S : List Jb) : List D := S.map fun j => .int j.c
theorem svJ_zero {n : Int} : ∀ {S : List Jb}, (∀ j ∈ S, 0 ≤ j.c) → svJ n 0 S = S
  | [], _ => rfl
  | j :: S, h => by
    have h0 := h j List.mem_cons_self
    have e : sv1 n 0 j = (j, 0) := by
      unfold sv1
      split
      · have : min 0 j.c = 0 := by omega
        rw [this, Int.sub_zero, Int.sub_zero]
      · rfl
    show (sv1 n 0 j).1 :: svJ n (sv1 n 0 j).2 S = _
    rw [e]
    show j :: svJ n 0 S = _
    rw [svJ_zero fun x hx => h x (List.mem_cons_of_mem _ hx)]
theorem svU_nn {n : Int} : ∀ {S : List Jb} {u : Int}, 0 ≤ u → (∀ j ∈ S, 0 ≤ j.c) → 0 ≤ svU n u S
  | [], u, h, _ => h
  | j :: S, u, h, hc => svU_nn (S := S) (sv1_nn h (hc j List.mem_cons_self)).2 fun x hx => hc x (List.mem_cons_of_mem _ hx)
theorem f_serve {J S : List Jb} (hfr : S.map fr = J.map fr) (hc : ∀ j ∈ S, 0 ≤ j.c) {u : Int} (hu : 0 ≤ u) {M : List Pu.Slot} {k : Nat} (hM : M[k]? = some (.own (Cs S))) (hl : J.length ≤ 12) (n : Nat) :
    ∃ row : List D, row.length ≤ 12 ∧ Fn_serve [.val (.lst (J.map dJ)), .al k, .val (.int n), .val (.int u)] M = .ok (.val (.lst row), M.set k (.own (Cs (svJ n u S)))) := by
  have hSJ : S.length = J.length := by have := congrArg List.length hfr; rwa [List.length_map, List.length_map] at this
  have hkM : k < M.length := (List.getElem?_eq_some_iff.mp hM).1
  generalize e : forS (gT [5, 6]) (sSeq (sIf (tV (e2 opEq (eN 3) (eC (.int 0)))) .bk sNil)
    (sIf (tAnd' (tV (e2 opLe (e2 opIx (eN 6) (eC (.int 1))) (eN 2))) (tV (e2 opGt (e2 opIx (eCell 8 (pvN 1)) (eN 5)) (eC (.int 0))))) (sSeq (sSet 7 (eF fMin2 (aC (eN 3) (aC (e2 opIx (eCell 8 (pvN 1)) (eN 5)) aN))))
    (sSeq (sAugC opSub 8 (pvN 1) (eN 5) (eN 7))
    (sSeq (sAug 3 opSub (eN 7))
    (sApp 4 (eT (aC (e2 opIx (eN 6) (eC (.int 2))) (aC (e2 opIx (eN 6) (eC (.int 3))) (aC (eN 7) aN)))))))) sNil)) (prs 0 (J.map dJ))
    (Pu.Slot.val (.lst (J.map dJ)) :: .al k :: .val (.int n) :: .val (.int u) :: .own [] :: .un :: .un :: .un :: M) = o
  obtain ⟨ρ', rfl, h⟩ := forS_brk (prs 0 (J.map dJ)) (fun i ρ => ∃ (row : List D) (x5 x6 x7 : Pu.Slot), ρ = .val (.lst (J.map dJ)) :: .al k :: .val (.int n) :: .val (.int (svU n u (S.take i))) :: .own row :: x5 :: x6 :: x7 :: M.set k (.own (Cs (svJ n u (S.take i) ++ S.drop i))) ∧ row.length ≤ i)
    (fun ρ => ∃ (row : List D) (x3 x5 x6 x7 : Pu.Slot), ρ = .val (.lst (J.map dJ)) :: .al k :: .val (.int n) :: x3 :: .own row :: x5 :: x6 :: x7 :: M.set k (.own (Cs (svJ n u S))) ∧ row.length ≤ 12) _ e
    ⟨[], .un, .un, .un, by
      have hs : M.set k (.own (Cs S)) = M := by
        apply List.ext_getElem?
        intro q
        rw [List.getElem?_set]
        by_cases z : k = q
        · subst z; rw [if_pos rfl, if_pos hkM, hM]
        · rw [if_neg z]
      show _ = _ :: _ :: _ :: Pu.Slot.val (.int u) :: _ :: _ :: _ :: _ :: M.set k (.own (Cs S))
      rw [hs], Nat.le_refl _⟩ (fun i d ρ e hi => by
      obtain ⟨row, x5, x6, x7, rfl, hrow⟩ := hi
      obtain ⟨z, e1, rfl⟩ := prs_map _ _ _ _ e
      rw [List.getElem?_map] at e1
      obtain ⟨j, ej, rfl⟩ := Option.map_eq_some_iff.mp e1
      have hiJ := (List.getElem?_eq_some_iff.mp ej).1
      obtain ⟨b, eb⟩ : ∃ b, S[i]? = some b := ⟨_, List.getElem?_eq_getElem (by omega)⟩
      have hfb : fr b = fr j := by
        have h1 : (S.map fr)[i]? = (J.map fr)[i]? := by rw [hfr]
        rw [List.getElem?_map, List.getElem?_map, eb, ej] at h1
        exact Option.some.inj h1
      have hbr : b.r = j.r := congrArg (·.2.1) hfb
      have hlA : (svJ n u (S.take i)).length = i := by rw [svJ_len, List.length_take, Nat.min_eq_left (by omega)]
      have hd : S.drop i = b :: S.drop (i + 1) := by
        rw [List.drop_eq_getElem_cons (by omega)]
        rw [List.getElem?_eq_getElem (by omega)] at eb
        rw [Option.some.inj eb]
      have hvn : 0 ≤ svU n u (S.take i) := svU_nn hu fun x hx => hc x (List.mem_of_mem_take hx)
      have hbc : 0 ≤ b.c := hc b (List.mem_of_getElem? eb)
      refine ⟨.val (.lst (J.map dJ)) :: .al k :: .val (.int n) :: .val (.int (svU n u (S.take i))) :: .own row :: .val (.int i) :: .val (dJ j) :: x7 :: M.set k (.own (Cs (svJ n u (S.take i) ++ S.drop i))), by rw [Nat.zero_add]; rfl, ?_⟩
      by_cases hv0 : svU n u (S.take i) = 0
      · right
        have hS0 : svJ n u (S.take i) ++ S.drop i = svJ n u S := by
          conv => rhs; rw [← List.take_append_drop i S]
          rw [svJ_app, hv0, svJ_zero fun x hx => hc x (List.mem_of_mem_drop hx)]
        rw [hS0, hv0]
        refine ⟨.val (.lst (J.map dJ)) :: .al k :: .val (.int n) :: .val (.int 0) :: .own row :: .val (.int i) :: .val (dJ j) :: x7 :: M.set k (.own (Cs (svJ n u S))), ?_, row, _, _, _, _, rfl, by omega⟩
        generalize M.set k (.own (Cs (svJ n u S))) = MM
        generalize J.map dJ = JS at *
        simp -implicitDefEqProofs []
      · left
        have hCi : (Cs (svJ n u (S.take i) ++ S.drop i))[i]? = some (.int b.c) := by
          unfold Cs
          rw [List.getElem?_map, List.getElem?_append_right (by omega), hlA, Nat.sub_self, hd]; rfl
        have hix : opIx (.lst (Cs (svJ n u (S.take i) ++ S.drop i))) (.int (i : Int)) = some (.int b.c) := ix_lst' rfl hCi
        have hset : ∀ x : Int, (Cs (svJ n u (S.take i) ++ S.drop i)).set i (.int x) = Cs (svJ n u (S.take i) ++ { b with c := x } :: S.drop (i + 1)) := fun x => by
          unfold Cs
          rw [hd, List.map_append, List.map_append, List.set_append_right _ _ (by rw [List.length_map]; omega), List.length_map, hlA, Nat.sub_self]
          rfl
        have hget : (M.set k (.own (Cs (svJ n u (S.take i) ++ S.drop i))))[k]? = some (.own (Cs (svJ n u (S.take i) ++ S.drop i))) := by rw [List.getElem?_set_self hkM]
        rw [take_snoc eb, svU_app, svJ_app, List.append_assoc]
        show ∃ ρ2, _ ∧ ∃ row y5 y6 y7, ρ2 = _ :: _ :: _ :: Pu.Slot.val (.int (sv1 n (svU n u (S.take i)) b).2) :: _ :: _ :: _ :: _ :: M.set k (.own (Cs (svJ n u (S.take i) ++ (sv1 n (svU n u (S.take i)) b).1 :: S.drop (i + 1)))) ∧ _
        by_cases h1 : j.r ≤ n
        · by_cases h2 : 0 < b.c
          · have q1 : sv1 n (svU n u (S.take i)) b = ({ b with c := b.c - min (svU n u (S.take i)) b.c }, svU n u (S.take i) - min (svU n u (S.take i)) b.c) := by unfold sv1; rw [if_pos ⟨by omega, h2⟩]
            rw [q1]
            generalize hV : svU n u (S.take i) = V at *
            rw [← hset (b.c - min V b.c)]
            have hsz : row.length < sizeLine := small1000 (by omega)
            have hssub : opSub (.int b.c) (.int (min V b.c)) = some (.int (b.c - min V b.c)) := rfl
            have hss : ∀ X : List D, (M.set k (.own (Cs (svJ n u (S.take i) ++ S.drop i)))).set k (.own X) = M.set k (.own X) := fun X => List.set_set ..
            generalize hM1 : M.set k (.own (Cs (svJ n u (S.take i) ++ S.drop i))) = M1 at *
            generalize Cs (svJ n u (S.take i) ++ S.drop i) = C1 at *
            have haug : ∀ (a b0 c0 d0 e0 f0 g0 : Pu.Slot), augAt opSub (k + 8) (a :: b0 :: c0 :: d0 :: e0 :: f0 :: g0 :: .val (.int (min V b.c)) :: M1) C1 (eN 7) (.int (i : Int)) = .nx (a :: b0 :: c0 :: d0 :: e0 :: f0 :: g0 :: .val (.int (min V b.c)) :: M.set k (.own (C1.set i (.int (b.c - min V b.c))))) := fun a b0 c0 d0 e0 f0 g0 => by
              rw [augAt_of (m := i) rfl hCi (d := .int (min V b.c)) rfl hssub, ← hss]
              rfl
            refine ⟨.val (.lst (J.map dJ)) :: .al k :: .val (.int n) :: .val (.int (V - min V b.c)) :: .own (row ++ [.tup [.int j.a, .int j.b, .int (min V b.c)]]) :: .val (.int i) :: .val (dJ j) :: .val (.int (min V b.c)) :: M.set k (.own (C1.set i (.int (b.c - min V b.c)))), .inl ?_, _, _, _, _, rfl, by rw [List.length_append]; simp; omega⟩
            generalize M.set k (.own (C1.set i (.int (b.c - min V b.c)))) = M2 at *
            unfold dJ
            generalize J.map (fun b => D.tup [.int b.d, .int b.r, .int b.a, .int b.b, .int b.c]) = JS at *
            simp -implicitDefEqProofs [hv0, h1, h2, hget, hix, haug, hsz]
          · have q1 : sv1 n (svU n u (S.take i)) b = (b, svU n u (S.take i)) := by unfold sv1; rw [if_neg (fun z => h2 z.2)]
            rw [q1, ← hd]
            refine ⟨_, .inl ?_, row, .val (.int i), .val (dJ j), x7, rfl, by omega⟩
            generalize svU n u (S.take i) = V at *
            generalize hM1 : M.set k (.own (Cs (svJ n u (S.take i) ++ S.drop i))) = M1 at *
            generalize Cs (svJ n u (S.take i) ++ S.drop i) = C1 at *
            unfold dJ
            generalize J.map (fun b => D.tup [.int b.d, .int b.r, .int b.a, .int b.b, .int b.c]) = JS at *
            simp -implicitDefEqProofs [hv0, h1, h2, hget, hix]
        · have q1 : sv1 n (svU n u (S.take i)) b = (b, svU n u (S.take i)) := by unfold sv1; rw [if_neg (fun z => h1 (by omega))]
          rw [q1, ← hd]
          refine ⟨_, .inl ?_, row, .val (.int i), .val (dJ j), x7, rfl, by omega⟩
          generalize svU n u (S.take i) = V at *
          generalize hM1 : M.set k (.own (Cs (svJ n u (S.take i) ++ S.drop i))) = M1 at *
          unfold dJ
          generalize J.map (fun b => D.tup [.int b.d, .int b.r, .int b.a, .int b.b, .int b.c]) = JS at *
          simp -implicitDefEqProofs [hv0, h1])
  have fin : ∃ (row : List D) (x3 x5 x6 x7 : Pu.Slot), ρ' = .val (.lst (J.map dJ)) :: .al k :: .val (.int n) :: x3 :: .own row :: x5 :: x6 :: x7 :: M.set k (.own (Cs (svJ n u S))) ∧ row.length ≤ 12 := by
    rcases h with ⟨row, x5, x6, x7, rfl, hr⟩ | h
    · rw [prs_len, List.length_map] at hr
      rw [prs_len, List.length_map, ← hSJ, List.take_length, List.drop_length, List.append_nil]
      exact ⟨row, _, _, _, _, rfl, by omega⟩
    · exact h
  obtain ⟨row, x3, x5, x6, x7, rfl, hr⟩ := fin
  refine ⟨row, hr, ?_⟩
  show (body_serve (Pu.Slot.val (.lst (J.map dJ)) :: .al k :: .val (.int n) :: .val (.int u) :: .un :: .un :: .un :: .un :: M)).resM 8 = _
  have hE : asE [.lst (J.map dJ)] = .ok (prs 0 (J.map dJ)) := rfl
  generalize M.set k (.own (Cs (svJ n u S))) = M2 at *
  generalize prs 0 (J.map dJ) = PR at *
  generalize J.map dJ = JS at *
  simp -implicitDefEqProofs [body_serve, hE, e, Out.resM]
end G88

namespace G88
open PySem PySem.Spec PyProof.Rows L2 Pu Edf
/-! ### the ends, the first that is late -/
/-- what stands in the table of the ends for job i, n slots on -/
def EndV (L : Nat → List Int) (n i : Nat) (v : D) : Prop := (v = .non ∧ gi (L n) i ≠ 0) ∨ ∃ e : Nat, v = .int e ∧ e ≤ n ∧ gi (L e) i = 0 ∧ ∀ e' < e, gi (L e') i ≠ 0
theorem EndV.kept {cap : Nat → Int} {J : List Jb} {L : Nat → List Int} (S : Sch cap J L) {n i : Nat} {v : D} {j : Jb} (h : EndV L n i v) (hd : 0 ≤ j.d) (hn : j.d ≤ n) :
    (v = .non ∧ gi (L j.d.toNat) i ≠ 0) ∨ ∃ e : Nat, v = .int e ∧ (gi (L j.d.toNat) i = 0 ↔ (e : Int) ≤ j.d) := by
  rcases h with ⟨rfl, h⟩ | ⟨e, rfl, h1, h2, h3⟩
  · refine .inl ⟨rfl, fun z => h ?_⟩
    have a := S.le (a := j.d.toNat) (b := n) (by omega) i
    have b := S.nn n i
    omega
  · refine .inr ⟨e, rfl, fun z => ?_, fun z => ?_⟩
    · by_cases q : (e : Int) ≤ j.d
      · exact q
      · exact absurd z (h3 j.d.toNat (by omega))
    · have a := S.le (a := e) (b := j.d.toNat) (by omega) i
      have b := S.nn j.d.toNat i
      omega
theorem f_late {cap : Nat → Int} {J : List Jb} {L : Nat → List Int} {ns : List Nat} (S : Sch cap J L) (hJ : JOk J ns) {N : Nat} (hN : ∀ j ∈ J, j.d ≤ N) {ED : D}
    (hE : ∀ i j, J[i]? = some j → ∃ R v, opIx ED (.int j.a) = some R ∧ opIx R (.int j.b) = some v ∧ EndV L N i v) :
    ∃ d, Fn_first_late [.lst (J.map dJ), ED] = .ok d ∧ ((d = .non ∧ Kept J L) ∨ (∃ x, d = .int x) ∧ ¬ Kept J L) := by
  have key := forS_ind (g := gN 2) (body := sSeq (sSet 3 (e2 opIx (e2 opIx (eN 1) (e2 opIx (eN 2) (eC (.int 2)))) (e2 opIx (eN 2) (eC (.int 3)))))
    (sIf (tOr' (tV (e2 opIsN (eN 3) (eC .non))) (tV (e2 opGt (eN 3) (e2 opIx (eN 2) (eC (.int 0)))))) (sRet (e2 opIx (eN 2) (eC (.int 0)))) sNil))
    (fun o => ∃ x, o = .rt (.int x) ∧ ¬ Kept J L) (J.map dJ) (fun i ρ => (∀ k < i, ∀ j, J[k]? = some j → gi (L j.d.toNat) k = 0) ∧ ∃ x y, ρ = [.val (.lst (J.map dJ)), .val ED, x, y])
    [.val (.lst (J.map dJ)), .val ED, .un, .un] ⟨fun k hk => absurd hk (Nat.not_lt_zero _), _, _, rfl⟩ (fun i d ρ e hi => by
      obtain ⟨hk, x, y, rfl⟩ := hi
      rw [List.getElem?_map] at e
      obtain ⟨j, ej, rfl⟩ := Option.map_eq_some_iff.mp e
      obtain ⟨R, v, h1, h2, h3⟩ := hE i j ej
      have hj := List.mem_of_getElem? ej
      have hjj := hJ.j j hj
      refine ⟨[.val (.lst (J.map dJ)), .val ED, .val (dJ j), y], rfl, ?_⟩
      have nx : gi (L j.d.toNat) i = 0 → ∀ k < i + 1, ∀ j, J[k]? = some j → gi (L j.d.toNat) k = 0 := fun h0 k hk' j' ej' => by
        by_cases q : k < i
        · exact hk k q j' ej'
        · have : k = i := by omega
          subst this
          rw [ej] at ej'; cases ej'
          exact h0
      generalize J.map dJ = JS at *
      rcases h3.kept S (j := j) (by omega) (hN j hj) with ⟨rfl, h0⟩ | ⟨ee, rfl, h0⟩
      · right
        refine ⟨.rt (.int j.d), ?_, trivial, j.d, rfl, fun K => h0 (K i j ej)⟩
        unfold dJ
        simp -implicitDefEqProofs [h1, h2]
      · by_cases q : (ee : Int) ≤ j.d
        · left
          refine ⟨[.val (.lst JS), .val ED, .val (dJ j), .val (.int ee)], .inl ?_, nx (h0.mpr q), _, _, rfl⟩
          have q' : ¬ j.d < (ee : Int) := by omega
          unfold dJ
          simp -implicitDefEqProofs [h1, h2, q']
        · right
          refine ⟨.rt (.int j.d), ?_, trivial, j.d, rfl, fun K => q (h0.mp (K i j ej))⟩
          have q' : j.d < (ee : Int) := by omega
          unfold dJ
          simp -implicitDefEqProofs [h1, h2, q'])
  rw [List.length_map] at key
  rcases key with ⟨ρ', e, hk, x, y, rfl⟩ | ⟨x, e, hk⟩
  · refine ⟨.non, runFn_eq rfl ?_, .inl ⟨rfl, fun i j ej => hk i (List.getElem?_eq_some_iff.mp ej).1 j ej⟩⟩
    show (body_first_late [.val (.lst (J.map dJ)), .val ED, .un, .un]).res = _
    generalize J.map dJ = JS at *
    simp -implicitDefEqProofs [body_first_late, e]
  · refine ⟨.int x, runFn_eq rfl ?_, .inr ⟨⟨x, rfl⟩, hk⟩⟩
    show (body_first_late [.val (.lst (J.map dJ)), .val ED, .un, .un]).res = _
    generalize J.map dJ = JS at *
    simp -implicitDefEqProofs [body_first_late, e]
/-- the table of the ends as it lies in the cells: rows of their own, one list of them -/
structure Ends (L : Nat → List Int) (n : Nat) (J : List Jb) (ns : List Nat) (E : List (List D)) : Prop where
  len : E.map (·.length) = ns
  v : ∀ i j, J[i]? = some j → ∃ R v, E[j.a.toNat]? = some R ∧ R[j.b.toNat]? = some v ∧ EndV L n i v
theorem Ends.start {cap : Nat → Int} {J : List Jb} {L : Nat → List Int} {ns : List Nat} (S : Sch cap J L) (hJ : JOk J ns) : Ends L 0 J ns (ns.map fun n => List.replicate n D.non) := by
  refine ⟨?_, fun i j ej => ?_⟩
  · rw [List.map_map]
    conv => rhs; rw [← List.map_id ns]
    apply List.map_congr_left
    intro n _
    exact List.length_replicate
  · obtain ⟨x, y, n, h1, h2, h3, h4⟩ := hJ.at_ j (List.mem_of_getElem? ej)
    have hjj := hJ.j j (List.mem_of_getElem? ej)
    refine ⟨List.replicate n .non, .non, ?_, ?_, .inl ⟨rfl, ?_⟩⟩
    · rw [h1, Int.toNat_natCast, List.getElem?_map, h3]; rfl
    · rw [h2, Int.toNat_natCast, List.getElem?_replicate, if_pos h4]
    · rw [S.zero, gi_of (x := j.c) (by rw [List.getElem?_map, ej]; rfl)]
      omega
theorem Ends.ix {J : List Jb} {L : Nat → List Int} {n : Nat} {ns : List Nat} {E : List (List D)} (hJ : JOk J ns) (h : Ends L n J ns E) : ∀ i j, J[i]? = some j → ∃ R v, opIx (.lst (E.map .lst)) (.int j.a) = some R ∧ opIx R (.int j.b) = some v ∧ EndV L n i v := fun i j ej => by
  obtain ⟨R, v, h1, h2, h3⟩ := h.v i j ej
  obtain ⟨x, y, m, q1, q2, _, _⟩ := hJ.at_ j (List.mem_of_getElem? ej)
  rw [q1, Int.toNat_natCast] at h1
  rw [q2, Int.toNat_natCast] at h2
  exact ⟨.lst R, v, by rw [q1]; exact ix_lst' rfl (by rw [List.getElem?_map, h1]; rfl), by rw [q2]; exact ix_lst' rfl h2, h3⟩
end G88

namespace G88
open PySem PySem.Spec PyProof.Rows L2 Pu Edf
/-! ### the cells of run and run_ranked: what is left, the rows of the ends, the list of the rows -/
structure Tl (P : List Pu.Slot) (K : Nat) (C : List D) (E : List (List D)) : Prop where
  k : K = 1 + E.length
  left : P[0]? = some (.own C)
  ends : P[K]? = some (.own2 ((List.range E.length).map (· + 1)))
  row : ∀ x R, E[x]? = some R → P[x + 1]? = some (.own R)
theorem tl_new (C : List D) (E : List (List D)) : Tl (.own C :: (E.map Pu.Slot.own ++ [.own2 ((List.range E.length).map (· + 1))])) (1 + E.length) C E := by
  refine ⟨rfl, rfl, ?_, fun x R e => ?_⟩
  · rw [Nat.add_comm, List.getElem?_cons_succ, List.getElem?_append_right (by rw [List.length_map]; exact Nat.le_refl _), List.length_map, Nat.sub_self]; rfl
  · rw [List.getElem?_cons_succ, List.getElem?_append_left (by rw [List.length_map]; exact (List.getElem?_eq_some_iff.mp e).1), List.getElem?_map, e]; rfl
theorem Tl.setL {P : List Pu.Slot} {K : Nat} {C : List D} {E : List (List D)} (t : Tl P K C E) (C' : List D) : Tl (P.set 0 (.own C')) K C' E := by
  have hl : 0 < P.length := (List.getElem?_eq_some_iff.mp t.left).1
  have hk := t.k
  refine ⟨hk, by rw [List.getElem?_set_self hl], ?_, fun x R e => ?_⟩
  · rw [List.getElem?_set_ne (by omega)]; exact t.ends
  · rw [List.getElem?_set_ne (by omega)]; exact t.row x R e
theorem Tl.setR {P : List Pu.Slot} {K : Nat} {C : List D} {E : List (List D)} (t : Tl P K C E) {x : Nat} {R : List D} (e : E[x]? = some R) (R' : List D) : Tl (P.set (x + 1) (.own R')) K C (E.set x R') := by
  have hx := t.row x R e
  have hl : x + 1 < P.length := (List.getElem?_eq_some_iff.mp hx).1
  have hxe := (List.getElem?_eq_some_iff.mp e).1
  have hk := t.k
  refine ⟨by rw [List.length_set]; exact hk, by rw [List.getElem?_set_ne (by omega)]; exact t.left, ?_, fun y R2 e2 => ?_⟩
  · rw [List.getElem?_set_ne (by omega), List.length_set]; exact t.ends
  · rw [List.getElem?_set] at e2
    by_cases q : x = y
    · subst q
      rw [if_pos rfl, if_pos hxe] at e2
      cases e2
      rw [List.getElem?_set_self hl]
    · rw [if_neg q] at e2
      rw [List.getElem?_set_ne (by omega)]
      exact t.row y R2 e2
theorem Tl.at_ {P : List Pu.Slot} {K : Nat} {C : List D} {E : List (List D)} (t : Tl P K C E) {x : Nat} {R : List D} (e : E[x]? = some R) : atI ((List.range E.length).map (· + 1)) (x : Int) = some (x + 1) := by
  have hxe := (List.getElem?_eq_some_iff.mp e).1
  rw [atI_nat (by rw [List.length_map, List.length_range]; exact hxe), List.getElem?_map, List.getElem?_range hxe]; rfl
theorem Tl.all {P pre : List Pu.Slot} {K n : Nat} {C : List D} {E : List (List D)} (t : Tl P K C E) (hn : pre.length = n) : allOwn n (pre ++ P) ((List.range E.length).map (· + 1)) = some E := by
  have h : ∀ m, m ≤ E.length → allOwn n (pre ++ P) (((List.range E.length).map (· + 1)).drop (E.length - m)) = some (E.drop (E.length - m)) := by
    intro m
    induction m with
    | zero =>
      intro _
      rw [Nat.sub_zero, List.drop_of_length_le (by rw [List.length_map, List.length_range]; exact Nat.le_refl _), List.drop_of_length_le (Nat.le_refl _)]; rfl
    | succ m ih =>
      intro hm
      have ih := ih (by omega)
      have hlt : E.length - (m + 1) < E.length := by omega
      have e1 : E.length - (m + 1) + 1 = E.length - m := by omega
      rw [List.drop_eq_getElem_cons (by rw [List.length_map, List.length_range]; exact hlt), List.drop_eq_getElem_cons hlt, e1, List.getElem_map, List.getElem_range]
      show (match (pre ++ P)[E.length - (m + 1) + 1 + n]? with | some (.own ds) => (allOwn n (pre ++ P) _).map (ds :: ·) | _ => none) = _
      rw [List.getElem?_append_right (by omega), hn, Nat.add_sub_cancel, t.row _ _ (List.getElem?_eq_getElem hlt)]
      show (allOwn n (pre ++ P) _).map _ = _
      rw [ih]; rfl
  have := h E.length (Nat.le_refl _)
  rwa [Nat.sub_self, List.drop_zero, List.drop_zero] at this
theorem lRep_of {a b : Ev} {ρ : PEnv} {ds : List D} {m : Nat} (ha : a ρ = .ok (.lst ds)) (hb : b ρ = .ok (.int (m : Int))) (h : ds.length * m ≤ 900) (hm : m ≤ 1000) : lRep a b ρ = .ok (List.replicate m ds).flatten := by
  have hc : ((decide (-1000000 ≤ (m : Int)) && decide ((m : Int) ≤ 1000000)) && decide (ds.length * (m : Int).toNat ≤ 1000000)) = true := by
    rw [Bool.and_eq_true, Bool.and_eq_true, decide_eq_true_eq, decide_eq_true_eq, decide_eq_true_eq]
    refine ⟨⟨by omega, by omega⟩, ?_⟩
    rw [Int.toNat_natCast]
    omega
  unfold lRep
  rw [ha, hb]
  show (if ((decide (-1000000 ≤ (m : Int)) && decide ((m : Int) ≤ 1000000)) && decide (ds.length * (m : Int).toNat ≤ 1000000)) = true then Res.ok (List.replicate (m : Int).toNat ds).flatten else .stuck) = _
  rw [if_pos hc, Int.toNat_natCast]
/-- [[None] * len(row) for row in releases] -/
theorem nonRows {pre : List Pu.Slot} {i n : Nat} (ps : List Pt) (hr : ∀ p ∈ ps, p.rs.length ≤ 4) (hg : ∀ p ∈ ps, ∃ ρ1, gN i (dRs p) (wipeR pre [i]) = some ρ1 ∧ ρ1[i]? = some (.val (dRs p))) :
    lcGoN (gN i) tYes' (lRep (eL (aC (eC .non) aN)) (eF fLen (aC (eN i) aN))) (wipeR pre [i]) (ps.map dRs) = .ok (ps.map fun p => List.replicate p.rs.length D.non) := by
  generalize wipeR pre [i] = ρ at *
  induction ps with
  | nil => rfl
  | cons p ps ih =>
    obtain ⟨ρ1, e1, e2⟩ := hg p List.mem_cons_self
    have hl := hr p List.mem_cons_self
    have ih := ih (fun q hq => hr q (List.mem_cons_of_mem _ hq)) fun q hq => hg q (List.mem_cons_of_mem _ hq)
    have hrep : lRep (eL (aC (eC .non) aN)) (eF fLen (aC (eN i) aN)) ρ1 = .ok (List.replicate p.rs.length D.non) := by
      have h1 : eF fLen (aC (eN i) aN) ρ1 = .ok (.int (p.rs.length : Int)) := by
        rw [eF_ap, aC_ap, eN_ap, e2]
        simp
      rw [lRep_of (ds := [.non]) (m := p.rs.length) rfl h1 (by rw [List.length_singleton]; omega) (by omega)]
      congr 1
      generalize p.rs.length = m
      induction m with
      | zero => rfl
      | succ m ih => rw [List.replicate_succ, List.flatten_cons, ih, List.replicate_succ]; rfl
    show (match gN i (dRs p) ρ with
    | none => Res.stuck
    | some ρ1 => (tYes' ρ1).nx.bind fun b => if b = true then ((lRep (eL (aC (eC .non) aN)) (eF fLen (aC (eN i) aN))) ρ1).nx.bind fun y => (lcGoN (gN i) tYes' (lRep (eL (aC (eC .non) aN)) (eF fLen (aC (eN i) aN))) ρ (ps.map dRs)).bind fun ys => .ok (y :: ys) else lcGoN (gN i) tYes' (lRep (eL (aC (eC .non) aN)) (eF fLen (aC (eN i) aN))) ρ (ps.map dRs)) = _
    rw [e1]
    simp only [hrep, ih]
    rfl
end G88

namespace G88
open PySem PySem.Spec PyProof.Rows L2 Pu Edf
/-! ### run -/
/-- .. job i looked at f i slots on -/
structure EndsF (L : Nat → List Int) (f : Nat → Nat) (J : List Jb) (ns : List Nat) (E : List (List D)) : Prop where
  len : E.map (·.length) = ns
  v : ∀ (i : Nat) (j : Jb), J[i]? = some j → ∃ (x y : Nat) (R : List D) (v : D), j.a = x ∧ j.b = y ∧ E[x]? = some R ∧ R[y]? = some v ∧ EndV L (f i) i v
theorem Ends.toF {J : List Jb} {L : Nat → List Int} {n : Nat} {ns : List Nat} {E : List (List D)} (hJ : JOk J ns) (h : Ends L n J ns E) : EndsF L (fun _ => n) J ns E := ⟨h.len, fun i j ej => by
  obtain ⟨R, v, h1, h2, h3⟩ := h.v i j ej
  obtain ⟨x, y, m, q1, q2, _, _⟩ := hJ.at_ j (List.mem_of_getElem? ej)
  rw [q1, Int.toNat_natCast] at h1
  rw [q2, Int.toNat_natCast] at h2
  exact ⟨x, y, R, v, q1, q2, h1, h2, h3⟩⟩
theorem EndsF.to {J : List Jb} {L : Nat → List Int} {f : Nat → Nat} {n : Nat} {ns : List Nat} {E : List (List D)} (h : EndsF L f J ns E) (hf : ∀ i, i < J.length → f i = n) : Ends L n J ns E := ⟨h.len, fun i j ej => by
  obtain ⟨x, y, R, v, q1, q2, h1, h2, h3⟩ := h.v i j ej
  rw [hf i (List.getElem?_eq_some_iff.mp ej).1] at h3
  exact ⟨R, v, by rw [q1, Int.toNat_natCast]; exact h1, by rw [q2, Int.toNat_natCast]; exact h2, h3⟩⟩
theorem EndsF.up {J : List Jb} {L : Nat → List Int} {f : Nat → Nat} {ns : List Nat} {E : List (List D)} (h : EndsF L f J ns E) {k x y m : Nat} {j : Jb} {R : List D} {v : D} (ek : J[k]? = some j) (q1 : j.a = x) (q2 : j.b = y) (h1 : E[x]? = some R) (h2 : R[y]? = some v) (h3 : EndV L m k v) :
    EndsF L (fun q => if q = k then m else f q) J ns E := ⟨h.len, fun i j' ei => by
  by_cases q : i = k
  · subst q
    rw [ek] at ei; cases ei
    exact ⟨x, y, R, v, q1, q2, h1, h2, by rw [if_pos rfl]; exact h3⟩
  · obtain ⟨x', y', R', v', a1, a2, a3, a4, a5⟩ := h.v i j' ei
    exact ⟨x', y', R', v', a1, a2, a3, a4, by rw [if_neg q]; exact a5⟩⟩
theorem EndsF.set {J : List Jb} {L : Nat → List Int} {f : Nat → Nat} {ns : List Nat} {E : List (List D)} (hJ : JOk J ns) (h : EndsF L f J ns E) {k x y m : Nat} {j : Jb} {R : List D} {v : D} (ek : J[k]? = some j) (q1 : j.a = x) (q2 : j.b = y) (h1 : E[x]? = some R) (h2 : y < R.length) (h3 : EndV L m k v) :
    EndsF L (fun q => if q = k then m else f q) J ns (E.set x (R.set y v)) := by
  have hx := (List.getElem?_eq_some_iff.mp h1).1
  refine ⟨?_, fun i j' ei => ?_⟩
  · rw [← h.len]
    apply List.ext_getElem?
    intro z
    rw [List.getElem?_map, List.getElem?_map, List.getElem?_set]
    by_cases q : x = z
    · subst q
      rw [if_pos rfl, if_pos hx, h1]
      simp
    · rw [if_neg q]
  · by_cases q : i = k
    · subst q
      rw [ek] at ei; cases ei
      exact ⟨x, y, R.set y v, v, q1, q2, by rw [List.getElem?_set, if_pos rfl, if_pos hx], by rw [List.getElem?_set, if_pos rfl, if_pos h2], by rw [if_pos rfl]; exact h3⟩
    · obtain ⟨x', y', R', v', a1, a2, a3, a4, a5⟩ := h.v i j' ei
      have hne : ¬ (x' = x ∧ y' = y) := fun z => by
        have hi := (List.getElem?_eq_some_iff.mp ei).1
        have hk : (J.map fun j => (j.a, j.b))[i]? = (J.map fun j => (j.a, j.b))[k]? := by
          rw [List.getElem?_map, List.getElem?_map, ei, ek, Option.map_some, Option.map_some, a1, a2, q1, q2, z.1, z.2]
        exact q ((List.getElem?_inj (by rw [List.length_map]; exact hi) hJ.nd).mp hk)
      by_cases p : x = x'
      · subst p
        rw [h1] at a3; cases a3
        exact ⟨x, y', R.set y v, v', a1, a2, by rw [List.getElem?_set, if_pos rfl, if_pos hx], by rw [List.getElem?_set_ne (fun z => hne ⟨rfl, z.symm⟩)]; exact a4, by rw [if_neg q]; exact a5⟩
      · exact ⟨x', y', R', v', a1, a2, by rw [List.getElem?_set_ne p]; exact a3, a4, by rw [if_neg q]; exact a5⟩
theorem step_fun {k n : Nat} : (fun q => if q = k then n + 1 else (if q < k then n + 1 else n)) = fun q => if q < k + 1 then n + 1 else n := by
  funext q
  by_cases h : q = k
  · subst h; rw [if_pos rfl, if_pos (by omega)]
  · rw [if_neg h]
    by_cases h2 : q < k
    · rw [if_pos h2, if_pos (by omega)]
    · rw [if_neg h2, if_neg (by omega)]
/-- one slot's ends -/
theorem ends_loop {cp : Nat → Int} {J : List Jb} {L : Nat → List Int} {ns : List Nat} (S : Sch cp J L) (hJ : JOk J ns) {n K : Nat} (a b sl : Pu.Slot) {C : List D} (hC : C = (L (n + 1)).map D.int) {E : List (List D)} {P : List Pu.Slot} (t : Tl P K C E) (hE : Ends L n J ns E) (x7 x8 x9 : Pu.Slot) :
    ∃ (P' : List Pu.Slot) (E' : List (List D)) (y7 y8 : Pu.Slot), forS (gT [7, 8]) (sIf (tAnd' (tV (e2 opEq (e2 opIx (eCell 10 (pvN 3)) (eN 7)) (eC (.int 0)))) (tV (e2 opIsN (e2 opIx (eCell 10 (pvIx 10 (pvN 4) (e2 opIx (eN 8) (eC (.int 2))))) (e2 opIx (eN 8) (eC (.int 3)))) (eC .non)))) (sPutC 10 (pvIx 10 (pvN 4) (e2 opIx (eN 8) (eC (.int 2)))) (e2 opIx (eN 8) (eC (.int 3))) (e2 opAdd (eN 6) (eC (.int 1)))) sNil) (prs 0 (J.map dJ))
      (a :: b :: .val (.lst (J.map dJ)) :: .al 0 :: .al K :: sl :: .val (.int n) :: x7 :: x8 :: x9 :: P) = .nx (a :: b :: .val (.lst (J.map dJ)) :: .al 0 :: .al K :: sl :: .val (.int n) :: y7 :: y8 :: x9 :: P') ∧ Tl P' K C E' ∧ Ends L (n + 1) J ns E' := by
  obtain ⟨ρ', e, P', E', y7, y8, rfl, t', hE'⟩ := forS_thru (g := gT [7, 8]) (body := sIf (tAnd' (tV (e2 opEq (e2 opIx (eCell 10 (pvN 3)) (eN 7)) (eC (.int 0)))) (tV (e2 opIsN (e2 opIx (eCell 10 (pvIx 10 (pvN 4) (e2 opIx (eN 8) (eC (.int 2))))) (e2 opIx (eN 8) (eC (.int 3)))) (eC .non)))) (sPutC 10 (pvIx 10 (pvN 4) (e2 opIx (eN 8) (eC (.int 2)))) (e2 opIx (eN 8) (eC (.int 3))) (e2 opAdd (eN 6) (eC (.int 1)))) sNil) (prs 0 (J.map dJ))
    (fun k ρ => ∃ (P' : List Pu.Slot) (E' : List (List D)) (y7 y8 : Pu.Slot), ρ = a :: b :: .val (.lst (J.map dJ)) :: .al 0 :: .al K :: sl :: .val (.int n) :: y7 :: y8 :: x9 :: P' ∧ Tl P' K C E' ∧ EndsF L (fun q => if q < k then n + 1 else n) J ns E')
    (a :: b :: .val (.lst (J.map dJ)) :: .al 0 :: .al K :: sl :: .val (.int n) :: x7 :: x8 :: x9 :: P) ⟨P, E, x7, x8, rfl, t, by have := hE.toF hJ; simpa using this⟩ (fun k d ρ e hi => by
      obtain ⟨P', E', y7, y8, rfl, t', hE'⟩ := hi
      obtain ⟨z, e1, rfl⟩ := prs_map _ _ _ _ e
      rw [List.getElem?_map] at e1
      obtain ⟨j, ej, rfl⟩ := Option.map_eq_some_iff.mp e1
      have hk := (List.getElem?_eq_some_iff.mp ej).1
      obtain ⟨x, y, R, v, q1, q2, h1, h2, h3⟩ := hE'.v k j ej
      rw [if_neg (Nat.lt_irrefl k)] at h3
      have hkL : k < (L (n + 1)).length := by rw [S.len]; exact hk
      have iC : opIx (.lst C) (.int (k : Int)) = some (.int (gi (L (n + 1)) k)) := ix_lst' rfl (by rw [hC, List.getElem?_map, gi_get hkL]; rfl)
      have hnn := S.nn (n + 1) k
      have hmono := S.mono n k
      have hat : atI ((List.range E'.length).map (· + 1)) j.a = some (x + 1) := by rw [q1]; exact t'.at_ h1
      have iR : opIx (.lst R) (.int j.b) = some v := by rw [q2]; exact ix_lst' rfl h2
      have hrow := t'.row x R h1
      have hy := (List.getElem?_eq_some_iff.mp h2).1
      have hput : ∀ (a0 a1 a2 a3 a4 a5 a6 a7 a8 a9 : Pu.Slot), putAt (x + 1 + 10) (a0 :: a1 :: a2 :: a3 :: a4 :: a5 :: a6 :: a7 :: a8 :: a9 :: P') R (.int ((n : Int) + 1)) (.int j.b) = .nx (a0 :: a1 :: a2 :: a3 :: a4 :: a5 :: a6 :: a7 :: a8 :: a9 :: P'.set (x + 1) (.own (R.set y (.int ((n : Int) + 1))))) := fun a0 a1 a2 a3 a4 a5 a6 a7 a8 a9 => by
        rw [putAt_of (n := y) q2 hy]; rfl
      refine ⟨a :: b :: .val (.lst (J.map dJ)) :: .al 0 :: .al K :: sl :: .val (.int n) :: .val (.int k) :: .val (dJ j) :: x9 :: P', ?_⟩
      have hL := t'.left
      have hK := t'.ends
      by_cases c0 : gi (L (n + 1)) k = 0
      · rcases h3 with ⟨rfl, h3⟩ | ⟨ee, rfl, h4, h5, h6⟩
        · have hv : EndV L (n + 1) k (.int ((n : Int) + 1)) := .inr ⟨n + 1, by congr 1, Nat.le_refl _, c0, fun e' he' z => h3 (by
            have a1 := S.le (a := e') (b := n) (by omega) k
            have a2 := S.nn n k
            omega)⟩
          refine ⟨a :: b :: .val (.lst (J.map dJ)) :: .al 0 :: .al K :: sl :: .val (.int n) :: .val (.int k) :: .val (dJ j) :: x9 :: P'.set (x + 1) (.own (R.set y (.int ((n : Int) + 1)))), by rw [Nat.zero_add]; rfl, .inl ?_, _, _, _, _, rfl, t'.setR h1 _, by rw [← step_fun]; exact hE'.set hJ ej q1 q2 h1 hy hv⟩
          generalize P'.set (x + 1) (.own (R.set y (.int ((n : Int) + 1)))) = P2 at *
          generalize (List.range E'.length).map (· + 1) = ks at *
          generalize x + 1 = X at *
          generalize J.map dJ = JS at *
          unfold dJ
          simp -implicitDefEqProofs [hL, iC, c0, hK, hat, hrow, iR, hput]
        · refine ⟨a :: b :: .val (.lst (J.map dJ)) :: .al 0 :: .al K :: sl :: .val (.int n) :: .val (.int k) :: .val (dJ j) :: x9 :: P', by rw [Nat.zero_add]; rfl, .inl ?_, _, _, _, _, rfl, t', by rw [← step_fun]; exact hE'.up ej q1 q2 h1 h2 (.inr ⟨ee, rfl, by omega, h5, h6⟩)⟩
          generalize (List.range E'.length).map (· + 1) = ks at *
          generalize x + 1 = X at *
          generalize J.map dJ = JS at *
          unfold dJ
          simp -implicitDefEqProofs [hL, iC, c0, hK, hat, hrow, iR]
      · have hv : EndV L (n + 1) k v := by
          rcases h3 with ⟨rfl, h3⟩ | ⟨ee, rfl, h4, h5, h6⟩
          · exact .inl ⟨rfl, c0⟩
          · have a1 := S.le (a := ee) (b := n + 1) (by omega) k
            omega
        refine ⟨a :: b :: .val (.lst (J.map dJ)) :: .al 0 :: .al K :: sl :: .val (.int n) :: .val (.int k) :: .val (dJ j) :: x9 :: P', by rw [Nat.zero_add]; rfl, .inl ?_, _, _, _, _, rfl, t', by rw [← step_fun]; exact hE'.up ej q1 q2 h1 h2 hv⟩
        generalize J.map dJ = JS at *
        unfold dJ
        simp -implicitDefEqProofs [hL, iC, c0])
  rw [prs_len, List.length_map] at hE'
  exact ⟨P', E', y7, y8, e, t', hE'.to fun i hi => if_pos hi⟩
end G88

namespace G88
open PySem PySem.Spec PyProof.Rows L2 Pu Edf
theorem small9000 {n : Nat} (h : n ≤ 9000) : n ≤ sizeLine := by rw [sizeLine_eq]; omega
abbrev dOut (a b d : D) : D := .obj 0 [("slots", a), ("ends", b), ("late", d)]
theorem putD_out (a b d : D) : putD ("late" : Str) d (putD ("ends" : Str) b (putD ("slots" : Str) a [])) = [(("slots" : Str), a), (("ends" : Str), b), (("late" : Str), d)] := by
  have h1 : ¬ (("slots" : Str) = ("ends" : Str)) := by decide +kernel
  have h2 : ¬ (("slots" : Str) = ("late" : Str)) := by decide +kernel
  have h3 : ¬ (("ends" : Str) = ("late" : Str)) := by decide +kernel
  show putD ("late" : Str) d (putD ("ends" : Str) b [(("slots" : Str), a)]) = _
  rw [putD_ne h1]
  show putD ("late" : Str) d [(("slots" : Str), a), (("ends" : Str), b)] = _
  rw [putD_ne h2, putD_ne h3]
  rfl
theorem f_outcome {R E : List (List D)} {d : D} (hR : R.length ≤ 9000) (hR2 : ∀ r ∈ R, r.length ≤ 900) (hE : E.length ≤ 900) (hE2 : ∀ r ∈ E, r.length ≤ 900) :
    Fn_Outcome_init [.lst (R.map .lst), .lst (E.map .lst), d] = .ok [("slots", .lst (R.map .lst)), ("ends", .lst (E.map .lst)), ("late", d)] := by
  have key : ∀ (X : List (List D)) (ρ : PEnv) (ρ1 : List D → PEnv), (∀ r ∈ X, r.length ≤ 900) → (∀ r, gN 4 (.lst r) ρ = some (ρ1 r)) → (∀ r, (ρ1 r)[4]? = some (.val (.lst r))) → lcGo (gN 4) tYes' (eL (lList (aC (eN 4) aN))) ρ (X.map .lst) = .ok (X.map .lst) := fun X ρ ρ1 h1 h2 h3 =>
    lcGo_map (δ := D.lst) D.lst X (fun r hr => ⟨_, h2 r, by
      have hz : r.length ≤ sizeLine := Nat.le_of_lt (small1000 (by have := h1 r hr; omega))
      have h4 := h3 r
      simp -implicitDefEqProofs [h4, hz]⟩)
  have k1 : ∀ a b c d', lcGo (gN 4) tYes' (eL (lList (aC (eN 4) aN))) [a, b, c, d', .un] (R.map .lst) = .ok (R.map .lst) := fun a b c d' => key R _ (fun r => [a, b, c, d', .val (.lst r)]) hR2 (fun r => rfl) fun r => rfl
  have k2 : ∀ a b c d', lcGo (gN 4) tYes' (eL (lList (aC (eN 4) aN))) [a, b, c, d', .un] (E.map .lst) = .ok (E.map .lst) := fun a b c d' => key E _ (fun r => [a, b, c, d', .val (.lst r)]) hE2 (fun r => rfl) fun r => rfl
  have z1 : (R.map D.lst).length ≤ sizeLine := by rw [List.length_map]; exact small9000 hR
  have z2 : (E.map D.lst).length ≤ sizeLine := by rw [List.length_map]; exact small9000 (by omega)
  rw [← putD_out]
  have p1 : (putD "slots" (.lst (R.map .lst)) []).length < 1000 := by have h := putD_len "slots" (.lst (R.map .lst)) []; have e : ([] : List (Str × D)).length = 0 := rfl; omega
  have p2 : (putD "ends" (.lst (E.map .lst)) (putD "slots" (.lst (R.map .lst)) [])).length < 1000 := by
    have h := putD_len "slots" (.lst (R.map .lst)) []
    have h2 := putD_len "ends" (.lst (E.map .lst)) (putD "slots" (.lst (R.map .lst)) [])
    have e : ([] : List (Str × D)).length = 0 := rfl
    omega
  show runIn 0 4 5 body_Outcome_init _ = _
  unfold runIn
  rw [if_pos (show ([D.lst (R.map .lst), .lst (E.map .lst), d] : List D).length + 1 = 4 from rfl)]
  show (body_Outcome_init [.ob 0 [], .val (.lst (R.map .lst)), .val (.lst (E.map .lst)), .val d, .un]).init 0 = _
  generalize hg1 : putD "slots" (.lst (R.map .lst)) [] = g1 at *
  generalize hg2 : putD "ends" (.lst (E.map .lst)) g1 = g2 at *
  generalize hg3 : putD "late" d g2 = g3 at *
  generalize R.map D.lst = RR at *
  generalize E.map D.lst = EE at *
  simp -implicitDefEqProofs [body_Outcome_init, k1, k2, z1, z2, hg1, p1, hg2, p2, hg3, Out.init, Slot.fsOf]
@[simp] theorem sFrzC_ap (n i : Nat) (s : Sv) (ρ : PEnv) : sFrzC n i s ρ = s (frzC n i ρ) := rfl
theorem Cs_lf (cp : Nat → Int) (J : List Jb) (n : Nat) : Cs (st cp J n) = (lf cp J n).map D.int := by
  unfold Cs lf
  rw [List.map_map]; rfl
theorem f_run {ps : List Pt} {T : List Int} (W : Wd ps) (h : Tab T) : ∃ a b d : D, Fn_run [dSys ps T, .lst (ps.map dRs)] = .ok (dOut a b d) ∧ ((d = .non ∧ Kept (JJ ps) (lf (cap T) (JJ ps))) ∨ (∃ x, d = .int x) ∧ ¬ Kept (JJ ps) (lf (cap T) (JJ ps))) := by
  have hJ := JJ_ok W
  have l3 := W.l3
  have hcap : ∀ n, 0 ≤ cap T n := fun n => (cap_nn h n).1
  have hc0 : ∀ j ∈ JJ ps, 0 ≤ j.c := fun j hj => by have := hJ.j j hj; omega
  have S := st_sch hcap hc0
  obtain ⟨N, n1, n2, n3⟩ := f_lastdue (T := T) W
  have c1 := f_check (T := T) W
  have c2 := f_alljobs (T := T) W
  generalize hJJ : JJ ps = J at *
  have hl := hJ.len
  -- the cells
  obtain ⟨E0, hE0⟩ : ∃ E0, (ps.map fun p => List.replicate p.rs.length D.non) = E0 := ⟨_, rfl⟩
  have hE0l : E0.length = ps.length := by rw [← hE0, List.length_map]
  have hEnds0 : Ends (lf (cap T) J) 0 J (ps.map fun p => p.rs.length) E0 := by
    have := Ends.start S hJ
    rw [List.map_map] at this
    rw [← hE0]; exact this
  have e3 : sNewC 10 3 (lLc (iS (eN 2)) (gN 8) [8] tYes' (e2 opIx (eN 8) (eC (.int 4)))) [.val (dSys ps T), .val (.lst (ps.map dRs)), .val (.lst (J.map dJ)), .un, .un, .un, .un, .un, .un, .un] = .nx [.val (dSys ps T), .val (.lst (ps.map dRs)), .val (.lst (J.map dJ)), .al 0, .un, .un, .un, .un, .un, .un, .own (Cs J)] := by
    have key := lcGo_map (g := gN 8) (ev := e2 opIx (eN 8) (eC (.int 4))) (ρ := [.val (dSys ps T), .val (.lst (ps.map dRs)), .val (.lst (J.map dJ)), .un, .un, .un, .un, .un, .un, .un]) (δ := dJ) (fun j => D.int j.c) J (fun j _ => ⟨_, rfl, by
      unfold dJ
      simp -implicitDefEqProofs []⟩)
    have hz : (J.map dJ).length ≤ sizeLine := by rw [List.length_map]; exact small9000 (by omega)
    have hlc : lLc (iS (eN 2)) (gN 8) [8] tYes' (e2 opIx (eN 8) (eC (.int 4))) [.val (dSys ps T), .val (.lst (ps.map dRs)), .val (.lst (J.map dJ)), .un, .un, .un, .un, .un, .un, .un] = .ok (Cs J) := by
      show (if (J.map dJ).length ≤ sizeLine then lcGo (gN 8) tYes' _ _ (J.map dJ) else .stuck) = _
      rw [if_pos hz]; exact key
    unfold sNewC
    rw [hlc]; rfl
  have e4 : sNewCC 10 4 (nLc (iS (eN 1)) (gN 9) [9] tYes' (lRep (eL (aC (eC .non) aN)) (eF fLen (aC (eN 9) aN)))) [.val (dSys ps T), .val (.lst (ps.map dRs)), .val (.lst (J.map dJ)), .al 0, .un, .un, .un, .un, .un, .un, .own (Cs J)] = .nx (.val (dSys ps T) :: .val (.lst (ps.map dRs)) :: .val (.lst (J.map dJ)) :: .al 0 :: .al (1 + E0.length) :: .un :: .un :: .un :: .un :: .un :: (.own (Cs J) :: (E0.map Pu.Slot.own ++ [.own2 ((List.range E0.length).map (· + 1))]))) := by
    have key := nonRows (i := 9) (n := 0) (pre := [.val (dSys ps T), .val (.lst (ps.map dRs)), .val (.lst (J.map dJ)), .al 0, .un, .un, .un, .un, .un, .un, .own (Cs J)]) ps (fun p hp => (W.ok p hp).c.len) (fun p hp => ⟨_, rfl, rfl⟩)
    have hz : (ps.map dRs).length ≤ sizeLine := by rw [List.length_map]; exact small9000 (by omega)
    have hlc : nLc (iS (eN 1)) (gN 9) [9] tYes' (lRep (eL (aC (eC .non) aN)) (eF fLen (aC (eN 9) aN))) [.val (dSys ps T), .val (.lst (ps.map dRs)), .val (.lst (J.map dJ)), .al 0, .un, .un, .un, .un, .un, .un, .own (Cs J)] = .ok E0 := by
      show (if (ps.map dRs).length ≤ sizeLine then lcGoN (gN 9) tYes' _ _ (ps.map dRs) else .stuck) = _
      rw [if_pos hz, ← hE0]; exact key
    unfold sNewCC
    rw [hlc]; rfl
  -- slot by slot
  obtain ⟨ρ', e, R, P, E, x6, x7, x8, x9, rfl, hR, hR2, t, hE⟩ := forS_thru (g := gN 6) (body := sSeq (sAppX 5 (xCall 10 Fn_serve (axV (eN 2) (axC (pvN 3) (axV (eN 6) (axV (eCall Fn_capacity (aC (e1 (fld 2 "table") (eN 0)) (aC (eN 6) aN))) axN))))))
    (sFor (iE (aC (eN 2) aN)) (gT [7, 8]) (sIf (tAnd' (tV (e2 opEq (e2 opIx (eCell 10 (pvN 3)) (eN 7)) (eC (.int 0)))) (tV (e2 opIsN (e2 opIx (eCell 10 (pvIx 10 (pvN 4) (e2 opIx (eN 8) (eC (.int 2))))) (e2 opIx (eN 8) (eC (.int 3)))) (eC .non)))) (sPutC 10 (pvIx 10 (pvN 4) (e2 opIx (eN 8) (eC (.int 2)))) (e2 opIx (eN 8) (eC (.int 3))) (e2 opAdd (eN 6) (eC (.int 1)))) sNil))) (rgD 0 (N : Int))
    (fun i ρ => ∃ (R : List (List D)) (P : List Pu.Slot) (E : List (List D)) (x6 x7 x8 x9 : Pu.Slot), ρ = .val (dSys ps T) :: .val (.lst (ps.map dRs)) :: .val (.lst (J.map dJ)) :: .al 0 :: .al (1 + E0.length) :: .own (R.map .lst) :: x6 :: x7 :: x8 :: x9 :: P ∧ R.length = i ∧ (∀ r ∈ R, r.length ≤ 12) ∧ Tl P (1 + E0.length) (Cs (st (cap T) J i)) E ∧ Ends (lf (cap T) J) i J (ps.map fun p => p.rs.length) E)
    (.val (dSys ps T) :: .val (.lst (ps.map dRs)) :: .val (.lst (J.map dJ)) :: .al 0 :: .al (1 + E0.length) :: .own [] :: .un :: .un :: .un :: .un :: (.own (Cs J) :: (E0.map Pu.Slot.own ++ [.own2 ((List.range E0.length).map (· + 1))])))
    ⟨[], _, E0, _, _, _, _, rfl, rfl, fun r hr => by (cases hr), tl_new _ _, hEnds0⟩ (fun i d ρ e hi => by
      obtain ⟨R, P, E, x6, x7, x8, x9, rfl, hR, hR2, t, hE⟩ := hi
      obtain ⟨rfl, hil⟩ := rg0_some e
      have k1 := f_capacity h i
      obtain ⟨row, hrow, k2⟩ := f_serve (J := J) (st_fr (cap T) J i) (st_nn hcap hc0 i) (hcap i) t.left hl i
      have t2 := t.setL (Cs (svJ (i : Nat) (cap T i) (st (cap T) J i)))
      obtain ⟨P', E', y7, y8, k3, t3, hE3⟩ := ends_loop S hJ (.val (dSys ps T)) (.val (.lst (ps.map dRs))) (.own (R.map .lst ++ [.lst row])) (Cs_lf (cap T) J (i + 1)) t2 hE x7 x8 x9
      have hf := fld_table ps T
      have hsz : (R.map D.lst).length < sizeLine := by rw [List.length_map, sizeLine_eq]; omega
      have hEE : asE [.lst (J.map dJ)] = .ok (prs 0 (J.map dJ)) := rfl
      refine ⟨_, .val (dSys ps T) :: .val (.lst (ps.map dRs)) :: .val (.lst (J.map dJ)) :: .al 0 :: .al (1 + E0.length) :: .own ((R ++ [row]).map .lst) :: .val (.int i) :: y7 :: y8 :: x9 :: P', rfl, .inl ?_, _, _, _, _, _, _, _, rfl, by rw [List.length_append, hR]; rfl, fun r hr => ?_, t3, hE3⟩
      · rw [List.map_append, List.map_singleton]
        generalize P.set 0 (.own (Cs (svJ (i : Nat) (cap T i) (st (cap T) J i)))) = P2 at *
        generalize prs 0 (J.map dJ) = PR at *
        generalize J.map dJ = JS at *
        generalize R.map D.lst = RR at *
        generalize ps.map dRs = RS at *
        generalize dSys ps T = SS at *
        generalize T.map D.int = TT at *
        generalize 1 + E0.length = K at *
        simp -implicitDefEqProofs [hf, k1, k2, hsz, hEE, k3]
      · rcases List.mem_append.mp hr with hr | hr
        · exact hR2 r hr
        · rw [List.mem_singleton.mp hr]; exact hrow)
  rw [rgD_length] at hR t hE
  have hNN : ((N : Int) - 0).toNat = N := by omega
  rw [hNN] at hR t hE
  obtain ⟨d, k4, hd⟩ := f_late S hJ (N := N) n3 (hE.ix hJ)
  have hfz : frzC 10 4 (.val (dSys ps T) :: .val (.lst (ps.map dRs)) :: .val (.lst (J.map dJ)) :: .al 0 :: .al (1 + E0.length) :: .own (R.map .lst) :: x6 :: x7 :: x8 :: x9 :: P) = [.val (dSys ps T), .val (.lst (ps.map dRs)), .val (.lst (J.map dJ)), .un, .val (.lst (E.map .lst)), .own (R.map .lst), x6.noCell, x7.noCell, x8.noCell, x9.noCell] := by
    have ha := t.all (pre := [.val (dSys ps T), .val (.lst (ps.map dRs)), .val (.lst (J.map dJ)), .al 0, .al (1 + E0.length), .own (R.map .lst), x6, x7, x8, x9]) (n := 10) rfl
    have he : (.val (dSys ps T) :: .val (.lst (ps.map dRs)) :: .val (.lst (J.map dJ)) :: .al 0 :: .al (1 + E0.length) :: .own (R.map .lst) :: x6 :: x7 :: x8 :: x9 :: P : List Pu.Slot)[1 + E0.length + 10]? = some (.own2 ((List.range E.length).map (· + 1))) := t.ends
    unfold frzC
    show (match (_ : List Pu.Slot)[1 + E0.length + 10]? with | some (.own2 ks) => _ | _ => _) = _
    rw [he]
    show (match allOwn 10 _ ((List.range E.length).map (· + 1)) with | some dss => _ | none => _) = _
    have ha' : allOwn 10 (.val (dSys ps T) :: .val (.lst (ps.map dRs)) :: .val (.lst (J.map dJ)) :: .al 0 :: .al (1 + E0.length) :: .own (R.map .lst) :: x6 :: x7 :: x8 :: x9 :: P) ((List.range E.length).map (· + 1)) = some E := ha
    rw [ha']
    rfl
  have hElen : E.length = ps.length := by have := congrArg List.length hE.len; rwa [List.length_map, List.length_map] at this
  have k5 := f_outcome (R := R) (E := E) (d := d) (by omega) (fun r hr => by have := hR2 r hr; omega) (by omega) (fun r hr => by
    have : r.length ∈ E.map (·.length) := List.mem_map_of_mem hr
    rw [hE.len] at this
    obtain ⟨p, hp, e⟩ := List.mem_map.mp this
    have := (W.ok p hp).c.len
    omega)
  refine ⟨.lst (R.map .lst), .lst (E.map .lst), d, runFn_eq rfl ?_, hd⟩
  have hr := asR1_of (N : Int) (by omega) (by omega)
  show (body_run [.val (dSys ps T), .val (.lst (ps.map dRs)), .un, .un, .un, .un, .un, .un, .un, .un]).res = .ok (.obj 0 [("slots", .lst (R.map .lst)), ("ends", .lst (E.map .lst)), ("late", d)])
  generalize ([(("slots" : Str), D.lst (R.map .lst)), ("ends", .lst (E.map .lst)), ("late", d)] : List (Str × D)) = FS at *
  generalize ((Pu.Slot.own (Cs J) :: (E0.map Pu.Slot.own ++ [.own2 ((List.range E0.length).map (· + 1))])) : List Pu.Slot) = P0 at *
  generalize rgD 0 (N : Int) = RG at *
  generalize 1 + E0.length = K at *
  generalize J.map dJ = JS at *
  generalize R.map D.lst = RR at *
  generalize E.map D.lst = EE at *
  generalize ps.map dRs = RS at *
  generalize dSys ps T = SS at *
  simp -implicitDefEqProofs [body_run, c1, c2, e3, e4, n1, hr, e, hfz, k4, k5]
end G88

namespace G88
open PySem PySem.Spec PyProof.Rows L2 Pu Edf
/-! ### the ready places, by rank -/
abbrev R4 := Int × Int × Int × Int
def rD (t : R4) : D := .tup [.int t.1, .int t.2.1, .int t.2.2.1, .int t.2.2.2]
abbrev Rank := Jb → Int → Nat → R4
def jat (J : List Jb) (k : Nat) : Jb := (J[k]?).getD ⟨0, 0, 0, 0, 0⟩
def kf (J : List Jb) (q : Rank) (n : Nat) (L : List Int) (k : Nat) : D := .tup [rD (q (jat J k) (gi L k) n), .int k]
/-- the places in their order -/
def plc (J : List Jb) (q : Rank) (n : Nat) (L : List Int) : List Nat := (rdy J n L).mergeSort fun a b => leD (kf J q n L a) (kf J q n L b)
theorem plc_mem {J : List Jb} {q : Rank} {n : Nat} {L : List Int} {k : Nat} (h : k ∈ plc J q n L) : k ∈ rdy J n L := (List.mergeSort_perm _ _).mem_iff.mp h
theorem kf_ok (J : List Jb) (q : Rank) (n : Nat) (L : List Int) (ks : List Nat) : srtOk (ks.map (kf J q n L)) = true := by
  unfold srtOk
  rw [Bool.and_eq_true, List.all_eq_true, List.all_eq_true]
  refine ⟨fun d hd => ?_, fun d hd => ?_⟩
  · obtain ⟨x, _, rfl⟩ := List.mem_map.mp hd
    rfl
  · obtain ⟨x, _, rfl⟩ := List.mem_map.mp hd
    rw [List.all_eq_true]
    intro e he
    obtain ⟨y, _, rfl⟩ := List.mem_map.mp he
    rfl
theorem lSrt_plc {J : List Jb} {q : Rank} {n : Nat} {L : List Int} {a : Ev} {ρ : PEnv} (h : a ρ = .ok (.lst ((rdy J n L).map (kf J q n L)))) : lSrt a ρ = .ok ((plc J q n L).map (kf J q n L)) := by
  unfold lSrt
  rw [h]
  show (if srtOk ((rdy J n L).map (kf J q n L)) = true then Res.ok (((rdy J n L).map (kf J q n L)).mergeSort leD) else .stuck) = _
  rw [if_pos (kf_ok J q n L _)]
  unfold plc
  rw [List.map_mergeSort (f := kf J q n L) (s := leD) fun a _ b _ => rfl]
theorem rdy_len (J : List Jb) (n : Nat) (L : List Int) : (rdy J n L).length ≤ J.length := by
  unfold rdy
  have := List.length_filter_le (fun k => decide (((J[k]?).getD ⟨0, 0, 0, 0, 0⟩).r ≤ (n : Int)) && decide (0 < gi L k)) (List.range J.length)
  rwa [List.length_range] at this
theorem plc_len (J : List Jb) (q : Rank) (n : Nat) (L : List Int) : (plc J q n L).length ≤ J.length := by
  unfold plc
  rw [List.length_mergeSort]; exact rdy_len J n L
/-- the ready ones of the first m -/
def rdyN (J : List Jb) (n : Nat) (L : List Int) (m : Nat) : List Nat := (List.range m).filter fun k => decide ((jat J k).r ≤ (n : Int)) && decide (0 < gi L k)
theorem rdyN_succ (J : List Jb) (n : Nat) (L : List Int) (m : Nat) : rdyN J n L (m + 1) = rdyN J n L m ++ (if (decide ((jat J m).r ≤ (n : Int)) && decide (0 < gi L m)) = true then [m] else []) := by
  unfold rdyN
  rw [List.range_succ, List.filter_append]
  congr 1
  rw [List.filter_cons, List.filter_nil]
theorem f_ready {J : List Jb} {L : List Int} (hlen : L.length = J.length) (hl : J.length ≤ 12) {pol : Str} {ord : D} {q : Rank} {n : Nat} (hrk : ∀ j ∈ J, ∀ l : Int, Fn_rank [.str pol, dJ j, .int l, .int n, ord] = .ok (rD (q j l n)))
    {M : List Pu.Slot} {k : Nat} (hM : M[k]? = some (.own (L.map D.int))) : Fn_ready_places [.val (.str pol), .val (.lst (J.map dJ)), .al k, .val (.int n), .val ord] M = .ok (.val (.lst ((plc J q n L).map fun (k : Nat) => D.int k)), M) := by
  obtain ⟨ρ', e, x6, x7, rfl⟩ := forS_thru (g := gT [6, 7]) (body := sIf (tAnd' (tV (e2 opLe (e2 opIx (eN 7) (eC (.int 1))) (eN 3))) (tV (e2 opGt (e2 opIx (eCell 9 (pvN 2)) (eN 6)) (eC (.int 0))))) (sApp 5 (eT (aC (eCall Fn_rank (aC (eN 0) (aC (eN 7) (aC (e2 opIx (eCell 9 (pvN 2)) (eN 6)) (aC (eN 3) (aC (eN 4) aN)))))) (aC (eN 6) aN)))) sNil) (prs 0 (J.map dJ))
    (fun i ρ => ∃ x6 x7, ρ = .val (.str pol) :: .val (.lst (J.map dJ)) :: .al k :: .val (.int n) :: .val ord :: .own ((rdyN J n L i).map (kf J q n L)) :: x6 :: x7 :: .un :: M)
    (.val (.str pol) :: .val (.lst (J.map dJ)) :: .al k :: .val (.int n) :: .val ord :: .own [] :: .un :: .un :: .un :: M) ⟨_, _, rfl⟩ (fun i d ρ e hi => by
      obtain ⟨x6, x7, rfl⟩ := hi
      obtain ⟨z, e1, rfl⟩ := prs_map _ _ _ _ e
      rw [List.getElem?_map] at e1
      obtain ⟨j, ej, rfl⟩ := Option.map_eq_some_iff.mp e1
      have hiJ := (List.getElem?_eq_some_iff.mp ej).1
      have hj : jat J i = j := by unfold jat; rw [ej]; rfl
      have hix : opIx (.lst (L.map D.int)) (.int (i : Int)) = some (.int (gi L i)) := ix_lst' rfl (by rw [List.getElem?_map, gi_get (by omega)]; rfl)
      have hr := hrk j (List.mem_of_getElem? ej) (gi L i)
      have hsz : ((rdyN J n L i).map (kf J q n L)).length < sizeLine := by
        rw [List.length_map]
        have := List.length_filter_le (fun k => decide ((jat J k).r ≤ (n : Int)) && decide (0 < gi L k)) (List.range i)
        rw [List.length_range] at this
        exact small1000 (by unfold rdyN; omega)
      have hkf : kf J q n L i = .tup [rD (q j (gi L i) n), .int i] := by unfold kf; rw [hj]
      rw [rdyN_succ, hj, List.map_append]
      refine ⟨.val (.str pol) :: .val (.lst (J.map dJ)) :: .al k :: .val (.int n) :: .val ord :: .own ((rdyN J n L i).map (kf J q n L)) :: .val (.int i) :: .val (dJ j) :: .un :: M, _, by rw [Nat.zero_add]; rfl, .inl ?_, .val (.int i), .val (dJ j), rfl⟩
      by_cases h1 : j.r ≤ n
      · by_cases h2 : 0 < gi L i
        · rw [if_pos (by simp [h1, h2]), List.map_singleton, hkf]
          generalize (rdyN J n L i).map (kf J q n L) = RR at *
          generalize J.map dJ = JS at *
          generalize L.map D.int = LL at *
          have i1 : opIx (dJ j) (.int 1) = some (.int j.r) := rfl
          generalize dJ j = DJ at *
          generalize rD (q j (gi L i) n) = RD at *
          simp -implicitDefEqProofs [i1, h1, hM, hix, h2, hr, hsz]
        · rw [if_neg (by simp [h2]), List.map_nil, List.append_nil]
          generalize (rdyN J n L i).map (kf J q n L) = RR at *
          generalize J.map dJ = JS at *
          generalize L.map D.int = LL at *
          have i1 : opIx (dJ j) (.int 1) = some (.int j.r) := rfl
          generalize dJ j = DJ at *
          simp -implicitDefEqProofs [i1, h1, hM, hix, h2]
      · rw [if_neg (by simp [h1]), List.map_nil, List.append_nil]
        generalize (rdyN J n L i).map (kf J q n L) = RR at *
        generalize J.map dJ = JS at *
        have i1 : opIx (dJ j) (.int 1) = some (.int j.r) := rfl
        generalize dJ j = DJ at *
        simp -implicitDefEqProofs [i1, h1])
  rw [prs_len, List.length_map] at e
  have hS : lSrt (eB 5) (.val (.str pol) :: .val (.lst (J.map dJ)) :: .al k :: .val (.int n) :: .val ord :: .own ((rdyN J n L J.length).map (kf J q n L)) :: x6 :: x7 :: .un :: M) = .ok ((plc J q n L).map (kf J q n L)) := lSrt_plc rfl
  have key := lcGo_map (g := gN 8) (ev := e2 opIx (eN 8) (eC (.int 1))) (ρ := .val (.str pol) :: .val (.lst (J.map dJ)) :: .al k :: .val (.int n) :: .val ord :: .own ((rdyN J n L J.length).map (kf J q n L)) :: x6 :: x7 :: .un :: M) (δ := kf J q n L) (fun k => D.int k) (plc J q n L) (fun k _ => ⟨_, rfl, by
    generalize (rdyN J n L J.length).map (kf J q n L) = RR at *
    generalize J.map dJ = JS at *
    unfold kf
    simp -implicitDefEqProofs []⟩)
  have hz : ((plc J q n L).map (kf J q n L)).length ≤ sizeLine := by rw [List.length_map]; exact small9000 (by have := plc_len J q n L; omega)
  have hE : asE [.lst (J.map dJ)] = .ok (prs 0 (J.map dJ)) := rfl
  show (body_ready_places (.val (.str pol) :: .val (.lst (J.map dJ)) :: .al k :: .val (.int n) :: .val ord :: .un :: .un :: .un :: .un :: M)).resM 9 = _
  generalize (plc J q n L).map (fun (k : Nat) => D.int k) = PI at *
  generalize (plc J q n L).map (kf J q n L) = PK at *
  generalize (rdyN J n L J.length).map (kf J q n L) = RR at *
  generalize prs 0 (J.map dJ) = PR at *
  generalize J.map dJ = JS at *
  simp -implicitDefEqProofs [body_ready_places, hE, e, hS, hz, key, Out.resM]
end G88

namespace G88
open PySem PySem.Spec PyProof.Rows L2 Pu Edf
/-! ### one slot of run_ranked -/
theorem plc_nd (J : List Jb) (q : Rank) (n : Nat) (L : List Int) : (plc J q n L).Nodup := by
  unfold plc
  refine (List.mergeSort_perm _ _).nodup_iff.mpr ?_
  unfold rdy
  exact List.Pairwise.filter _ List.nodup_range
theorem srv_app (a b : List Nat) (q : List Int × Int) : srv (a ++ b) q = srv b (srv a q) := List.foldl_append ..
theorem rdy_mem {J : List Jb} {n : Nat} {L : List Int} {k : Nat} (h : k ∈ rdy J n L) : k < J.length ∧ 0 < gi L k := by
  have := List.mem_filter.mp h
  refine ⟨List.mem_range.mp this.1, ?_⟩
  have := this.2
  simp only [Bool.and_eq_true, decide_eq_true_eq] at this
  exact this.2
theorem rank_loop {cp : Nat → Int} {J : List Jb} {pl : Nat → List Int → List Nat} {ns : List Nat} (S : Sch cp J (sim cp J pl)) (hJ : JOk J ns) (hcp : ∀ n, 0 ≤ cp n) {n K : Nat} (hpl : ∀ k ∈ pl n (sim cp J pl n), k ∈ rdy J n (sim cp J pl n)) (hnd : (pl n (sim cp J pl n)).Nodup) (hQ900 : (pl n (sim cp J pl n)).length ≤ 900)
    (a b p o sl : Pu.Slot) {E : List (List D)} {P : List Pu.Slot} (t : Tl P K ((sim cp J pl n).map D.int) E) (hE : Ends (sim cp J pl) n J ns E) (x11 x12 x13 : Pu.Slot) :
    ∃ (P' : List Pu.Slot) (E' : List (List D)) (u : Int) (row : List D) (y11 y12 : Pu.Slot), forS (gN 11) (sSeq (sSet 12 (eF fMin2 (aC (eN 9) (aC (e2 opIx (eCell 14 (pvN 5)) (eN 11)) aN))))
    (sIf (tV (e2 opGt (eN 12) (eC (.int 0)))) (sSeq (sAugC opSub 14 (pvN 5) (eN 11) (eN 12))
    (sSeq (sAug 9 opSub (eN 12))
    (sSeq (sApp 10 (eT (aC (e2 opIx (e2 opIx (eN 4) (eN 11)) (eC (.int 2))) (aC (e2 opIx (e2 opIx (eN 4) (eN 11)) (eC (.int 3))) (aC (eN 12) aN)))))
    (sIf (tV (e2 opEq (e2 opIx (eCell 14 (pvN 5)) (eN 11)) (eC (.int 0)))) (sPutC 14 (pvIx 14 (pvN 6) (e2 opIx (e2 opIx (eN 4) (eN 11)) (eC (.int 2)))) (e2 opIx (e2 opIx (eN 4) (eN 11)) (eC (.int 3))) (e2 opAdd (eN 8) (eC (.int 1)))) sNil)))) sNil)) ((pl n (sim cp J pl n)).map fun (k : Nat) => D.int k)
      (a :: b :: p :: o :: .val (.lst (J.map dJ)) :: .al 0 :: .al K :: sl :: .val (.int n) :: .val (.int (cp n)) :: .own [] :: x11 :: x12 :: x13 :: P) = .nx (a :: b :: p :: o :: .val (.lst (J.map dJ)) :: .al 0 :: .al K :: sl :: .val (.int n) :: .val (.int u) :: .own row :: y11 :: y12 :: x13 :: P') ∧ row.length ≤ (pl n (sim cp J pl n)).length ∧ Tl P' K ((sim cp J pl (n + 1)).map D.int) E' ∧ Ends (sim cp J pl) (n + 1) J ns E' := by
  obtain ⟨L, hL⟩ : ∃ L, sim cp J pl n = L := ⟨_, rfl⟩
  obtain ⟨Q, hQ⟩ : ∃ Q, pl n L = Q := ⟨_, rfl⟩
  have hnext : sim cp J pl (n + 1) = (srv Q (L, cp n)).1 := by rw [← hQ, ← hL]; rfl
  have hLl : L.length = J.length := by rw [← hL]; exact S.len n
  have hLn : ∀ i, 0 ≤ gi L i := fun i => by rw [← hL]; exact S.nn n i
  rw [hL] at hpl hnd hQ900 t ⊢
  rw [hQ] at hpl hnd hQ900 ⊢
  have D0 := fun i => svd (ps := Q.take i) (q := (L, cp n)) hLn (hcp n)
  obtain ⟨ρ', e, P', E', row, y11, y12, rfl, hrow, t', hE'⟩ := forS_thru (g := gN 11) (body := sSeq (sSet 12 (eF fMin2 (aC (eN 9) (aC (e2 opIx (eCell 14 (pvN 5)) (eN 11)) aN))))
    (sIf (tV (e2 opGt (eN 12) (eC (.int 0)))) (sSeq (sAugC opSub 14 (pvN 5) (eN 11) (eN 12))
    (sSeq (sAug 9 opSub (eN 12))
    (sSeq (sApp 10 (eT (aC (e2 opIx (e2 opIx (eN 4) (eN 11)) (eC (.int 2))) (aC (e2 opIx (e2 opIx (eN 4) (eN 11)) (eC (.int 3))) (aC (eN 12) aN)))))
    (sIf (tV (e2 opEq (e2 opIx (eCell 14 (pvN 5)) (eN 11)) (eC (.int 0)))) (sPutC 14 (pvIx 14 (pvN 6) (e2 opIx (e2 opIx (eN 4) (eN 11)) (eC (.int 2)))) (e2 opIx (e2 opIx (eN 4) (eN 11)) (eC (.int 3))) (e2 opAdd (eN 8) (eC (.int 1)))) sNil)))) sNil)) (Q.map fun (k : Nat) => D.int k)
    (fun i ρ => ∃ (P' : List Pu.Slot) (E' : List (List D)) (row : List D) (y11 y12 : Pu.Slot), ρ = a :: b :: p :: o :: .val (.lst (J.map dJ)) :: .al 0 :: .al K :: sl :: .val (.int n) :: .val (.int (srv (Q.take i) (L, cp n)).2) :: .own row :: y11 :: y12 :: x13 :: P' ∧ row.length ≤ i ∧ Tl P' K ((srv (Q.take i) (L, cp n)).1.map D.int) E' ∧ EndsF (sim cp J pl) (fun k => if k ∈ Q.take i then n + 1 else n) J ns E')
    (a :: b :: p :: o :: .val (.lst (J.map dJ)) :: .al 0 :: .al K :: sl :: .val (.int n) :: .val (.int (cp n)) :: .own [] :: x11 :: x12 :: x13 :: P) ⟨P, E, [], x11, x12, rfl, Nat.le_refl _, t, by have := hE.toF hJ; simpa using this⟩ (fun i d ρ e hi => by
      obtain ⟨P', E', row, y11, y12, rfl, hrow, t', hE'⟩ := hi
      rw [List.getElem?_map] at e
      obtain ⟨k, ek, rfl⟩ := Option.map_eq_some_iff.mp e
      have hk := rdy_mem (hpl k (List.mem_of_getElem? ek))
      obtain ⟨j, ej⟩ : ∃ j, J[k]? = some j := ⟨_, List.getElem?_eq_getElem hk.1⟩
      have hknot : k ∉ Q.take i := fun z => by
        obtain ⟨m, hm⟩ := List.mem_iff_getElem?.mp z
        have hml := (List.getElem?_eq_some_iff.mp hm).1
        rw [List.length_take] at hml
        rw [List.getElem?_take_of_lt (by omega)] at hm
        have := (List.getElem?_inj (by have := (List.getElem?_eq_some_iff.mp hm).1; exact this) hnd).mp (hm.trans ek.symm)
        omega
      have hDi := D0 i
      have hsame : gi (srv (Q.take i) (L, cp n)).1 k = gi L k := by
        have a1 : gi (srv (Q.take i) (L, cp n)).1 k ≤ gi L k := hDi.le k
        by_cases z : gi (srv (Q.take i) (L, cp n)).1 k < gi L k
        · exact absurd (hDi.at_ k z) hknot
        · omega
      have hfin : gi (sim cp J pl (n + 1)) k = gi (srv (Q.take (i + 1)) (L, cp n)).1 k := by
        have hsplit : srv Q (L, cp n) = srv (Q.drop (i + 1)) (srv (Q.take (i + 1)) (L, cp n)) := by rw [← srv_app, List.take_append_drop]
        have D1 := svd (ps := Q.drop (i + 1)) (q := srv (Q.take (i + 1)) (L, cp n)) (D0 (i + 1)).nn (D0 (i + 1)).u
        rw [hnext, hsplit]
        have a1 := D1.le k
        by_cases z : gi (srv (Q.drop (i + 1)) (srv (Q.take (i + 1)) (L, cp n))).1 k < gi (srv (Q.take (i + 1)) (L, cp n)).1 k
        · have hm := D1.at_ k z
          obtain ⟨m, hm⟩ := List.mem_iff_getElem?.mp hm
          rw [List.getElem?_drop] at hm
          have := (List.getElem?_inj (by have := (List.getElem?_eq_some_iff.mp hm).1; exact this) hnd).mp (hm.trans ek.symm)
          omega
        · omega
      have hsv : srv (Q.take (i + 1)) (L, cp n) = sv (srv (Q.take i) (L, cp n)) k := by rw [take_snoc ek, srv_app]; rfl
      have hfun : (fun q => if q = k then n + 1 else (if q ∈ Q.take i then n + 1 else n)) = fun q => if q ∈ Q.take (i + 1) then n + 1 else n := by
        funext q
        rw [take_snoc ek]
        by_cases z : q = k
        · subst z; rw [if_pos rfl, if_pos (by simp)]
        · rw [if_neg z]
          by_cases z2 : q ∈ Q.take i
          · rw [if_pos z2, if_pos (by simp [z2])]
          · rw [if_neg z2, if_neg (by simp [z2, z])]
      obtain ⟨x, y, R, v, q1, q2, h1, h2, h3⟩ := hE'.v k j ej
      rw [if_neg hknot] at h3
      have hv : v = .non := by
        rcases h3 with ⟨rfl, _⟩ | ⟨ee, rfl, h4, h5, h6⟩
        · rfl
        · have a1 := S.le h4 k
          rw [hL] at a1
          omega
      subst hv
      have hu := hDi.u
      have hlen' : (srv (Q.take i) (L, cp n)).1.length = L.length := hDi.len
      have hat : atI ((List.range E'.length).map (· + 1)) j.a = some (x + 1) := by rw [q1]; exact t'.at_ h1
      have hrow' := t'.row x R h1
      have hy := (List.getElem?_eq_some_iff.mp h2).1
      have hsetL := t'.setL
      have iJ : opIx (.lst (J.map dJ)) (.int (k : Int)) = some (dJ j) := ix_lst' rfl (by rw [List.getElem?_map, ej]; rfl)
      have j2 : opIx (dJ j) (.int 2) = some (.int j.a) := rfl
      have j3 : opIx (dJ j) (.int 3) = some (.int j.b) := rfl
      have hil := (List.getElem?_eq_some_iff.mp ek).1
      rw [hsv] at hfin ⊢
      generalize srv (Q.take i) (L, cp n) = q0 at *
      obtain ⟨L1, u1⟩ := q0
      simp only at hsame hu hlen' hsetL t' ⊢
      have hkL : k < L1.length := by omega
      have iC : opIx (.lst (L1.map D.int)) (.int (k : Int)) = some (.int (gi L1 k)) := ix_lst' rfl (by rw [List.getElem?_map, gi_get hkL]; rfl)
      have hleft := t'.left
      refine ⟨a :: b :: p :: o :: .val (.lst (J.map dJ)) :: .al 0 :: .al K :: sl :: .val (.int n) :: .val (.int u1) :: .own row :: .val (.int k) :: y12 :: x13 :: P', ?_⟩
      by_cases hm : 0 < min u1 (gi L1 k)
      · have esv : sv (L1, u1) k = (L1.set k (gi L1 k - min u1 (gi L1 k)), u1 - min u1 (gi L1 k)) := if_pos hm
        rw [esv] at hfin ⊢
        simp only at hfin ⊢
        rw [gi_set hkL, if_pos rfl] at hfin
        have hmin : fMin2 [.int u1, .int (gi L1 k)] = some (.int (min u1 (gi L1 k))) := rfl
        have hsub : opSub (.int (gi L1 k)) (.int (min u1 (gi L1 k))) = some (.int (gi L1 k - min u1 (gi L1 k))) := rfl
        have hsub2 : opSub (.int u1) (.int (min u1 (gi L1 k))) = some (.int (u1 - min u1 (gi L1 k))) := rfl
        have hsz : row.length < sizeLine := small1000 (by have := hJ.len; have := hrow; have h9 : i < Q.length := hil; have h10 : Q.length ≤ 900 := hQ900; omega)
        have hCs : (L1.map D.int).set k (.int (gi L1 k - min u1 (gi L1 k))) = (L1.set k (gi L1 k - min u1 (gi L1 k))).map D.int := by rw [List.map_set]
        have hCk : (L1.map D.int)[k]? = some (.int (gi L1 k)) := by rw [List.getElem?_map, gi_get hkL]; rfl
        have t1 := hsetL ((L1.set k (gi L1 k - min u1 (gi L1 k))).map D.int)
        have iC2 : opIx (.lst ((L1.set k (gi L1 k - min u1 (gi L1 k))).map D.int)) (.int (k : Int)) = some (.int (gi L1 k - min u1 (gi L1 k))) := ix_lst' rfl (by rw [List.getElem?_map, List.getElem?_set_self hkL]; rfl)
        rw [← hL] at hk
        have hpast : ∀ e' < n + 1, gi (sim cp J pl e') k ≠ 0 := fun e' he' z => by
          have a1 := S.le (a := e') (b := n) (by omega) k
          have := hk.2
          omega
        generalize hx : gi L1 k - min u1 (gi L1 k) = xx at *
        generalize min u1 (gi L1 k) = m1 at *
        generalize gi L1 k = g1 at *
        have haug : ∀ (a0 a1 a2 a3 a4 a5 a6 a7 a8 a9 a10 a11 a13 : Pu.Slot), augAt opSub 14 (a0 :: a1 :: a2 :: a3 :: a4 :: a5 :: a6 :: a7 :: a8 :: a9 :: a10 :: a11 :: .val (.int m1) :: a13 :: P') (L1.map D.int) (eN 12) (.int (k : Int)) = .nx (a0 :: a1 :: a2 :: a3 :: a4 :: a5 :: a6 :: a7 :: a8 :: a9 :: a10 :: a11 :: .val (.int m1) :: a13 :: P'.set 0 (.own ((L1.set k xx).map D.int))) := fun a0 a1 a2 a3 a4 a5 a6 a7 a8 a9 a10 a11 a13 => by
          rw [augAt_of (m := k) rfl hCk (d := .int m1) rfl hsub, hCs]; rfl
        generalize P'.set 0 (.own ((L1.set k xx).map D.int)) = P1 at *
        have l1 := t1.left
        have hK := t1.ends
        have hrow1 := t1.row x R h1
        by_cases x0 : xx = 0
        · have hput : ∀ (a0 a1 a2 a3 a4 a5 a6 a7 a8 a9 a10 a11 a12 a13 : Pu.Slot), putAt (x + 1 + 14) (a0 :: a1 :: a2 :: a3 :: a4 :: a5 :: a6 :: a7 :: a8 :: a9 :: a10 :: a11 :: a12 :: a13 :: P1) R (.int ((n : Int) + 1)) (.int j.b) = .nx (a0 :: a1 :: a2 :: a3 :: a4 :: a5 :: a6 :: a7 :: a8 :: a9 :: a10 :: a11 :: a12 :: a13 :: P1.set (x + 1) (.own (R.set y (.int ((n : Int) + 1))))) := fun a0 a1 a2 a3 a4 a5 a6 a7 a8 a9 a10 a11 a12 a13 => by
            rw [putAt_of (n := y) q2 hy]; rfl
          have hv : EndV (sim cp J pl) (n + 1) k (.int ((n : Int) + 1)) := .inr ⟨n + 1, by congr 1, Nat.le_refl _, by rw [hfin]; exact x0, hpast⟩
          refine ⟨a :: b :: p :: o :: .val (.lst (J.map dJ)) :: .al 0 :: .al K :: sl :: .val (.int n) :: .val (.int (u1 - m1)) :: .own (row ++ [.tup [.int j.a, .int j.b, .int m1]]) :: .val (.int k) :: .val (.int m1) :: x13 :: P1.set (x + 1) (.own (R.set y (.int ((n : Int) + 1)))), rfl, .inl ?_, _, _, _, _, _, rfl, by rw [List.length_append]; simp; omega, t1.setR h1 _, by rw [← hfun]; exact hE'.set hJ ej q1 q2 h1 hy hv⟩
          generalize P1.set (x + 1) (.own (R.set y (.int ((n : Int) + 1)))) = P2 at *
          generalize (List.range E'.length).map (· + 1) = ks at *
          generalize x + 1 = X at *
          generalize (L1.set k xx).map D.int = C2 at *
          generalize L1.map D.int = C1 at *
          generalize J.map dJ = JS at *
          generalize dJ j = DJ at *
          simp -implicitDefEqProofs [-fMin2_int, hleft, iC, hm, hmin, haug, hsub2, iJ, j2, j3, hsz, l1, iC2, x0, hK, hat, hrow1, hput]
        · refine ⟨a :: b :: p :: o :: .val (.lst (J.map dJ)) :: .al 0 :: .al K :: sl :: .val (.int n) :: .val (.int (u1 - m1)) :: .own (row ++ [.tup [.int j.a, .int j.b, .int m1]]) :: .val (.int k) :: .val (.int m1) :: x13 :: P1, rfl, .inl ?_, _, _, _, _, _, rfl, by rw [List.length_append]; simp; omega, t1, by rw [← hfun]; exact hE'.up ej q1 q2 h1 h2 (.inl ⟨rfl, by rw [hfin]; exact x0⟩)⟩
          generalize (L1.set k xx).map D.int = C2 at *
          generalize L1.map D.int = C1 at *
          generalize J.map dJ = JS at *
          generalize dJ j = DJ at *
          simp -implicitDefEqProofs [-fMin2_int, hleft, iC, hm, hmin, haug, hsub2, iJ, j2, j3, hsz, l1, iC2, x0]
      · have esv : sv (L1, u1) k = (L1, u1) := if_neg hm
        rw [esv] at hfin ⊢
        simp only at hfin ⊢
        have hm0 : ¬ (0 : Int) < min u1 (gi L1 k) := hm
        refine ⟨a :: b :: p :: o :: .val (.lst (J.map dJ)) :: .al 0 :: .al K :: sl :: .val (.int n) :: .val (.int u1) :: .own row :: .val (.int k) :: .val (.int (min u1 (gi L1 k))) :: x13 :: P', rfl, .inl ?_, P', E', row, _, _, rfl, by omega, t', by rw [← hfun]; exact hE'.up ej q1 q2 h1 h2 (.inl ⟨rfl, by rw [hfin]; omega⟩)⟩
        have hmin : fMin2 [.int u1, .int (gi L1 k)] = some (.int (min u1 (gi L1 k))) := rfl
        generalize L1.map D.int = C1 at *
        generalize gi L1 k = g1 at *
        generalize min u1 g1 = m1 at *
        generalize J.map dJ = JS at *
        simp -implicitDefEqProofs [-fMin2_int, hleft, iC, hm0, hmin])
  rw [List.length_map, List.take_length] at t' hE'
  rw [List.length_map] at hrow
  rw [List.length_map, List.take_length] at e
  rw [hnext]
  refine ⟨P', E', _, row, y11, y12, e, hrow, t', hE'.len, fun i j ej => ?_⟩
  obtain ⟨x, y, R, v, q1, q2, h1, h2, h3⟩ := hE'.v i j ej
  refine ⟨R, v, by rw [q1, Int.toNat_natCast]; exact h1, by rw [q2, Int.toNat_natCast]; exact h2, ?_⟩
  by_cases z : i ∈ Q
  · rw [if_pos z] at h3; exact h3
  · rw [if_neg z] at h3
    have D1 := svd (ps := Q) (q := (L, cp n)) hLn (hcp n)
    have hsame : gi (sim cp J pl (n + 1)) i = gi (sim cp J pl n) i := by
      rw [hnext, hL]
      have a1 : gi (srv Q (L, cp n)).1 i ≤ gi L i := D1.le i
      by_cases w : gi (srv Q (L, cp n)).1 i < gi L i
      · exact absurd (D1.at_ i w) z
      · omega
    rcases h3 with ⟨rfl, h3⟩ | ⟨ee, rfl, h4, h5, h6⟩
    · exact .inl ⟨rfl, by rw [hsame]; exact h3⟩
    · exact .inr ⟨ee, rfl, by omega, h5, h6⟩
end G88

namespace G88
open PySem PySem.Spec PyProof.Rows L2 Pu Edf
theorem f_ranked {ps : List Pt} {T : List Int} (W : Wd ps) (h : Tab T) {pol : Str} {ord : D} {q : Rank} (hrk : ∀ (n : Nat), ∀ j ∈ JJ ps, ∀ l : Int, Fn_rank [.str pol, dJ j, .int l, .int n, ord] = .ok (rD (q j l n))) : ∃ a b d : D, Fn_run_ranked [dSys ps T, .lst (ps.map dRs), .str pol, ord] = .ok (dOut a b d) ∧ ((d = .non ∧ Kept (JJ ps) (sim (cap T) (JJ ps) (plc (JJ ps) q))) ∨ (∃ x, d = .int x) ∧ ¬ Kept (JJ ps) (sim (cap T) (JJ ps) (plc (JJ ps) q))) := by
  have hJ := JJ_ok W
  have l3 := W.l3
  have hcap : ∀ n, 0 ≤ cap T n := fun n => (cap_nn h n).1
  have hc0 : ∀ j ∈ JJ ps, 0 ≤ j.c := fun j hj => by have := hJ.j j hj; omega
  have S := sim_sch (pl := plc (JJ ps) q) hcap hc0 fun n L k hk => plc_mem hk
  obtain ⟨N, n1, n2, n3⟩ := f_lastdue (T := T) W
  have c1 := f_check (T := T) W
  have c2 := f_alljobs (T := T) W
  generalize hJJ : JJ ps = J at *
  have hl := hJ.len
  -- the cells
  obtain ⟨E0, hE0⟩ : ∃ E0, (ps.map fun p => List.replicate p.rs.length D.non) = E0 := ⟨_, rfl⟩
  have hE0l : E0.length = ps.length := by rw [← hE0, List.length_map]
  have hEnds0 : Ends (sim (cap T) J (plc J q)) 0 J (ps.map fun p => p.rs.length) E0 := by
    have := Ends.start S hJ
    rw [List.map_map] at this
    rw [← hE0]; exact this
  have e3 : sNewC 14 5 (lLc (iS (eN 4)) (gN 13) [13] tYes' (e2 opIx (eN 13) (eC (.int 4)))) [.val (dSys ps T), .val (.lst (ps.map dRs)), .val (.str pol), .val ord, .val (.lst (J.map dJ)), .un, .un, .un, .un, .un, .un, .un, .un, .un] = .nx [.val (dSys ps T), .val (.lst (ps.map dRs)), .val (.str pol), .val ord, .val (.lst (J.map dJ)), .al 0, .un, .un, .un, .un, .un, .un, .un, .un, .own (Cs J)] := by
    have key := lcGo_map (g := gN 13) (ev := e2 opIx (eN 13) (eC (.int 4))) (ρ := [.val (dSys ps T), .val (.lst (ps.map dRs)), .val (.str pol), .val ord, .val (.lst (J.map dJ)), .un, .un, .un, .un, .un, .un, .un, .un, .un]) (δ := dJ) (fun j => D.int j.c) J (fun j _ => ⟨_, rfl, by
      unfold dJ
      simp -implicitDefEqProofs []⟩)
    have hz : (J.map dJ).length ≤ sizeLine := by rw [List.length_map]; exact small9000 (by omega)
    have hlc : lLc (iS (eN 4)) (gN 13) [13] tYes' (e2 opIx (eN 13) (eC (.int 4))) [.val (dSys ps T), .val (.lst (ps.map dRs)), .val (.str pol), .val ord, .val (.lst (J.map dJ)), .un, .un, .un, .un, .un, .un, .un, .un, .un] = .ok (Cs J) := by
      show (if (J.map dJ).length ≤ sizeLine then lcGo (gN 13) tYes' _ _ (J.map dJ) else .stuck) = _
      rw [if_pos hz]; exact key
    unfold sNewC
    rw [hlc]; rfl
  have e4 : sNewCC 14 6 (nLc (iS (eN 1)) (gN 10) [10] tYes' (lRep (eL (aC (eC .non) aN)) (eF fLen (aC (eN 10) aN)))) [.val (dSys ps T), .val (.lst (ps.map dRs)), .val (.str pol), .val ord, .val (.lst (J.map dJ)), .al 0, .un, .un, .un, .un, .un, .un, .un, .un, .own (Cs J)] = .nx (.val (dSys ps T) :: .val (.lst (ps.map dRs)) :: .val (.str pol) :: .val ord :: .val (.lst (J.map dJ)) :: .al 0 :: .al (1 + E0.length) :: .un :: .un :: .un :: .un :: .un :: .un :: .un :: (.own (Cs J) :: (E0.map Pu.Slot.own ++ [.own2 ((List.range E0.length).map (· + 1))]))) := by
    have key := nonRows (i := 10) (n := 0) (pre := [.val (dSys ps T), .val (.lst (ps.map dRs)), .val (.str pol), .val ord, .val (.lst (J.map dJ)), .al 0, .un, .un, .un, .un, .un, .un, .un, .un, .own (Cs J)]) ps (fun p hp => (W.ok p hp).c.len) (fun p hp => ⟨_, rfl, rfl⟩)
    have hz : (ps.map dRs).length ≤ sizeLine := by rw [List.length_map]; exact small9000 (by omega)
    have hlc : nLc (iS (eN 1)) (gN 10) [10] tYes' (lRep (eL (aC (eC .non) aN)) (eF fLen (aC (eN 10) aN))) [.val (dSys ps T), .val (.lst (ps.map dRs)), .val (.str pol), .val ord, .val (.lst (J.map dJ)), .al 0, .un, .un, .un, .un, .un, .un, .un, .un, .own (Cs J)] = .ok E0 := by
      show (if (ps.map dRs).length ≤ sizeLine then lcGoN (gN 10) tYes' _ _ (ps.map dRs) else .stuck) = _
      rw [if_pos hz, ← hE0]; exact key
    unfold sNewCC
    rw [hlc]; rfl
  -- slot by slot
  have hCs : Cs J = (sim (cap T) J (plc J q) 0).map D.int := by show _ = (J.map (·.c)).map D.int; rw [List.map_map]; rfl
  obtain ⟨ρ', e, R, P, E, x8, x9, x10, x11, x12, x13, rfl, hR, hR2, t, hE⟩ := forS_thru (g := gN 8) (body := (sSeq (sSet 9 (eCall Fn_capacity (aC (e1 (fld 2 "table") (eN 0)) (aC (eN 8) aN))))
    (sSeq (sOwn 10 aN)
    (sSeq (sForX (xCall 14 Fn_ready_places (axV (eN 2) (axV (eN 4) (axC (pvN 5) (axV (eN 8) (axV (eN 3) axN)))))) (gN 11) (sSeq (sSet 12 (eF fMin2 (aC (eN 9) (aC (e2 opIx (eCell 14 (pvN 5)) (eN 11)) aN))))
    (sIf (tV (e2 opGt (eN 12) (eC (.int 0)))) (sSeq (sAugC opSub 14 (pvN 5) (eN 11) (eN 12))
    (sSeq (sAug 9 opSub (eN 12))
    (sSeq (sApp 10 (eT (aC (e2 opIx (e2 opIx (eN 4) (eN 11)) (eC (.int 2))) (aC (e2 opIx (e2 opIx (eN 4) (eN 11)) (eC (.int 3))) (aC (eN 12) aN)))))
    (sIf (tV (e2 opEq (e2 opIx (eCell 14 (pvN 5)) (eN 11)) (eC (.int 0)))) (sPutC 14 (pvIx 14 (pvN 6) (e2 opIx (e2 opIx (eN 4) (eN 11)) (eC (.int 2)))) (e2 opIx (e2 opIx (eN 4) (eN 11)) (eC (.int 3))) (e2 opAdd (eN 8) (eC (.int 1)))) sNil)))) sNil)))
    (sFrz 10 (sApp 7 (eN 10))))))) (rgD 0 (N : Int))
    (fun i ρ => ∃ (R : List (List D)) (P : List Pu.Slot) (E : List (List D)) (x8 x9 x10 x11 x12 x13 : Pu.Slot), ρ = .val (dSys ps T) :: .val (.lst (ps.map dRs)) :: .val (.str pol) :: .val ord :: .val (.lst (J.map dJ)) :: .al 0 :: .al (1 + E0.length) :: .own (R.map .lst) :: x8 :: x9 :: x10 :: x11 :: x12 :: x13 :: P ∧ R.length = i ∧ (∀ r ∈ R, r.length ≤ 12) ∧ Tl P (1 + E0.length) ((sim (cap T) J (plc J q) i).map D.int) E ∧ Ends (sim (cap T) J (plc J q)) i J (ps.map fun p => p.rs.length) E)
    (.val (dSys ps T) :: .val (.lst (ps.map dRs)) :: .val (.str pol) :: .val ord :: .val (.lst (J.map dJ)) :: .al 0 :: .al (1 + E0.length) :: .own [] :: .un :: .un :: .un :: .un :: .un :: .un :: (.own (Cs J) :: (E0.map Pu.Slot.own ++ [.own2 ((List.range E0.length).map (· + 1))])))
    ⟨[], _, E0, _, _, _, _, _, _, rfl, rfl, fun r hr => by (cases hr), by rw [← hCs]; exact tl_new _ _, hEnds0⟩ (fun i d ρ e hi => by
      obtain ⟨R, P, E, x8, x9, x10, x11, x12, x13, rfl, hR, hR2, t, hE⟩ := hi
      obtain ⟨rfl, hil⟩ := rg0_some e
      have k1 := f_capacity h i
      have k2 := f_ready (J := J) (q := q) (n := i) (S.len i) hl (hrk i) t.left
      obtain ⟨P', E', u, row, y11, y12, k3, hrow, t3, hE3⟩ := rank_loop S hJ hcap (n := i) (fun k hk => plc_mem hk) (plc_nd J q i _) (by have := plc_len J q i (sim (cap T) J (plc J q) i); omega) (.val (dSys ps T)) (.val (.lst (ps.map dRs))) (.val (.str pol)) (.val ord) (.own (R.map .lst)) t hE x11 x12 x13
      have hrow12 : row.length ≤ 12 := by have := plc_len J q i (sim (cap T) J (plc J q) i); omega
      have hf := fld_table ps T
      have hsz : (R.map D.lst).length < sizeLine := by rw [List.length_map, sizeLine_eq]; omega
      refine ⟨_, .val (dSys ps T) :: .val (.lst (ps.map dRs)) :: .val (.str pol) :: .val ord :: .val (.lst (J.map dJ)) :: .al 0 :: .al (1 + E0.length) :: .own ((R ++ [row]).map .lst) :: .val (.int i) :: .val (.int u) :: .val (.lst row) :: y11 :: y12 :: x13 :: P', rfl, .inl ?_, _, _, _, _, _, _, _, _, _, rfl, by rw [List.length_append, hR]; rfl, fun r hr => ?_, t3, hE3⟩
      · rw [List.map_append, List.map_singleton]
        generalize (plc J q i (sim (cap T) J (plc J q) i)).map (fun (k : Nat) => D.int k) = PL at *
        generalize J.map dJ = JS at *
        generalize R.map D.lst = RR at *
        generalize ps.map dRs = RS at *
        generalize dSys ps T = SS at *
        generalize T.map D.int = TT at *
        generalize 1 + E0.length = K at *
        simp -implicitDefEqProofs [hf, k1, k2, hsz, k3]
      · rcases List.mem_append.mp hr with hr | hr
        · exact hR2 r hr
        · rw [List.mem_singleton.mp hr]; exact hrow12)
  rw [rgD_length] at hR t hE
  have hNN : ((N : Int) - 0).toNat = N := by omega
  rw [hNN] at hR t hE
  obtain ⟨d, k4, hd⟩ := f_late S hJ (N := N) n3 (hE.ix hJ)
  have hfz : frzC 14 6 (.val (dSys ps T) :: .val (.lst (ps.map dRs)) :: .val (.str pol) :: .val ord :: .val (.lst (J.map dJ)) :: .al 0 :: .al (1 + E0.length) :: .own (R.map .lst) :: x8 :: x9 :: x10 :: x11 :: x12 :: x13 :: P) = [.val (dSys ps T), .val (.lst (ps.map dRs)), .val (.str pol), .val ord, .val (.lst (J.map dJ)), .un, .val (.lst (E.map .lst)), .own (R.map .lst), x8.noCell, x9.noCell, x10.noCell, x11.noCell, x12.noCell, x13.noCell] := by
    have ha := t.all (pre := [.val (dSys ps T), .val (.lst (ps.map dRs)), .val (.str pol), .val ord, .val (.lst (J.map dJ)), .al 0, .al (1 + E0.length), .own (R.map .lst), x8, x9, x10, x11, x12, x13]) (n := 14) rfl
    have he : (.val (dSys ps T) :: .val (.lst (ps.map dRs)) :: .val (.str pol) :: .val ord :: .val (.lst (J.map dJ)) :: .al 0 :: .al (1 + E0.length) :: .own (R.map .lst) :: x8 :: x9 :: x10 :: x11 :: x12 :: x13 :: P : List Pu.Slot)[1 + E0.length + 14]? = some (.own2 ((List.range E.length).map (· + 1))) := t.ends
    unfold frzC
    show (match (_ : List Pu.Slot)[1 + E0.length + 14]? with | some (.own2 ks) => _ | _ => _) = _
    rw [he]
    show (match allOwn 14 _ ((List.range E.length).map (· + 1)) with | some dss => _ | none => _) = _
    have ha' : allOwn 14 (.val (dSys ps T) :: .val (.lst (ps.map dRs)) :: .val (.str pol) :: .val ord :: .val (.lst (J.map dJ)) :: .al 0 :: .al (1 + E0.length) :: .own (R.map .lst) :: x8 :: x9 :: x10 :: x11 :: x12 :: x13 :: P) ((List.range E.length).map (· + 1)) = some E := ha
    rw [ha']
    rfl
  have hElen : E.length = ps.length := by have := congrArg List.length hE.len; rwa [List.length_map, List.length_map] at this
  have k5 := f_outcome (R := R) (E := E) (d := d) (by omega) (fun r hr => by have := hR2 r hr; omega) (by omega) (fun r hr => by
    have : r.length ∈ E.map (·.length) := List.mem_map_of_mem hr
    rw [hE.len] at this
    obtain ⟨p, hp, e⟩ := List.mem_map.mp this
    have := (W.ok p hp).c.len
    omega)
  refine ⟨.lst (R.map .lst), .lst (E.map .lst), d, runFn_eq rfl ?_, hd⟩
  have hr := asR1_of (N : Int) (by omega) (by omega)
  show (body_run_ranked [.val (dSys ps T), .val (.lst (ps.map dRs)), .val (.str pol), .val ord, .un, .un, .un, .un, .un, .un, .un, .un, .un, .un]).res = .ok (.obj 0 [("slots", .lst (R.map .lst)), ("ends", .lst (E.map .lst)), ("late", d)])
  generalize ([(("slots" : Str), D.lst (R.map .lst)), ("ends", .lst (E.map .lst)), ("late", d)] : List (Str × D)) = FS at *
  generalize ((Pu.Slot.own (Cs J) :: (E0.map Pu.Slot.own ++ [.own2 ((List.range E0.length).map (· + 1))])) : List Pu.Slot) = P0 at *
  generalize rgD 0 (N : Int) = RG at *
  generalize 1 + E0.length = K at *
  generalize J.map dJ = JS at *
  generalize R.map D.lst = RR at *
  generalize E.map D.lst = EE at *
  generalize ps.map dRs = RS at *
  generalize dSys ps T = SS at *
  simp -implicitDefEqProofs [body_run_ranked, c1, c2, e3, e4, n1, hr, e, hfz, k4, k5]
end G88

namespace G88
open PySem PySem.Spec PyProof.Rows L2 Pu Edf
/-! ### the policies' ranks -/
theorem eq_yes (s : Str) : opEq (.str s) (.str s) = some (.bl true) := by
  show some (D.bl (decide (s = s))) = _
  rw [decide_eq_true rfl]
theorem eq_no {s t : Str} (h : ¬ s = t) : opEq (.str s) (.str t) = some (.bl false) := by
  show some (D.bl (decide (s = t))) = _
  rw [decide_eq_false h]
theorem n_fd : ¬ ("fixed" : Str) = "deadline" := by decide +kernel
theorem n_ad : ¬ ("arrival" : Str) = "deadline" := by decide +kernel
theorem n_af : ¬ ("arrival" : Str) = "fixed" := by decide +kernel
theorem n_ld : ¬ ("laxity" : Str) = "deadline" := by decide +kernel
theorem n_lf : ¬ ("laxity" : Str) = "fixed" := by decide +kernel
theorem n_la : ¬ ("laxity" : Str) = "arrival" := by decide +kernel
theorem rank_to (j : Jb) (pol : Str) (l : Int) (n : Nat) (ord : D) : sTo (gT [5, 6, 7, 8, 9]) (eN 1) [.val (.str pol), .val (dJ j), .val (.int l), .val (.int n), .val ord, .un, .un, .un, .un, .un] = .nx [.val (.str pol), .val (dJ j), .val (.int l), .val (.int n), .val ord, .val (.int j.d), .val (.int j.r), .val (.int j.a), .val (.int j.b), .val (.int j.c)] := rfl
theorem f_rank_d (j : Jb) (l : Int) (n : Nat) (ord : D) : Fn_rank [.str "deadline", dJ j, .int l, .int n, ord] = .ok (rD (j.d, j.r, j.a, j.b)) := by
  refine runFn_eq rfl ?_
  have h := rank_to j "deadline" l n ord
  have e1 := eq_yes "deadline"
  show (body_rank [.val (.str "deadline"), .val (dJ j), .val (.int l), .val (.int n), .val ord, .un, .un, .un, .un, .un]).res = _
  unfold rD
  unfold body_rank
  generalize (Str.ofString "deadline") = S1 at *
  simp -implicitDefEqProofs [-sTo_ap, -opEq_str, h, e1]
theorem f_rank_a (j : Jb) (l : Int) (n : Nat) (ord : D) : Fn_rank [.str "arrival", dJ j, .int l, .int n, ord] = .ok (rD (j.r, j.a, j.b, 0)) := by
  refine runFn_eq rfl ?_
  have h := rank_to j "arrival" l n ord
  have e1 := eq_no n_ad
  have e2' := eq_no n_af
  have e3 := eq_yes "arrival"
  show (body_rank [.val (.str "arrival"), .val (dJ j), .val (.int l), .val (.int n), .val ord, .un, .un, .un, .un, .un]).res = _
  unfold rD
  unfold body_rank
  generalize (Str.ofString "deadline") = S1 at *
  generalize (Str.ofString "fixed") = S2 at *
  generalize (Str.ofString "arrival") = S3 at *
  simp -implicitDefEqProofs [-sTo_ap, -opEq_str, h, e1, e2', e3]
theorem f_rank_l (j : Jb) (l : Int) (n : Nat) (ord : D) : Fn_rank [.str "laxity", dJ j, .int l, .int n, ord] = .ok (rD (j.d - n - l, j.d, j.a, j.b)) := by
  refine runFn_eq rfl ?_
  have h := rank_to j "laxity" l n ord
  have e1 := eq_no n_ld
  have e2' := eq_no n_lf
  have e3 := eq_no n_la
  show (body_rank [.val (.str "laxity"), .val (dJ j), .val (.int l), .val (.int n), .val ord, .un, .un, .un, .un, .un]).res = _
  unfold rD
  unfold body_rank
  generalize (Str.ofString "deadline") = S1 at *
  generalize (Str.ofString "fixed") = S2 at *
  generalize (Str.ofString "arrival") = S3 at *
  generalize (Str.ofString "laxity") = S4 at *
  simp -implicitDefEqProofs [-sTo_ap, -opEq_str, h, e1, e2', e3]
/-- the place of a task in an order -/
def ixO (ord : List Nat) (a : Int) : Int := ((ord.findIdx? fun (k : Nat) => (k : Int) == a).getD 0 : Nat)
theorem idx_of {ord : List Nat} {a : Nat} (h : a ∈ ord) : opIndex (ord.map fun (k : Nat) => D.int k) (.int a) = some (.int (ixO ord a)) := by
  have hi : ints? (ord.map fun (k : Nat) => D.int k) = some (ord.map fun (k : Nat) => (k : Int)) := by
    have := ints?_map (ord.map fun (k : Nat) => (k : Int))
    rwa [List.map_map] at this
  show (match ints? (ord.map fun (k : Nat) => D.int k) with | some ns => (ns.findIdx? (· == (a : Int))).map fun j => D.int (j : Nat) | none => none) = _
  rw [hi]
  show ((ord.map fun (k : Nat) => (k : Int)).findIdx? (· == (a : Int))).map _ = _
  rw [List.findIdx?_map]
  have hs : (ord.findIdx? fun (k : Nat) => (k : Int) == (a : Int)).isSome = true := by
    rw [List.findIdx?_isSome, List.any_eq_true]
    exact ⟨a, h, by simp⟩
  obtain ⟨x, hx⟩ := Option.isSome_iff_exists.mp hs
  have hx' : List.findIdx? ((fun x => x == (a : Int)) ∘ fun (k : Nat) => (k : Int)) ord = some x := hx
  unfold ixO
  rw [hx', hx]; rfl
theorem f_rank_f (j : Jb) (l : Int) (n : Nat) {ord : List Nat} {a : Nat} (ha : j.a = a) (h : a ∈ ord) : Fn_rank [.str "fixed", dJ j, .int l, .int n, .lst (ord.map fun (k : Nat) => D.int k)] = .ok (rD (ixO ord j.a, j.b, 0, 0)) := by
  refine runFn_eq rfl ?_
  have hh := rank_to j "fixed" l n (.lst (ord.map fun (k : Nat) => D.int k))
  have e1 := eq_no n_fd
  have e2' := eq_yes "fixed"
  have e3 := idx_of h
  rw [← ha] at e3
  have e4 : ∀ b0 b1 b2 b3 b5 b6 b8 b9, eIdx (eN 4) (eN 7) [b0, b1, b2, b3, .val (.lst (ord.map fun (k : Nat) => D.int k)), b5, b6, .val (.int j.a), b8, b9] = .ok (.int (ixO ord j.a)) := fun b0 b1 b2 b3 b5 b6 b8 b9 => by
    show Res.of (opIndex (ord.map fun (k : Nat) => D.int k) (.int j.a)) = _
    rw [e3]; rfl
  show (body_rank [.val (.str "fixed"), .val (dJ j), .val (.int l), .val (.int n), .val (.lst (ord.map fun (k : Nat) => D.int k)), .un, .un, .un, .un, .un]).res = _
  unfold rD
  unfold body_rank
  generalize (Str.ofString "deadline") = S1 at *
  generalize (Str.ofString "fixed") = S2 at *
  generalize (Str.ofString "arrival") = S3 at *
  simp -implicitDefEqProofs [-sTo_ap, -opEq_str, hh, e1, e2', e4]
end G88

namespace G88
open PySem PySem.Spec PyProof.Rows L2 Pu Edf
/-! ### run_fixed, run_policy -/
def qF (ord : List Nat) : Rank := fun j _ _ => (ixO ord j.a, j.b, 0, 0)
/-- the order's schedule -/
def simF (T : List Int) (J : List Jb) (ord : List Nat) : Nat → List Int := sim (cap T) J (plc J (qF ord))
abbrev dN (ord : List Nat) : List D := ord.map fun (k : Nat) => D.int k
theorem fld_late (a b d : D) : fld 0 "late" (dOut a b d) = some d := by
  show (if (0 : Nat) = 0 then List.lookup ("late" : Str) [(("slots" : Str), a), (("ends" : Str), b), (("late" : Str), d)] else none) = _
  rw [if_pos rfl]
  rfl
/-- what an outcome tells -/
def Out3 (L : Nat → List Int) (J : List Jb) (r : Res D) : Prop := ∃ a b d : D, r = .ok (dOut a b d) ∧ ((d = .non ∧ Kept J L) ∨ (∃ x, d = .int x) ∧ ¬ Kept J L)
theorem f_fixed {ps : List Pt} {T : List Int} (W : Wd ps) (h : Tab T) {ord : List Nat} (ho : ∀ a < ps.length, a ∈ ord) (hl : ord.length ≤ 900) {od : D} (hod : od = .lst (dN ord) ∨ od = .tup (dN ord)) :
    Out3 (simF T (JJ ps) ord) (JJ ps) (Fn_run_fixed [dSys ps T, .lst (ps.map dRs), od]) := by
  have hJ := JJ_ok W
  obtain ⟨a, b, d, e, hd⟩ := f_ranked W h (pol := "fixed") (ord := .lst (dN ord)) (q := qF ord) (fun n j hj l => by
    obtain ⟨x, y, m, q1, q2, q3, q4⟩ := hJ.at_ j hj
    have hx := (List.getElem?_eq_some_iff.mp q3).1
    rw [List.length_map] at hx
    exact f_rank_f j l n q1 (ho x hx))
  refine ⟨a, b, d, runFn_eq rfl ?_, hd⟩
  have hz : (dN ord).length ≤ sizeLine := by rw [List.length_map]; exact small9000 (by omega)
  have hli : lList (aC (eN 2) aN) [.val (dSys ps T), .val (.lst (ps.map dRs)), .val od] = .ok (dN ord) := by
    rcases hod with rfl | rfl
    · show (if (dN ord).length ≤ sizeLine then Res.ok (dN ord) else .stuck) = _
      rw [if_pos hz]
    · show (if (dN ord).length ≤ sizeLine then Res.ok (dN ord) else .stuck) = _
      rw [if_pos hz]
  show (body_run_fixed [.val (dSys ps T), .val (.lst (ps.map dRs)), .val od]).res = _
  generalize dN ord = ON at *
  generalize dOut a b d = OO at *
  generalize ps.map dRs = RS at *
  generalize dSys ps T = SS at *
  have hel : eL (lList (aC (eN 2) aN)) [.val SS, .val (.lst RS), .val od] = .ok (.lst ON) := by rw [eL_ap, hli]; rfl
  have hc : eCall Fn_run_ranked (aC (eN 0) (aC (eN 1) (aC (eC (.str "fixed")) (aC (eL (lList (aC (eN 2) aN))) aN)))) [.val SS, .val (.lst RS), .val od] = .ok OO := by
    rw [eCall_ap, aC_ap, aC_ap, aC_ap, aC_ap, hel]
    show (Fn_run_ranked [SS, .lst RS, .str "fixed", .lst ON]).nx = _
    rw [e]; rfl
  unfold body_run_fixed sRet
  rw [hc]; rfl
theorem in_tup {s : Str} {l : List Str} (h : s ∈ l) : opNotIn (.str s) (.tup (l.map D.str)) = some (.bl false) := by
  have h1 := notin_strs s l
  rw [decide_eq_true h] at h1
  exact h1
theorem f_policy {ps : List Pt} {T : List Int} (W : Wd ps) (h : Tab T) {pol : Str} (hp : pol ∈ tp_POLICIES) : ∃ L, Sch (cap T) (JJ ps) L ∧ Out3 L (JJ ps) (Fn_run_policy [dSys ps T, .lst (ps.map dRs), .str pol]) := by
  have hJ := JJ_ok W
  have l3 := W.l3
  have hcap : ∀ n, 0 ≤ cap T n := fun n => (cap_nn h n).1
  have hc0 : ∀ j ∈ JJ ps, 0 ≤ j.c := fun j hj => by have := hJ.j j hj; omega
  have hx : ∃ q : Rank, ∀ (n : Nat), ∀ j ∈ JJ ps, ∀ l : Int, Fn_rank [.str pol, dJ j, .int l, .int n, .lst (dN (List.range ps.length))] = .ok (rD (q j l n)) := by
    unfold tp_POLICIES at hp
    simp only [List.mem_cons, List.not_mem_nil, or_false] at hp
    rcases hp with rfl | rfl | rfl | rfl
    · exact ⟨fun j l n => (j.d, j.r, j.a, j.b), fun n j _ l => f_rank_d j l n _⟩
    · exact ⟨qF (List.range ps.length), fun n j hj l => by
        obtain ⟨x, y, m, q1, q2, q3, q4⟩ := hJ.at_ j hj
        have hx := (List.getElem?_eq_some_iff.mp q3).1
        rw [List.length_map] at hx
        exact f_rank_f j l n q1 (List.mem_range.mpr hx)⟩
    · exact ⟨fun j l n => (j.r, j.a, j.b, 0), fun n j _ l => f_rank_a j l n _⟩
    · exact ⟨fun j l n => (j.d - n - l, j.d, j.a, j.b), fun n j _ l => f_rank_l j l n _⟩
  obtain ⟨q, hq⟩ := hx
  obtain ⟨a, b, d, e, hd⟩ := f_ranked W h (pol := pol) (ord := .lst (dN (List.range ps.length))) (q := q) hq
  refine ⟨_, sim_sch (pl := plc (JJ ps) q) hcap hc0 fun n L k hk => plc_mem hk, a, b, d, runFn_eq rfl ?_, hd⟩
  have hin := in_tup hp
  have hf := fld_tasks ps T
  have hln : fLen [.tup (ps.map dTp)] = some (.int (ps.length : Int)) := by simp
  have hli : lListR (eF fLen (aC (e1 (fld 2 "tasks") (eN 0)) aN)) [.val (dSys ps T), .val (.lst (ps.map dRs)), .val (.str pol)] = .ok (dN (List.range ps.length)) := by
    have h1 : eF fLen (aC (e1 (fld 2 "tasks") (eN 0)) aN) [.val (dSys ps T), .val (.lst (ps.map dRs)), .val (.str pol)] = .ok (.int (ps.length : Int)) := by
      generalize dSys ps T = SS at *
      generalize ps.map dTp = TP at *
      simp -implicitDefEqProofs [hf, hln]
    unfold lListR
    rw [h1]
    show (if (decide ((0 : Int) ≤ (ps.length : Int)) && decide ((ps.length : Int) ≤ 1000000)) = true then Res.ok (rgD 0 (ps.length : Int)) else .stuck) = _
    rw [if_pos (by rw [Bool.and_eq_true, decide_eq_true_eq, decide_eq_true_eq]; omega), rg0_map]
  show (body_run_policy [.val (dSys ps T), .val (.lst (ps.map dRs)), .val (.str pol)]).res = _
  generalize dN (List.range ps.length) = ON at *
  generalize dOut a b d = OO at *
  generalize ps.map dRs = RS at *
  generalize dSys ps T = SS at *
  have hel : eL (lListR (eF fLen (aC (e1 (fld 2 "tasks") (eN 0)) aN))) [.val SS, .val (.lst RS), .val (.str pol)] = .ok (.lst ON) := by rw [eL_ap, hli]; rfl
  have hc : eCall Fn_run_ranked (aC (eN 0) (aC (eN 1) (aC (eN 2) (aC (eL (lListR (eF fLen (aC (e1 (fld 2 "tasks") (eN 0)) aN)))) aN)))) [.val SS, .val (.lst RS), .val (.str pol)] = .ok OO := by
    rw [eCall_ap, aC_ap, aC_ap, aC_ap, aC_ap, hel]
    show (Fn_run_ranked [SS, .lst RS, .str pol, .lst ON]).nx = _
    rw [e]; rfl
  unfold body_run_policy
  generalize tp_POLICIES.map D.str = PP at *
  generalize eCall Fn_run_ranked (aC (eN 0) (aC (eN 1) (aC (eN 2) (aC (eL (lListR (eF fLen (aC (e1 (fld 2 "tasks") (eN 0)) aN)))) aN)))) = CC at *
  simp -implicitDefEqProofs [hin, hc]
end G88

namespace G88
open PySem PySem.Spec PyProof.Rows L2 Pu Edf
/-! ### late_by_policy, fixed_order -/
def lateOf (r : Res D) : D := match r with
  | .ok o => (fld 0 "late" o).getD .non
  | _ => .non
theorem Out3.late {L : Nat → List Int} {J : List Jb} {r : Res D} (h : Out3 L J r) : ∃ o, r = .ok o ∧ fld 0 "late" o = some (lateOf r) ∧ ((lateOf r = .non ∧ Kept J L) ∨ (∃ x, lateOf r = .int x) ∧ ¬ Kept J L) := by
  obtain ⟨a, b, d, rfl, hd⟩ := h
  have e := fld_late a b d
  have e2 : lateOf (.ok (dOut a b d)) = d := by
    show (fld 0 "late" (dOut a b d)).getD .non = d
    rw [e]; rfl
  rw [e2]
  exact ⟨_, rfl, e, hd⟩
theorem f_lbp {ps : List Pt} {T : List Int} (W : Wd ps) (h : Tab T) : Fn_late_by_policy [dSys ps T, .lst (ps.map dRs)] = .ok (.lst (tp_POLICIES.map fun p => .tup [.str p, lateOf (Fn_run_policy [dSys ps T, .lst (ps.map dRs), .str p])])) := by
  have key := lcGo_map (g := gN 2) (ev := eT (aC (eN 2) (aC (e1 (fld 0 "late") (eCall Fn_run_policy (aApp (aC (eN 0) (aC (eN 1) aN)) (aC (eN 2) aN)))) aN))) (ρ := [.val (dSys ps T), .val (.lst (ps.map dRs)), .un]) (δ := D.str) (fun p => .tup [.str p, lateOf (Fn_run_policy [dSys ps T, .lst (ps.map dRs), .str p])]) tp_POLICIES (fun p hp => ⟨_, rfl, by
    obtain ⟨L, _, ho⟩ := f_policy W h hp
    obtain ⟨o, e, e2', _⟩ := ho.late
    generalize lateOf (Fn_run_policy [dSys ps T, .lst (ps.map dRs), .str p]) = LO at *
    generalize ps.map dRs = RS at *
    generalize dSys ps T = SS at *
    simp -implicitDefEqProofs [e, e2']⟩)
  refine runFn_eq rfl ?_
  have hz : (tp_POLICIES.map D.str).length ≤ sizeLine := small9000 (by rw [List.length_map]; show 4 ≤ 9000; omega)
  show (body_late_by_policy [.val (dSys ps T), .val (.lst (ps.map dRs)), .un]).res = _
  unfold body_late_by_policy
  generalize tp_POLICIES.map (fun p => D.tup [.str p, lateOf (Fn_run_policy [dSys ps T, .lst (ps.map dRs), .str p])]) = R at *
  generalize tp_POLICIES.map D.str = PP at *
  generalize ps.map dRs = RS at *
  generalize dSys ps T = SS at *
  simp -implicitDefEqProofs [hz, key]
end G88

namespace G88
open PySem PySem.Spec PyProof.Rows L2 Pu Edf
theorem ord_all (n : Nat) (hn : n ≤ 3) : ∀ o ∈ Prm.orders n, (∀ a < n, a ∈ o) ∧ o.length = n := by
  match n, hn with
  | 0, _ | 1, _ | 2, _ | 3, _ => decide
open Classical in
noncomputable def firstO (T : List Int) (J : List Jb) (n : Nat) : Option (List Nat) := (Prm.orders n).find? fun o => decide (Kept J (simF T J o))
theorem f_forder {ps : List Pt} {T : List Int} (W : Wd ps) (h : Tab T) : Fn_fixed_order [dSys ps T, .lst (ps.map dRs)] = .ok (match firstO T (JJ ps) ps.length with | some o => .tup (dN o) | none => .non) := by
  classical
  have l3 := W.l3
  have hO := ord_all ps.length l3
  have c1 := f_check (T := T) W
  have hord : ordD ps.length = (Prm.orders ps.length).map fun o => D.tup (dN o) := rfl
  obtain ⟨os, hos⟩ : ∃ os, Prm.orders ps.length = os := ⟨_, rfl⟩
  unfold firstO
  rw [hos] at hO hord ⊢
  have key := forS_ind (g := gN 2) (body := sIf (tV (e2 opIsN (e1 (fld 0 "late") (eCall Fn_run_fixed (aApp (aC (eN 0) (aC (eN 1) aN)) (aC (eN 2) aN)))) (eC .non))) (sRet (eN 2)) sNil)
    (fun o => ∃ ord, o = .rt (.tup (dN ord)) ∧ (os.find? fun o => decide (Kept (JJ ps) (simF T (JJ ps) o))) = some ord) (os.map fun o => D.tup (dN o))
    (fun i ρ => (∀ o ∈ os.take i, ¬ Kept (JJ ps) (simF T (JJ ps) o)) ∧ ∃ x, ρ = [.val (dSys ps T), .val (.lst (ps.map dRs)), x]) [.val (dSys ps T), .val (.lst (ps.map dRs)), .un] ⟨fun o ho => by simp at ho, _, rfl⟩ (fun i d ρ e hi => by
      obtain ⟨hn, x, rfl⟩ := hi
      rw [List.getElem?_map] at e
      obtain ⟨o, eo, rfl⟩ := Option.map_eq_some_iff.mp e
      have ho := hO o (List.mem_of_getElem? eo)
      obtain ⟨r, k1, k2, k3⟩ := (f_fixed W h ho.1 (by have := ho.2; omega) (od := .tup (dN o)) (.inr rfl)).late
      refine ⟨[.val (dSys ps T), .val (.lst (ps.map dRs)), .val (.tup (dN o))], rfl, ?_⟩
      generalize lateOf (Fn_run_fixed [dSys ps T, .lst (ps.map dRs), .tup (dN o)]) = LO at *
      rcases k3 with ⟨rfl, hK⟩ | ⟨⟨z, rfl⟩, hK⟩
      · right
        refine ⟨.rt (.tup (dN o)), ?_, trivial, o, rfl, ?_⟩
        · generalize ps.map dRs = RS at *
          generalize dSys ps T = SS at *
          generalize dN o = DO at *
          simp -implicitDefEqProofs [k1, k2]
        · have hsp : os = os.take i ++ o :: os.drop (i + 1) := by
            conv => lhs; rw [← List.take_append_drop i os]
            congr 1
            have hil := (List.getElem?_eq_some_iff.mp eo).1
            rw [List.drop_eq_getElem_cons hil]
            rw [List.getElem?_eq_getElem hil] at eo
            rw [Option.some.inj eo]
          rw [hsp, List.find?_append, List.find?_eq_none.mpr (fun o ho => by simpa using hn o ho)]
          rw [Option.none_or, List.find?_cons, decide_eq_true hK]
      · left
        refine ⟨[.val (dSys ps T), .val (.lst (ps.map dRs)), .val (.tup (dN o))], .inl ?_, fun o' ho' => ?_, _, rfl⟩
        · generalize ps.map dRs = RS at *
          generalize dSys ps T = SS at *
          generalize dN o = DO at *
          simp -implicitDefEqProofs [k1, k2]
        · rw [take_snoc eo] at ho'
          rcases List.mem_append.mp ho' with ho' | ho'
          · exact hn o' ho'
          · rw [List.mem_singleton.mp ho']; exact hK)
  have hf := fld_tasks ps T
  have hln : fLen [.tup (ps.map dTp)] = some (.int (ps.length : Int)) := by simp
  have hP : asP (.int (ps.length : Int)) = .ok (os.map fun o => D.tup (dN o)) := by
    show (if (decide ((0 : Int) ≤ (ps.length : Int)) && decide ((ps.length : Int) ≤ 3)) = true then Res.ok (ordD (ps.length : Int).toNat) else .stuck) = _
    rw [if_pos (by rw [Bool.and_eq_true, decide_eq_true_eq, decide_eq_true_eq]; omega), Int.toNat_natCast, hord]
  have hiP : iP (eF fLen (aC (e1 (fld 2 "tasks") (eN 0)) aN)) [.val (dSys ps T), .val (.lst (ps.map dRs)), .un] = .ok (os.map fun o => D.tup (dN o)) := by
    have h1 : eF fLen (aC (e1 (fld 2 "tasks") (eN 0)) aN) [.val (dSys ps T), .val (.lst (ps.map dRs)), .un] = .ok (.int (ps.length : Int)) := by
      generalize dSys ps T = SS at *
      generalize ps.map dTp = TP at *
      simp -implicitDefEqProofs [hf, hln]
    unfold iP
    rw [h1]; exact hP
  refine runFn_eq rfl ?_
  show (body_fixed_order [.val (dSys ps T), .val (.lst (ps.map dRs)), .un]).res = _
  rw [List.length_map] at key
  rcases key with ⟨ρ', e, hn, x, rfl⟩ | ⟨o, e, hf2⟩
  · rw [List.take_length] at hn
    rw [List.find?_eq_none.mpr (fun o ho => by simpa using hn o ho)]
    generalize (os.map fun o => D.tup (dN o)) = OD at *
    generalize ps.map dRs = RS at *
    generalize dSys ps T = SS at *
    simp -implicitDefEqProofs [body_fixed_order, c1, hiP, e]
  · rw [hf2]
    generalize (os.map fun o => D.tup (dN o)) = OD at *
    generalize ps.map dRs = RS at *
    generalize dSys ps T = SS at *
    simp -implicitDefEqProofs [body_fixed_order, c1, hiP, e]
end G88

namespace G88
open PySem PySem.Spec PyProof.Rows L2 Pu Edf
theorem f_orders (n : Nat) (hn : n ≤ 3) : Fn_law_orders [.int n] = .ok (.lst ((Prm.orders n).map fun o => .lst (dN o))) := by
  match n, hn with
  | 0, _ => rfl
  | 1, _ => rfl
  | 2, _ => rfl
  | 3, _ => rfl
theorem f_lrank (j : Jb) (l : Int) (n : Nat) {ord : List Nat} {a : Nat} (ha : j.a = a) (h : a ∈ ord) : Fn_law_rank [.str "fixed", dJ j, .int l, .int n, .lst (dN ord)] = .ok (rD (qF ord j l n)) := by
  refine runFn_eq rfl ?_
  have e1 := eq_no n_fd
  have e2' := eq_yes "fixed"
  have e3 := idx_of h
  rw [← ha] at e3
  have j2 : opIx (dJ j) (.int 2) = some (.int j.a) := rfl
  have j3 : opIx (dJ j) (.int 3) = some (.int j.b) := rfl
  have e4 : eIdx (eN 4) (e2 opIx (eN 1) (eC (.int 2))) [.val (.str "fixed"), .val (dJ j), .val (.int l), .val (.int n), .val (.lst (dN ord))] = .ok (.int (ixO ord j.a)) := by
    show Res.of (opIndex (dN ord) (.int j.a)) = _
    rw [e3]; rfl
  show (body_law_rank [.val (.str "fixed"), .val (dJ j), .val (.int l), .val (.int n), .val (.lst (dN ord))]).res = _
  unfold rD qF
  unfold body_law_rank
  generalize dN ord = DO at *
  generalize dJ j = DJ at *
  generalize (Str.ofString "deadline") = S1 at *
  generalize (Str.ofString "fixed") = S2 at *
  generalize (Str.ofString "arrival") = S3 at *
  simp -implicitDefEqProofs [-opEq_str, e1, e2', e4, j3]
end G88

namespace G88
open PySem PySem.Spec PyProof.Rows L2 Pu Edf
/-! ### the law's late -/
/-- what the law's list of ends holds -/
def dEnds (L : Nat → List Int) (N : Nat) (J : List Jb) (vs : List D) : Prop := vs.length = J.length ∧ ∀ (i : Nat) (j : Jb), J[i]? = some j → ∃ v, vs[i]? = some v ∧ EndV L N i v
theorem f_llate {cp : Nat → Int} {J : List Jb} {L : Nat → List Int} {ns : List Nat} (S : Sch cp J L) (hJ : JOk J ns) {N : Nat} (hN : ∀ j ∈ J, j.d ≤ N) {vs : List D} (hE : dEnds L N J vs) :
    ∃ d, Fn_law_late [.lst (J.map dJ), .lst vs] = .ok d ∧ ((d = .non ∧ Kept J L) ∨ (∃ x, d = .int x) ∧ ¬ Kept J L) := by
  have hl := hJ.len
  have key := forS_ind (g := gN 2) (body := sIf (tOr' (tV (e2 opIsN (e2 opIx (eN 1) (eN 2)) (eC .non))) (tV (e2 opGt (e2 opIx (eN 1) (eN 2)) (e2 opIx (e2 opIx (eN 0) (eN 2)) (eC (.int 0)))))) (sRet (e2 opIx (e2 opIx (eN 0) (eN 2)) (eC (.int 0)))) sNil)
    (fun o => ∃ x, o = .rt (.int x) ∧ ¬ Kept J L) (rgD 0 (J.length : Int)) (fun i ρ => (∀ k < i, ∀ j, J[k]? = some j → gi (L j.d.toNat) k = 0) ∧ ∃ x, ρ = [.val (.lst (J.map dJ)), .val (.lst vs), x])
    [.val (.lst (J.map dJ)), .val (.lst vs), .un] ⟨fun k hk => absurd hk (Nat.not_lt_zero _), _, rfl⟩ (fun i d ρ e hi => by
      obtain ⟨hk, x, rfl⟩ := hi
      obtain ⟨rfl, hil⟩ := rg0_some e
      obtain ⟨j, ej⟩ : ∃ j, J[i]? = some j := ⟨_, List.getElem?_eq_getElem (by omega)⟩
      obtain ⟨v, h1, h3⟩ := hE.2 i j ej
      have hj := List.mem_of_getElem? ej
      have hjj := hJ.j j hj
      have i1 : opIx (.lst vs) (.int (i : Int)) = some v := ix_lst' rfl h1
      have i2 : opIx (.lst (J.map dJ)) (.int (i : Int)) = some (dJ j) := ix_lst' rfl (by rw [List.getElem?_map, ej]; rfl)
      have i3 : opIx (dJ j) (.int 0) = some (.int j.d) := rfl
      refine ⟨[.val (.lst (J.map dJ)), .val (.lst vs), .val (.int i)], rfl, ?_⟩
      have nx : gi (L j.d.toNat) i = 0 → ∀ k < i + 1, ∀ j, J[k]? = some j → gi (L j.d.toNat) k = 0 := fun h0 k hk' j' ej' => by
        by_cases q : k < i
        · exact hk k q j' ej'
        · have : k = i := by omega
          subst this
          rw [ej] at ej'; cases ej'
          exact h0
      generalize J.map dJ = JS at *
      generalize dJ j = DJ at *
      rcases h3.kept S (j := j) (by omega) (hN j hj) with ⟨rfl, h0⟩ | ⟨ee, rfl, h0⟩
      · right
        refine ⟨.rt (.int j.d), ?_, trivial, j.d, rfl, fun K => h0 (K i j ej)⟩
        simp -implicitDefEqProofs [i1, i2, i3]
      · by_cases q : (ee : Int) ≤ j.d
        · left
          have q' : ¬ j.d < (ee : Int) := by omega
          refine ⟨[.val (.lst JS), .val (.lst vs), .val (.int i)], .inl ?_, nx (h0.mpr q), _, rfl⟩
          simp -implicitDefEqProofs [i1, i2, i3, q']
        · right
          have q' : j.d < (ee : Int) := by omega
          refine ⟨.rt (.int j.d), ?_, trivial, j.d, rfl, fun K => q (h0.mp (K i j ej))⟩
          simp -implicitDefEqProofs [i1, i2, i3, q'])
  rw [rgD_length, show ((J.length : Int) - 0).toNat = J.length by omega] at key
  have hln : fLen [.lst (J.map dJ)] = some (.int (J.length : Int)) := by simp
  have hr := asR1_of (J.length : Int) (by omega) (by omega)
  rcases key with ⟨ρ', e, hk, x, rfl⟩ | ⟨x, e, hk⟩
  · refine ⟨.non, runFn_eq rfl ?_, .inl ⟨rfl, fun i j ej => hk i (List.getElem?_eq_some_iff.mp ej).1 j ej⟩⟩
    show (body_law_late [.val (.lst (J.map dJ)), .val (.lst vs), .un]).res = _
    generalize J.map dJ = JS at *
    generalize rgD 0 (J.length : Int) = RG at *
    generalize (J.length : Int) = Z at *
    simp -implicitDefEqProofs [body_law_late, hln, hr, e]
  · refine ⟨.int x, runFn_eq rfl ?_, .inr ⟨⟨x, rfl⟩, hk⟩⟩
    show (body_law_late [.val (.lst (J.map dJ)), .val (.lst vs), .un]).res = _
    generalize J.map dJ = JS at *
    generalize rgD 0 (J.length : Int) = RG at *
    generalize (J.length : Int) = Z at *
    simp -implicitDefEqProofs [body_law_late, hln, hr, e]
end G88

namespace G88
open PySem PySem.Spec PyProof.Rows L2 Pu Edf
/-! ### the law's rows -/
@[simp] theorem sPut_ap (i : Nat) (j a : Ev) (ρ : PEnv) : sPut i j a ρ = match ρ[i]? with | some (.own ds) => Out.of (a ρ) fun d => Out.of (j ρ) fun k => putAt i ρ ds d k | _ => .stuck := rfl
abbrev Part := Int × Int × Int
def dPt (p : Part) : D := .tup [.int p.1, .int p.2.1, .int p.2.2]
/-- what a row gives a job -/
def usum (a b : Int) : List Part → Int
  | [] => 0
  | p :: r => (if p.1 = a ∧ p.2.1 = b then p.2.2 else 0) + usum a b r
theorem usum_snoc (a b : Int) (p : Part) : ∀ r : List Part, usum a b (r ++ [p]) = usum a b r + (if p.1 = a ∧ p.2.1 = b then p.2.2 else 0)
  | [] => by show _ + usum a b [] = usum a b [] + _; show _ + 0 = 0 + _; omega
  | q :: r => by
    show _ + usum a b (r ++ [p]) = _ + usum a b r + _
    rw [usum_snoc a b p r]; omega
theorem usum_nn {a b : Int} : ∀ {r : List Part}, (∀ p ∈ r, 0 < p.2.2) → 0 ≤ usum a b r
  | [], _ => Int.le_refl _
  | q :: r, h => by
    have := usum_nn (a := a) (b := b) (r := r) fun p hp => h p (List.mem_cons_of_mem _ hp)
    have := h q List.mem_cons_self
    show 0 ≤ _ + usum a b r
    split <;> omega
theorem usum_take {a b : Int} {r : List Part} (h : ∀ p ∈ r, 0 < p.2.2) (k : Nat) : usum a b (r.take k) ≤ usum a b r := by
  have e : ∀ x y : List Part, usum a b (x ++ y) = usum a b x + usum a b y := fun x y => by
    induction x with
    | nil => show usum a b y = 0 + _; omega
    | cons p x ih => show _ + usum a b (x ++ y) = _ + usum a b x + _; rw [ih]; omega
  have h2 := e (r.take k) (r.drop k)
  rw [List.take_append_drop] at h2
  have := usum_nn (a := a) (b := b) (r := r.drop k) fun p hp => h p (List.mem_of_mem_drop hp)
  omega
/-- a row is what has been taken -/
structure RowOk (J : List Jb) (L L' : List Int) (r : List Part) : Prop where
  pos : ∀ p ∈ r, 0 < p.2.2
  sum : ∀ (i : Nat) (j : Jb), J[i]? = some j → usum j.a j.b r = gi L i - gi L' i
theorem RowOk.start (J : List Jb) (L : List Int) : RowOk J L L [] := ⟨fun p h => by (cases h), fun i j _ => by show (0 : Int) = _; omega⟩
theorem RowOk.add {J : List Jb} {ns : List Nat} (hJ : JOk J ns) {L L' : List Int} {r : List Part} (h : RowOk J L L' r) {k : Nat} {j : Jb} (ej : J[k]? = some j) (hk : k < L'.length) {m : Int} (hm : 0 < m) : RowOk J L (L'.set k (gi L' k - m)) (r ++ [(j.a, j.b, m)]) := by
  refine ⟨fun p hp => ?_, fun i j' ei => ?_⟩
  · rcases List.mem_append.mp hp with hp | hp
    · exact h.pos p hp
    · rw [List.mem_singleton.mp hp]; exact hm
  · rw [usum_snoc, h.sum i j' ei, gi_set hk]
    by_cases q : i = k
    · subst q
      rw [ej] at ei; cases ei
      rw [if_pos ⟨rfl, rfl⟩, if_pos rfl]
      show _ + m = _
      omega
    · rw [if_neg q, if_neg]
      · omega
      · rintro ⟨z1, z2⟩
        have hi := (List.getElem?_eq_some_iff.mp ei).1
        have hkk : (J.map fun j => (j.a, j.b))[i]? = (J.map fun j => (j.a, j.b))[k]? := by
          rw [List.getElem?_map, List.getElem?_map, ei, ej, Option.map_some, Option.map_some]
          exact congrArg some (Prod.ext z1.symm z2.symm)
        exact q ((List.getElem?_inj (by rw [List.length_map]; exact hi) hJ.nd).mp hkk)
/-- one slot of the law's policy -/
theorem pol_loop {J : List Jb} {ns : List Nat} (hJ : JOk J ns) (tb sz po od sl : Pu.Slot) {L : List Int} (hlen : L.length = J.length) (q : Rank) (n : Nat) (u : Int) (Q : List Nat) (hQ : ∀ k ∈ Q, k < J.length) (hQ9 : Q.length ≤ 900) (x8 x9 x12 x13 x14 x15 x6 : Pu.Slot) :
    ∃ (r : List Part) (y12 y13 : Pu.Slot), forS (gN 12) (sSeq (sSet 13 (eF fMin2 (aC (eN 10) (aC (e2 opIx (eB 5) (e2 opIx (eN 12) (eC (.int 1)))) aN))))
    (sIf (tV (e2 opGt (eN 13) (eC (.int 0)))) (sSeq (sPut 5 (e2 opIx (eN 12) (eC (.int 1))) (e2 opSub (e2 opIx (eB 5) (e2 opIx (eN 12) (eC (.int 1)))) (eN 13)))
    (sSeq (sSet 10 (e2 opSub (eN 10) (eN 13)))
    (sApp 11 (eT (aC (e2 opIx (e2 opIx (eN 0) (e2 opIx (eN 12) (eC (.int 1)))) (eC (.int 2))) (aC (e2 opIx (e2 opIx (eN 0) (e2 opIx (eN 12) (eC (.int 1)))) (eC (.int 3))) (aC (eN 13) aN))))))) sNil)) (Q.map (kf J q n L))
      [.val (.lst (J.map dJ)), tb, sz, po, od, .own (L.map D.int), x6, sl, x8, x9, .val (.int u), .own [], x12, x13, x14, x15] = .nx [.val (.lst (J.map dJ)), tb, sz, po, od, .own ((srv Q (L, u)).1.map D.int), x6, sl, x8, x9, .val (.int (srv Q (L, u)).2), .own (r.map dPt), y12, y13, x14, x15] ∧ RowOk J L (srv Q (L, u)).1 r ∧ r.length ≤ Q.length ∧ (srv Q (L, u)).1.length = J.length := by
  obtain ⟨ρ', e, r, y12, y13, rfl, h1, h2, h3⟩ := forS_thru (g := gN 12) (body := sSeq (sSet 13 (eF fMin2 (aC (eN 10) (aC (e2 opIx (eB 5) (e2 opIx (eN 12) (eC (.int 1)))) aN))))
    (sIf (tV (e2 opGt (eN 13) (eC (.int 0)))) (sSeq (sPut 5 (e2 opIx (eN 12) (eC (.int 1))) (e2 opSub (e2 opIx (eB 5) (e2 opIx (eN 12) (eC (.int 1)))) (eN 13)))
    (sSeq (sSet 10 (e2 opSub (eN 10) (eN 13)))
    (sApp 11 (eT (aC (e2 opIx (e2 opIx (eN 0) (e2 opIx (eN 12) (eC (.int 1)))) (eC (.int 2))) (aC (e2 opIx (e2 opIx (eN 0) (e2 opIx (eN 12) (eC (.int 1)))) (eC (.int 3))) (aC (eN 13) aN))))))) sNil)) (Q.map (kf J q n L))
    (fun i ρ => ∃ (r : List Part) (y12 y13 : Pu.Slot), ρ = [.val (.lst (J.map dJ)), tb, sz, po, od, .own ((srv (Q.take i) (L, u)).1.map D.int), x6, sl, x8, x9, .val (.int (srv (Q.take i) (L, u)).2), .own (r.map dPt), y12, y13, x14, x15] ∧ RowOk J L (srv (Q.take i) (L, u)).1 r ∧ r.length ≤ i ∧ (srv (Q.take i) (L, u)).1.length = J.length)
    [.val (.lst (J.map dJ)), tb, sz, po, od, .own (L.map D.int), x6, sl, x8, x9, .val (.int u), .own [], x12, x13, x14, x15] ⟨[], _, _, rfl, RowOk.start J L, Nat.le_refl _, hlen⟩ (fun i d ρ e hi => by
      obtain ⟨r, y12, y13, rfl, h1, h2, h3⟩ := hi
      rw [List.getElem?_map] at e
      obtain ⟨k, ek, rfl⟩ := Option.map_eq_some_iff.mp e
      have hk := hQ k (List.mem_of_getElem? ek)
      have hil := (List.getElem?_eq_some_iff.mp ek).1
      obtain ⟨j, ej⟩ : ∃ j, J[k]? = some j := ⟨_, List.getElem?_eq_getElem hk⟩
      have hsv : srv (Q.take (i + 1)) (L, u) = sv (srv (Q.take i) (L, u)) k := by rw [take_snoc ek, srv_app]; rfl
      rw [hsv]
      generalize srv (Q.take i) (L, u) = q0 at *
      obtain ⟨L1, u1⟩ := q0
      simp only at h1 h3 ⊢
      have hkL : k < L1.length := by omega
      have iC : opIx (.lst (L1.map D.int)) (.int (k : Int)) = some (.int (gi L1 k)) := ix_lst' rfl (by rw [List.getElem?_map, gi_get hkL]; rfl)
      have iJ : opIx (.lst (J.map dJ)) (.int (k : Int)) = some (dJ j) := ix_lst' rfl (by rw [List.getElem?_map, ej]; rfl)
      have j2 : opIx (dJ j) (.int 2) = some (.int j.a) := rfl
      have j3 : opIx (dJ j) (.int 3) = some (.int j.b) := rfl
      have hp1 : opIx (kf J q n L k) (.int 1) = some (.int k) := rfl
      have hmin : fMin2 [.int u1, .int (gi L1 k)] = some (.int (min u1 (gi L1 k))) := rfl
      have hsub : opSub (.int (gi L1 k)) (.int (min u1 (gi L1 k))) = some (.int (gi L1 k - min u1 (gi L1 k))) := rfl
      have hsub2 : opSub (.int u1) (.int (min u1 (gi L1 k))) = some (.int (u1 - min u1 (gi L1 k))) := rfl
      have hsz : (r.map dPt).length < sizeLine := by rw [List.length_map]; exact small1000 (by omega)
      by_cases hm : 0 < min u1 (gi L1 k)
      · have esv : sv (L1, u1) k = (L1.set k (gi L1 k - min u1 (gi L1 k)), u1 - min u1 (gi L1 k)) := if_pos hm
        rw [esv]
        have hrow := h1.add hJ ej hkL hm
        have hput : ∀ (ρ : PEnv), putAt 5 ρ (L1.map D.int) (.int (gi L1 k - min u1 (gi L1 k))) (.int (k : Int)) = .nx (ρ.set 5 (.own ((L1.set k (gi L1 k - min u1 (gi L1 k))).map D.int))) := fun ρ => by
          rw [putAt_of (n := k) rfl (by rw [List.length_map]; exact hkL), List.map_set]
        refine ⟨_, [.val (.lst (J.map dJ)), tb, sz, po, od, .own ((L1.set k (gi L1 k - min u1 (gi L1 k))).map D.int), x6, sl, x8, x9, .val (.int (u1 - min u1 (gi L1 k))), .own ((r ++ [(j.a, j.b, min u1 (gi L1 k))]).map dPt), .val (kf J q n L k), .val (.int (min u1 (gi L1 k))), x14, x15], rfl, .inl ?_, _, _, _, rfl, hrow, by rw [List.length_append]; simp; omega, by rw [List.length_set]; exact h3⟩
        rw [List.map_append, List.map_singleton, show dPt (j.a, j.b, min u1 (gi L1 k)) = .tup [.int j.a, .int j.b, .int (min u1 (gi L1 k))] from rfl]
        generalize hxx : gi L1 k - min u1 (gi L1 k) = xx at *
        generalize min u1 (gi L1 k) = m1 at *
        generalize gi L1 k = g1 at *
        generalize (L1.set k xx).map D.int = C2 at *
        generalize L1.map D.int = C1 at *
        generalize r.map dPt = RR at *
        generalize kf J q n L k = KF at *
        generalize J.map dJ = JS at *
        generalize dJ j = DJ at *
        simp -implicitDefEqProofs [-fMin2_int, -opSub_int, hp1, iC, hmin, hm, hsub, hput, hsub2, iJ, j2, j3, hsz]
      · have esv : sv (L1, u1) k = (L1, u1) := if_neg hm
        rw [esv]
        refine ⟨_, [.val (.lst (J.map dJ)), tb, sz, po, od, .own (L1.map D.int), x6, sl, x8, x9, .val (.int u1), .own (r.map dPt), .val (kf J q n L k), .val (.int (min u1 (gi L1 k))), x14, x15], rfl, .inl ?_, r, _, _, rfl, h1, by omega, h3⟩
        generalize min u1 (gi L1 k) = m1 at *
        generalize gi L1 k = g1 at *
        generalize L1.map D.int = C1 at *
        generalize r.map dPt = RR at *
        generalize kf J q n L k = KF at *
        generalize J.map dJ = JS at *
        simp -implicitDefEqProofs [-fMin2_int, hp1, iC, hmin, hm])
  rw [List.length_map, List.take_length] at *
  exact ⟨r, y12, y13, e, h1, h2, h3⟩
end G88

namespace G88
open PySem PySem.Spec PyProof.Rows L2 Pu Edf
theorem rdy_jat (J : List Jb) (n : Nat) (L : List Int) : rdy J n L = (List.range J.length).filter fun k => decide ((jat J k).r ≤ (n : Int)) && decide (0 < gi L k) := rfl
theorem f_lpolicy {J : List Jb} {ns : List Nat} (hJ : JOk J ns) {T : List Int} (h : Tab T) {ord : List Nat} (ho : ∀ j ∈ J, ∃ a : Nat, j.a = a ∧ a ∈ ord) {N : Nat} (hN : N ≤ 6000) :
    ∃ R : List (List Part), Fn_law_policy [.lst (J.map dJ), dI T, .int N, .str "fixed", .lst (dN ord)] = .ok (.lst (R.map fun r => .lst (r.map dPt))) ∧ R.length = N ∧ ∀ (n : Nat) (r : List Part), R[n]? = some r → RowOk J (simF T J ord n) (simF T J ord (n + 1)) r := by
  have hl := hJ.len
  have l1 := h.l1
  have hcap : ∀ n, 0 ≤ cap T n := fun n => (cap_nn h n).1
  have hc0 : ∀ j ∈ J, 0 ≤ j.c := fun j hj => by have := hJ.j j hj; omega
  have S : Sch (cap T) J (simF T J ord) := sim_sch hcap hc0 fun n L k hk => plc_mem hk
  have hstart : lLc (iS (eN 0)) (gN 14) [14] tYes' (e2 opIx (eN 14) (eC (.int 4))) [.val (.lst (J.map dJ)), .val (dI T), .val (.int N), .val (.str "fixed"), .val (.lst (dN ord)), .un, .un, .un, .un, .un, .un, .un, .un, .un, .un, .un] = .ok ((simF T J ord 0).map D.int) := by
    have key := lcGo_map (g := gN 14) (ev := e2 opIx (eN 14) (eC (.int 4))) (ρ := [.val (.lst (J.map dJ)), .val (dI T), .val (.int N), .val (.str "fixed"), .val (.lst (dN ord)), .un, .un, .un, .un, .un, .un, .un, .un, .un, .un, .un]) (δ := dJ) (fun j => D.int j.c) J (fun j _ => ⟨_, rfl, by
      unfold dJ
      simp -implicitDefEqProofs []⟩)
    have hz : (J.map dJ).length ≤ sizeLine := by rw [List.length_map]; exact small9000 (by omega)
    show (if (J.map dJ).length ≤ sizeLine then lcGo (gN 14) tYes' _ _ (J.map dJ) else .stuck) = .ok ((J.map (·.c)).map D.int)
    rw [if_pos hz, List.map_map]; exact key
  have plS : ∀ (L : List Int) (n : Nat) (x6 x7 x8 x9 x10 x11 x12 x13 x14 : Pu.Slot), L.length = J.length →
      lLc (iR1 (aC (eF fLen (aC (eN 0) aN)) aN)) (gN 15) [15] (tAnd' (tV (e2 opLe (e2 opIx (e2 opIx (eN 0) (eN 15)) (eC (.int 1))) (eN 7))) (tV (e2 opGt (e2 opIx (eB 5) (eN 15)) (eC (.int 0))))) (eN 15)
        [.val (.lst (J.map dJ)), .val (dI T), .val (.int N), .val (.str "fixed"), .val (.lst (dN ord)), .own (L.map D.int), x6, .val (.int n), x8, x9, x10, x11, x12, x13, x14, .un] = .ok ((rdy J n L).map fun (k : Nat) => D.int k) := fun L n x6 x7 x8 x9 x10 x11 x12 x13 x14 hL => by
    have key := lcGo_filter (g := gN 15) (tt := tAnd' (tV (e2 opLe (e2 opIx (e2 opIx (eN 0) (eN 15)) (eC (.int 1))) (eN 7))) (tV (e2 opGt (e2 opIx (eB 5) (eN 15)) (eC (.int 0))))) (ev := eN 15)
      (ρ := [.val (.lst (J.map dJ)), .val (dI T), .val (.int N), .val (.str "fixed"), .val (.lst (dN ord)), .own (L.map D.int), x6, .val (.int n), x8, x9, x10, x11, x12, x13, x14, .un]) (δ := fun (k : Nat) => D.int k) (fun k => decide ((jat J k).r ≤ (n : Int)) && decide (0 < gi L k)) (fun (k : Nat) => D.int k) (List.range J.length) (fun k hk => ⟨_, rfl, by
        have hk := List.mem_range.mp hk
        have ej := List.getElem?_eq_getElem hk
        have hj : jat J k = J[k] := by unfold jat; rw [ej]; rfl
        have i1 : opIx (.lst (J.map dJ)) (.int (k : Int)) = some (dJ J[k]) := ix_lst' rfl (by rw [List.getElem?_map, ej]; rfl)
        have i2 : opIx (dJ J[k]) (.int 1) = some (.int (J[k]).r) := rfl
        have i3 : opIx (.lst (L.map D.int)) (.int (k : Int)) = some (.int (gi L k)) := ix_lst' rfl (by rw [List.getElem?_map, gi_get (by omega)]; rfl)
        rw [hj]
        generalize J.map dJ = JS at *
        generalize L.map D.int = LL at *
        generalize dI T = TT at *
        generalize dN ord = DO at *
        generalize dJ J[k] = DJ at *
        by_cases h1 : (J[k]).r ≤ n <;> by_cases h2 : 0 < gi L k <;> simp -implicitDefEqProofs [i1, i2, i3, h1, h2], rfl⟩)
    have hr := asR1_of (J.length : Int) (by omega) (by omega)
    have hit : iR1 (aC (eF fLen (aC (eN 0) aN)) aN) [.val (.lst (J.map dJ)), .val (dI T), .val (.int N), .val (.str "fixed"), .val (.lst (dN ord)), .own (L.map D.int), x6, .val (.int n), x8, x9, x10, x11, x12, x13, x14, .un] = .ok (rgD 0 (J.length : Int)) := by
      have hln : fLen [.lst (J.map dJ)] = some (.int (J.length : Int)) := by simp
      generalize J.map dJ = JS at *
      simp -implicitDefEqProofs [hln, hr]
    unfold lLc
    rw [hit]
    show (if (rgD 0 (J.length : Int)).length ≤ sizeLine then lcGo (gN 15) _ _ _ (rgD 0 (J.length : Int)) else .stuck) = _
    rw [if_pos (by rw [rgD_length]; exact small9000 (by omega)), rg0_map]
    exact key
  have rkS : ∀ (L : List Int) (n : Nat) (x6 x9 x10 x11 x12 x13 x14 : Pu.Slot), L.length = J.length →
      lSrt (eL (lLc (iS (eN 8)) (gN 15) [15] tYes' (eT (aC (eCall Fn_law_rank (aC (eN 3) (aC (e2 opIx (eN 0) (eN 15)) (aC (e2 opIx (eB 5) (eN 15)) (aC (eN 7) (aC (eN 4) aN)))))) (aC (eN 15) aN)))))
        [.val (.lst (J.map dJ)), .val (dI T), .val (.int N), .val (.str "fixed"), .val (.lst (dN ord)), .own (L.map D.int), x6, .val (.int n), .val (.lst ((rdy J n L).map fun (k : Nat) => D.int k)), x9, x10, x11, x12, x13, x14, .un] = .ok ((plc J (qF ord) n L).map (kf J (qF ord) n L)) := fun L n x6 x9 x10 x11 x12 x13 x14 hL => by
    refine lSrt_plc ?_
    have key := lcGo_map (g := gN 15) (ev := eT (aC (eCall Fn_law_rank (aC (eN 3) (aC (e2 opIx (eN 0) (eN 15)) (aC (e2 opIx (eB 5) (eN 15)) (aC (eN 7) (aC (eN 4) aN)))))) (aC (eN 15) aN)))
      (ρ := [.val (.lst (J.map dJ)), .val (dI T), .val (.int N), .val (.str "fixed"), .val (.lst (dN ord)), .own (L.map D.int), x6, .val (.int n), .val (.lst ((rdy J n L).map fun (k : Nat) => D.int k)), x9, x10, x11, x12, x13, x14, .un]) (δ := fun (k : Nat) => D.int k) (kf J (qF ord) n L) (rdy J n L) (fun k hk => ⟨_, rfl, by
        have hk := (rdy_mem hk).1
        have ej := List.getElem?_eq_getElem hk
        have hj : jat J k = J[k] := by unfold jat; rw [ej]; rfl
        obtain ⟨a, ha, hao⟩ := ho J[k] (List.getElem_mem hk)
        have i1 : opIx (.lst (J.map dJ)) (.int (k : Int)) = some (dJ J[k]) := ix_lst' rfl (by rw [List.getElem?_map, ej]; rfl)
        have i3 : opIx (.lst (L.map D.int)) (.int (k : Int)) = some (.int (gi L k)) := ix_lst' rfl (by rw [List.getElem?_map, gi_get (by omega)]; rfl)
        have i4 := f_lrank J[k] (gi L k) n ha hao
        have i5 : kf J (qF ord) n L k = .tup [rD (qF ord J[k] (gi L k) n), .int k] := by unfold kf; rw [hj]
        rw [i5]
        generalize (rdy J n L).map (fun (k : Nat) => D.int k) = RL at *
        generalize J.map dJ = JS at *
        generalize L.map D.int = LL at *
        generalize dI T = TT at *
        generalize dN ord = DO at *
        generalize dJ J[k] = DJ at *
        generalize rD (qF ord J[k] (gi L k) n) = RD at *
        generalize (Str.ofString "fixed") = FX at *
        simp -implicitDefEqProofs [i1, i3, i4]⟩)
    have hz : ((rdy J n L).map fun (k : Nat) => D.int k).length ≤ sizeLine := by rw [List.length_map]; exact small9000 (by have := rdy_len J n L; omega)
    rw [eL_ap]
    have hlc : lLc (iS (eN 8)) (gN 15) [15] tYes' (eT (aC (eCall Fn_law_rank (aC (eN 3) (aC (e2 opIx (eN 0) (eN 15)) (aC (e2 opIx (eB 5) (eN 15)) (aC (eN 7) (aC (eN 4) aN)))))) (aC (eN 15) aN))) [.val (.lst (J.map dJ)), .val (dI T), .val (.int N), .val (.str "fixed"), .val (.lst (dN ord)), .own (L.map D.int), x6, .val (.int n), .val (.lst ((rdy J n L).map fun (k : Nat) => D.int k)), x9, x10, x11, x12, x13, x14, .un] = .ok ((rdy J n L).map (kf J (qF ord) n L)) := by
      show (if ((rdy J n L).map fun (k : Nat) => D.int k).length ≤ sizeLine then lcGo (gN 15) tYes' _ _ ((rdy J n L).map fun (k : Nat) => D.int k) else .stuck) = _
      rw [if_pos hz]; exact key
    rw [hlc]; rfl
  have wipe : ∀ (L : List Int) (n : Nat) (x6 x8 x9 x10 x11 x12 x13 x14 x15 : Pu.Slot), L.length = J.length → True := fun _ _ _ _ _ _ _ _ _ _ _ _ => trivial
  obtain ⟨ρ', e, R, x8, x9, x10, x11, x12, x13, x7, rfl, hR, hR2⟩ := forS_thru (g := gN 7) (body := (sSeq (sSet 8 (eL (lLc (iR1 (aC (eF fLen (aC (eN 0) aN)) aN)) (gN 15) [15] (tAnd' (tV (e2 opLe (e2 opIx (e2 opIx (eN 0) (eN 15)) (eC (.int 1))) (eN 7))) (tV (e2 opGt (e2 opIx (eB 5) (eN 15)) (eC (.int 0))))) (eN 15))))
    (sSeq (sSet 9 (eL (lSrt (eL (lLc (iS (eN 8)) (gN 15) [15] tYes' (eT (aC (eCall Fn_law_rank (aC (eN 3) (aC (e2 opIx (eN 0) (eN 15)) (aC (e2 opIx (eB 5) (eN 15)) (aC (eN 7) (aC (eN 4) aN)))))) (aC (eN 15) aN))))))))
    (sSeq (sSet 10 (e2 opIx (eN 1) (e2 opMod (eN 7) (eF fLen (aC (eN 1) aN)))))
    (sSeq (sOwn 11 aN)
    (sSeq (sFor (iS (eN 9)) (gN 12) (sSeq (sSet 13 (eF fMin2 (aC (eN 10) (aC (e2 opIx (eB 5) (e2 opIx (eN 12) (eC (.int 1)))) aN))))
    (sIf (tV (e2 opGt (eN 13) (eC (.int 0)))) (sSeq (sPut 5 (e2 opIx (eN 12) (eC (.int 1))) (e2 opSub (e2 opIx (eB 5) (e2 opIx (eN 12) (eC (.int 1)))) (eN 13)))
    (sSeq (sSet 10 (e2 opSub (eN 10) (eN 13)))
    (sApp 11 (eT (aC (e2 opIx (e2 opIx (eN 0) (e2 opIx (eN 12) (eC (.int 1)))) (eC (.int 2))) (aC (e2 opIx (e2 opIx (eN 0) (e2 opIx (eN 12) (eC (.int 1)))) (eC (.int 3))) (aC (eN 13) aN))))))) sNil)))
    (sFrz 11 (sApp 6 (eN 11))))))))) (rgD 0 (N : Int))
    (fun i ρ => ∃ (R : List (List Part)) (x8 x9 x10 x11 x12 x13 x7 : Pu.Slot), ρ = [.val (.lst (J.map dJ)), .val (dI T), .val (.int N), .val (.str "fixed"), .val (.lst (dN ord)), .own ((simF T J ord i).map D.int), .own (R.map fun r => .lst (r.map dPt)), x7, x8, x9, x10, x11, x12, x13, .un, .un] ∧ R.length = i ∧ ∀ (n : Nat) (r : List Part), R[n]? = some r → RowOk J (simF T J ord n) (simF T J ord (n + 1)) r)
    [.val (.lst (J.map dJ)), .val (dI T), .val (.int N), .val (.str "fixed"), .val (.lst (dN ord)), .own ((simF T J ord 0).map D.int), .own [], .un, .un, .un, .un, .un, .un, .un, .un, .un] ⟨[], _, _, _, _, _, _, _, rfl, rfl, fun n r hr => by simp at hr⟩ (fun i d ρ e hi => by
      obtain ⟨R, x8, x9, x10, x11, x12, x13, x7, rfl, hR, hR2⟩ := hi
      obtain ⟨rfl, hil⟩ := rg0_some e
      have hsl := S.len i
      have p1 := plS (simF T J ord i) i (.own (R.map fun r => .lst (r.map dPt))) .un x8 x9 x10 x11 x12 x13 .un hsl
      have p2 := rkS (simF T J ord i) i (.own (R.map fun r => .lst (r.map dPt))) x9 x10 x11 x12 x13 .un hsl
      obtain ⟨r, y12, y13, p3, p4, p5, p6⟩ := pol_loop hJ (.val (dI T)) (.val (.int N)) (.val (.str "fixed")) (.val (.lst (dN ord))) (.val (.int i)) hsl (qF ord) i (cap T i) (plc J (qF ord) i (simF T J ord i)) (fun k hk => (rdy_mem (plc_mem hk)).1) (by have := plc_len J (qF ord) i (simF T J ord i); omega)
        (.val (.lst ((rdy J i (simF T J ord i)).map fun (k : Nat) => D.int k))) (.val (.lst ((plc J (qF ord) i (simF T J ord i)).map (kf J (qF ord) i (simF T J ord i))))) x12 x13 .un .un (.own (R.map fun r => .lst (r.map dPt)))
      have hnext : simF T J ord (i + 1) = (srv (plc J (qF ord) i (simF T J ord i)) (simF T J ord i, cap T i)).1 := rfl
      have hln : fLen [dI T] = some (.int (T.length : Int)) := by simp
      have hmo := opMod_of (i : Int) (T.length : Int) (by omega)
      have hlt : i % T.length < T.length := Nat.mod_lt _ (by omega)
      have hcp : opIx (dI T) (.int ((i : Int) % (T.length : Int))) = some (.int (cap T i)) := by
        refine ix_lst' (n := i % T.length) (by rw [Int.natCast_emod]) ?_
        rw [List.getElem?_map, List.getElem?_eq_getElem hlt]
        unfold cap
        rw [List.getElem?_eq_getElem hlt]; rfl
      have hsz : (R.map fun r => D.lst (r.map dPt)).length < sizeLine := by rw [List.length_map, sizeLine_eq]; omega
      refine ⟨_, [.val (.lst (J.map dJ)), .val (dI T), .val (.int N), .val (.str "fixed"), .val (.lst (dN ord)), .own ((simF T J ord (i + 1)).map D.int), .own ((R ++ [r]).map fun r => .lst (r.map dPt)), .val (.int i), .val (.lst ((rdy J i (simF T J ord i)).map fun (k : Nat) => D.int k)), .val (.lst ((plc J (qF ord) i (simF T J ord i)).map (kf J (qF ord) i (simF T J ord i)))), .val (.int (srv (plc J (qF ord) i (simF T J ord i)) (simF T J ord i, cap T i)).2), .val (.lst (r.map dPt)), y12, y13, .un, .un], rfl, .inl ?_, _, _, _, _, _, _, _, _, rfl, by rw [List.length_append, hR]; rfl, fun n r' hr' => ?_⟩
      · rw [List.map_append, List.map_singleton, hnext]
        rw [hnext] at *
        generalize (R.map fun r => D.lst (r.map dPt)) = RR at *
        generalize (rdy J i (simF T J ord i)).map (fun (k : Nat) => D.int k) = RL at *
        generalize (plc J (qF ord) i (simF T J ord i)).map (kf J (qF ord) i (simF T J ord i)) = KL at *
        generalize hq2 : srv (plc J (qF ord) i (simF T J ord i)) (simF T J ord i, cap T i) = q2 at *
        generalize q2.1.map D.int = C2 at *
        generalize q2.2 = U2 at *
        generalize (simF T J ord i).map D.int = C1 at *
        generalize r.map dPt = RP at *
        generalize J.map dJ = JS at *
        generalize dI T = TT at *
        generalize dN ord = DO at *
        generalize (Str.ofString "fixed") = FX at *
        simp -implicitDefEqProofs [-lLc_ap, p1, p2, hln, hmo, hcp, p3, hsz]
      · by_cases z : n < R.length
        · rw [List.getElem?_append_left z] at hr'
          exact hR2 n r' hr'
        · have : n = i := by
            have := (List.getElem?_eq_some_iff.mp hr').1
            rw [List.length_append, List.length_singleton] at this
            omega
          subst this
          rw [List.getElem?_append_right (by omega), hR, Nat.sub_self] at hr'
          cases hr'
          rw [hnext]; exact p4)
  rw [rgD_length, show ((N : Int) - 0).toNat = N by omega] at hR
  have hr := asR1_of (N : Int) (by omega) (by omega)
  refine ⟨R, runFn_eq rfl ?_, hR, hR2⟩
  show (body_law_policy [.val (.lst (J.map dJ)), .val (dI T), .val (.int N), .val (.str "fixed"), .val (.lst (dN ord)), .un, .un, .un, .un, .un, .un, .un, .un, .un, .un, .un]).res = _
  generalize rgD 0 (N : Int) = RG at *
  generalize (R.map fun r => D.lst (r.map dPt)) = RR at *
  generalize (simF T J ord 0).map D.int = C0 at *
  generalize J.map dJ = JS at *
  generalize dI T = TT at *
  generalize dN ord = DO at *
  generalize (Str.ofString "fixed") = FX at *
  simp -implicitDefEqProofs [-lLc_ap, body_law_policy, hstart, hr, e]
end G88

namespace G88
open PySem PySem.Spec PyProof.Rows L2 Pu Edf
/-! ### the law's ends -/
open Classical in
/-- one row read for one job -/
theorem ends_row {c : Int} {a b : Int} {r : List Part} (hpos : ∀ p ∈ r, 0 < p.2.2) {g0 : Int} (hle : g0 + usum a b r ≤ c) (J0 S0 E0 : Pu.Slot) (d0 r0 : Int) (s : Nat) (v : D) (hv : v = .non ∨ ∃ e : Int, v = .int e) (h0 : g0 = c ↔ v ≠ .non) (x7 : Pu.Slot) :
    ∃ y7, forS (gN 7) (sIf (tAnd' (tV (e2 opEq (e2 opIx (eN 7) (eC (.int 0))) (e2 opIx (eN 3) (eC (.int 2))))) (tV (e2 opEq (e2 opIx (eN 7) (eC (.int 1))) (e2 opIx (eN 3) (eC (.int 3)))))) (sSeq (sSet 4 (e2 opAdd (eN 4) (e2 opIx (eN 7) (eC (.int 2)))))
    (sIf (tAnd' (tV (e2 opEq (eN 4) (e2 opIx (eN 3) (eC (.int 4))))) (tV (e2 opIsN (eN 5) (eC .non)))) (sSet 5 (e2 opAdd (eN 6) (eC (.int 1)))) sNil)) sNil) (r.map dPt)
      [J0, S0, E0, .val (.tup [.int d0, .int r0, .int a, .int b, .int c]), .val (.int g0), .val v, .val (.int s), x7] = .nx [J0, S0, E0, .val (.tup [.int d0, .int r0, .int a, .int b, .int c]), .val (.int (g0 + usum a b r)), .val (if v = .non ∧ g0 + usum a b r = c then .int ((s : Int) + 1) else v), .val (.int s), y7] := by
  obtain ⟨ρ', e, y7, rfl⟩ := forS_thru (g := gN 7) (body := (sIf (tAnd' (tV (e2 opEq (e2 opIx (eN 7) (eC (.int 0))) (e2 opIx (eN 3) (eC (.int 2))))) (tV (e2 opEq (e2 opIx (eN 7) (eC (.int 1))) (e2 opIx (eN 3) (eC (.int 3)))))) (sSeq (sSet 4 (e2 opAdd (eN 4) (e2 opIx (eN 7) (eC (.int 2)))))
    (sIf (tAnd' (tV (e2 opEq (eN 4) (e2 opIx (eN 3) (eC (.int 4))))) (tV (e2 opIsN (eN 5) (eC .non)))) (sSet 5 (e2 opAdd (eN 6) (eC (.int 1)))) sNil)) sNil)) (r.map dPt)
    (fun k ρ => ∃ y7, ρ = [J0, S0, E0, .val (.tup [.int d0, .int r0, .int a, .int b, .int c]), .val (.int (g0 + usum a b (r.take k))), .val (if v = .non ∧ g0 + usum a b (r.take k) = c then .int ((s : Int) + 1) else v), .val (.int s), y7])
    [J0, S0, E0, .val (.tup [.int d0, .int r0, .int a, .int b, .int c]), .val (.int g0), .val v, .val (.int s), x7] ⟨x7, by
      have hn : ¬ (v = .non ∧ g0 + usum a b (r.take 0) = c) := fun z => by
        have z2 : g0 + 0 = c := z.2
        exact (h0.mp (by omega)) z.1
      rw [if_neg hn]
      show _ = [J0, S0, E0, Pu.Slot.val (.tup [.int d0, .int r0, .int a, .int b, .int c]), Pu.Slot.val (.int (g0 + 0)), Pu.Slot.val v, Pu.Slot.val (.int s), x7]
      rw [Int.add_zero]⟩ (fun k d ρ e hi => by
      obtain ⟨y7, rfl⟩ := hi
      rw [List.getElem?_map] at e
      obtain ⟨p, ep, rfl⟩ := Option.map_eq_some_iff.mp e
      have hp := hpos p (List.mem_of_getElem? ep)
      have hb := usum_take (a := a) (b := b) hpos (k + 1)
      have hb0 : 0 ≤ usum a b (r.take k) := usum_nn fun q hq => hpos q (List.mem_of_mem_take hq)
      rw [take_snoc ep, usum_snoc] at hb ⊢
      generalize usum a b (r.take k) = gk at *
      refine ⟨_, _, rfl, .inl ?_, .val (dPt p), rfl⟩
      by_cases m : p.1 = a ∧ p.2.1 = b
      · rw [if_pos m] at hb ⊢
        have hlt : g0 + gk < c := by omega
        have hvn : v = .non := by
          by_cases z : v = .non
          · exact z
          · have := h0.mpr z; omega
        subst hvn
        rw [if_neg (fun z => by have := z.2; omega)]
        have e1 : p.1 = a := m.1
        have e2' : p.2.1 = b := m.2
        have e3 : g0 + gk + p.2.2 = g0 + (gk + p.2.2) := by omega
        unfold dPt
        by_cases q : g0 + (gk + p.2.2) = c
        · rw [if_pos ⟨rfl, q⟩]
          have q' : g0 + gk + p.2.2 = c := by omega
          rw [q]
          simp -implicitDefEqProofs [e1, e2', q']
        · rw [if_neg (fun z => q z.2)]
          have q' : ¬ g0 + gk + p.2.2 = c := by omega
          rw [← e3]
          simp -implicitDefEqProofs [e1, e2', q']
      · rw [if_neg m, Int.add_zero]
        generalize (if v = .non ∧ g0 + gk = c then D.int ((s : Int) + 1) else v) = vv at *
        unfold dPt
        by_cases e1 : p.1 = a
        · have e2' : ¬ p.2.1 = b := fun z => m ⟨e1, z⟩
          simp -implicitDefEqProofs [e1, e2']
        · simp -implicitDefEqProofs [e1])
  rw [List.length_map, List.take_length] at e
  exact ⟨y7, e⟩
end G88

namespace G88
open PySem PySem.Spec PyProof.Rows L2 Pu Edf
theorem f_lends {cp : Nat → Int} {J : List Jb} {L : Nat → List Int} {ns : List Nat} (S : Sch cp J L) (hJ : JOk J ns) {N : Nat} (hN : N ≤ 6000) {R : List (List Part)} (hR : R.length = N) (hR2 : ∀ (n : Nat) (r : List Part), R[n]? = some r → RowOk J (L n) (L (n + 1)) r) :
    ∃ vs : List D, Fn_law_ends [.lst (J.map dJ), .lst (R.map fun r => .lst (r.map dPt))] = .ok (.lst vs) ∧ dEnds L N J vs := by
  classical
  have hl := hJ.len
  have mid : ∀ (i : Nat) (j : Jb) (E0 x6 x7 : Pu.Slot), J[i]? = some j → ∃ (v : D) (y4 y6 y7 : Pu.Slot), forS (gN 6) (sFor (iS (e2 opIx (eN 1) (eN 6))) (gN 7) (sIf (tAnd' (tV (e2 opEq (e2 opIx (eN 7) (eC (.int 0))) (e2 opIx (eN 3) (eC (.int 2))))) (tV (e2 opEq (e2 opIx (eN 7) (eC (.int 1))) (e2 opIx (eN 3) (eC (.int 3)))))) (sSeq (sSet 4 (e2 opAdd (eN 4) (e2 opIx (eN 7) (eC (.int 2)))))
    (sIf (tAnd' (tV (e2 opEq (eN 4) (e2 opIx (eN 3) (eC (.int 4))))) (tV (e2 opIsN (eN 5) (eC .non)))) (sSet 5 (e2 opAdd (eN 6) (eC (.int 1)))) sNil)) sNil)) (rgD 0 (N : Int))
      [.val (.lst (J.map dJ)), .val (.lst (R.map fun r => .lst (r.map dPt))), E0, .val (dJ j), .val (.int 0), .val .non, x6, x7] = .nx [.val (.lst (J.map dJ)), .val (.lst (R.map fun r => .lst (r.map dPt))), E0, .val (dJ j), y4, .val v, y6, y7] ∧ EndV L N i v := fun i j E0 x6 x7 ej => by
    have hjj := hJ.j j (List.mem_of_getElem? ej)
    have hg0 : gi (L 0) i = j.c := by rw [S.zero]; exact gi_of (by rw [List.getElem?_map, ej]; rfl)
    obtain ⟨ρ', e, v, y6, y7, rfl, hv⟩ := forS_thru (g := gN 6) (body := sFor (iS (e2 opIx (eN 1) (eN 6))) (gN 7) (sIf (tAnd' (tV (e2 opEq (e2 opIx (eN 7) (eC (.int 0))) (e2 opIx (eN 3) (eC (.int 2))))) (tV (e2 opEq (e2 opIx (eN 7) (eC (.int 1))) (e2 opIx (eN 3) (eC (.int 3)))))) (sSeq (sSet 4 (e2 opAdd (eN 4) (e2 opIx (eN 7) (eC (.int 2)))))
    (sIf (tAnd' (tV (e2 opEq (eN 4) (e2 opIx (eN 3) (eC (.int 4))))) (tV (e2 opIsN (eN 5) (eC .non)))) (sSet 5 (e2 opAdd (eN 6) (eC (.int 1)))) sNil)) sNil)) (rgD 0 (N : Int))
      (fun s ρ => ∃ (v : D) (y6 y7 : Pu.Slot), ρ = [.val (.lst (J.map dJ)), .val (.lst (R.map fun r => .lst (r.map dPt))), E0, .val (dJ j), .val (.int (j.c - gi (L s) i)), .val v, y6, y7] ∧ EndV L s i v)
      [.val (.lst (J.map dJ)), .val (.lst (R.map fun r => .lst (r.map dPt))), E0, .val (dJ j), .val (.int 0), .val .non, x6, x7] ⟨.non, x6, x7, by rw [hg0, Int.sub_self], .inl ⟨rfl, by rw [hg0]; omega⟩⟩ (fun s d ρ e hi => by
        obtain ⟨v, y6, y7, rfl, hv⟩ := hi
        obtain ⟨rfl, hsl⟩ := rg0_some e
        obtain ⟨r, er⟩ : ∃ r, R[s]? = some r := ⟨_, List.getElem?_eq_getElem (by omega)⟩
        have ok := hR2 s r er
        have hsum := ok.sum i j ej
        have hnn := S.nn (s + 1) i
        have hns := S.nn s i
        have hm := S.mono s i
        have hv2 : v = .non ∨ ∃ e : Int, v = .int e := by
          rcases hv with ⟨rfl, _⟩ | ⟨e, rfl, _⟩
          · exact .inl rfl
          · exact .inr ⟨e, rfl⟩
        have h0 : j.c - gi (L s) i = j.c ↔ v ≠ .non := by
          rcases hv with ⟨rfl, h⟩ | ⟨e, rfl, h1, h2, h3⟩
          · constructor
            · intro z; omega
            · intro z; exact absurd rfl z
          · have := S.le h1 i
            constructor
            · intro _ z; cases z
            · intro _; omega
        obtain ⟨z7, k⟩ := ends_row (c := j.c) (a := j.a) (b := j.b) ok.pos (g0 := j.c - gi (L s) i) (by rw [hsum]; omega) (.val (.lst (J.map dJ))) (.val (.lst (R.map fun r => .lst (r.map dPt)))) E0 j.d j.r s v hv2 h0 y7
        have e3 : j.c - gi (L s) i + usum j.a j.b r = j.c - gi (L (s + 1)) i := by rw [hsum]; omega
        rw [e3] at k
        have i1 : opIx (.lst (R.map fun r => D.lst (r.map dPt))) (.int (s : Int)) = some (.lst (r.map dPt)) := ix_lst' rfl (by rw [List.getElem?_map, er]; rfl)
        obtain ⟨v', hv'⟩ : ∃ v', (if v = .non ∧ j.c - gi (L (s + 1)) i = j.c then D.int ((s : Int) + 1) else v) = v' := ⟨_, rfl⟩
        rw [hv'] at k
        refine ⟨[.val (.lst (J.map dJ)), .val (.lst (R.map fun r => .lst (r.map dPt))), E0, .val (dJ j), .val (.int (j.c - gi (L s) i)), .val v, .val (.int s), y7], [.val (.lst (J.map dJ)), .val (.lst (R.map fun r => .lst (r.map dPt))), E0, .val (dJ j), .val (.int (j.c - gi (L (s + 1)) i)), .val v', .val (.int s), z7], rfl, .inl ?_, v', _, _, rfl, ?_⟩
        · have k' : forS _ _ (r.map dPt) [.val (.lst (J.map dJ)), .val (.lst (R.map fun r => .lst (r.map dPt))), E0, .val (dJ j), .val (.int (j.c - gi (L s) i)), .val v, .val (.int s), y7] = .nx [.val (.lst (J.map dJ)), .val (.lst (R.map fun r => .lst (r.map dPt))), E0, .val (dJ j), .val (.int (j.c - gi (L (s + 1)) i)), .val v', .val (.int s), z7] := k
          generalize r.map dPt = RP at *
          generalize (R.map fun r => D.lst (r.map dPt)) = RR at *
          generalize J.map dJ = JS at *
          generalize dJ j = DJ at *
          simp -implicitDefEqProofs [i1, k']
        · rw [← hv']
          by_cases q : v = .non ∧ j.c - gi (L (s + 1)) i = j.c
          · rw [if_pos q]
            refine .inr ⟨s + 1, by congr 1, Nat.le_refl _, by have := q.2; omega, fun e' he' z => ?_⟩
            rcases hv with ⟨_, h⟩ | ⟨e, h, _⟩
            · have a1 := S.le (a := e') (b := s) (by omega) i
              omega
            · rw [q.1] at h; cases h
          · rw [if_neg q]
            rcases hv with ⟨rfl, h⟩ | ⟨e, rfl, h1, h2, h3⟩
            · exact .inl ⟨rfl, fun z => q ⟨rfl, by omega⟩⟩
            · exact .inr ⟨e, rfl, by omega, h2, h3⟩)
    rw [rgD_length, show ((N : Int) - 0).toNat = N by omega] at hv
    exact ⟨v, _, y6, y7, e, hv⟩
  have hln : fLen [.lst (R.map fun r => D.lst (r.map dPt))] = some (.int (N : Int)) := by simp [hR]
  have hr := asR1_of (N : Int) (by omega) (by omega)
  obtain ⟨ρ', e, vs, x3, x4, x5, x6, x7, rfl, h1, h2⟩ := forS_thru (g := gN 3) (body := sSeq (sSet 4 (eC (.int 0)))
    (sSeq (sSet 5 (eC .non))
    (sSeq (sFor (iR1 (aC (eF fLen (aC (eN 1) aN)) aN)) (gN 6) (sFor (iS (e2 opIx (eN 1) (eN 6))) (gN 7) (sIf (tAnd' (tV (e2 opEq (e2 opIx (eN 7) (eC (.int 0))) (e2 opIx (eN 3) (eC (.int 2))))) (tV (e2 opEq (e2 opIx (eN 7) (eC (.int 1))) (e2 opIx (eN 3) (eC (.int 3)))))) (sSeq (sSet 4 (e2 opAdd (eN 4) (e2 opIx (eN 7) (eC (.int 2)))))
    (sIf (tAnd' (tV (e2 opEq (eN 4) (e2 opIx (eN 3) (eC (.int 4))))) (tV (e2 opIsN (eN 5) (eC .non)))) (sSet 5 (e2 opAdd (eN 6) (eC (.int 1)))) sNil)) sNil)))
    (sApp 2 (eN 5))))) (J.map dJ)
    (fun i ρ => ∃ (vs : List D) (x3 x4 x5 x6 x7 : Pu.Slot), ρ = [.val (.lst (J.map dJ)), .val (.lst (R.map fun r => .lst (r.map dPt))), .own vs, x3, x4, x5, x6, x7] ∧ vs.length = i ∧ ∀ k < i, ∃ v, vs[k]? = some v ∧ EndV L N k v)
    [.val (.lst (J.map dJ)), .val (.lst (R.map fun r => .lst (r.map dPt))), .own [], .un, .un, .un, .un, .un] ⟨[], _, _, _, _, _, rfl, rfl, fun k hk => absurd hk (Nat.not_lt_zero _)⟩ (fun i d ρ e hi => by
      obtain ⟨vs, x3, x4, x5, x6, x7, rfl, h1, h2⟩ := hi
      rw [List.getElem?_map] at e
      obtain ⟨j, ej, rfl⟩ := Option.map_eq_some_iff.mp e
      have hil := (List.getElem?_eq_some_iff.mp ej).1
      obtain ⟨v, y4, y6, y7, k, hv⟩ := mid i j (.own vs) x6 x7 ej
      have hsz : vs.length < sizeLine := small1000 (by omega)
      refine ⟨[.val (.lst (J.map dJ)), .val (.lst (R.map fun r => .lst (r.map dPt))), .own vs, .val (dJ j), x4, x5, x6, x7], [.val (.lst (J.map dJ)), .val (.lst (R.map fun r => .lst (r.map dPt))), .own (vs ++ [v]), .val (dJ j), y4, .val v, y6, y7], rfl, .inl ?_, _, _, _, _, _, _, rfl, by rw [List.length_append, h1]; rfl, fun q hq => ?_⟩
      · generalize rgD 0 (N : Int) = RG at *
        generalize (R.map fun r => D.lst (r.map dPt)) = RR at *
        generalize J.map dJ = JS at *
        generalize dJ j = DJ at *
        simp -implicitDefEqProofs [hln, hr, k, hsz]
      · by_cases z : q < i
        · obtain ⟨v', a1, a2⟩ := h2 q z
          exact ⟨v', by rw [List.getElem?_append_left (by omega)]; exact a1, a2⟩
        · have : q = i := by omega
          subst this
          exact ⟨v, by rw [List.getElem?_append_right (by omega), h1, Nat.sub_self]; rfl, hv⟩)
  rw [List.length_map] at h1 h2
  refine ⟨vs, runFn_eq rfl ?_, h1, fun i j ej => h2 i (List.getElem?_eq_some_iff.mp ej).1⟩
  show (body_law_ends [.val (.lst (J.map dJ)), .val (.lst (R.map fun r => .lst (r.map dPt))), .un, .un, .un, .un, .un, .un]).res = _
  generalize (R.map fun r => D.lst (r.map dPt)) = RR at *
  generalize J.map dJ = JS at *
  simp -implicitDefEqProofs [body_law_ends, e]
end G88

namespace G88
open PySem PySem.Spec PyProof.Rows L2 Pu Edf
/-! ### the law -/
open Classical in
noncomputable def keep (T : List Int) (J : List Jb) (n : Nat) : List (List Nat) := (Prm.orders n).filter fun o => decide (Kept J (simF T J o))
theorem keep_first (T : List Int) (J : List Jb) (n : Nat) : (keep T J n)[0]? = firstO T J n := by
  classical
  unfold keep firstO
  generalize Prm.orders n = os
  induction os with
  | nil => rfl
  | cons o os ih =>
    rw [List.filter_cons, List.find?_cons]
    by_cases h : Kept J (simF T J o)
    · rw [if_pos (decide_eq_true h), decide_eq_true h]; rfl
    · rw [if_neg (by simpa using h), decide_eq_false h]; exact ih
/-- one order of the law's -/
theorem f_try {ps : List Pt} {T : List Int} (W : Wd ps) (h : Tab T) {ord : List Nat} (ho : ∀ a < ps.length, a ∈ ord) {N : Nat} (hN : N ≤ 6000) (hN2 : ∀ j ∈ JJ ps, j.d ≤ N) :
    ∃ (s vs d : D), Fn_law_policy [.lst ((JJ ps).map dJ), dI T, .int N, .str "fixed", .lst (dN ord)] = .ok s ∧ Fn_law_ends [.lst ((JJ ps).map dJ), s] = .ok vs ∧ Fn_law_late [.lst ((JJ ps).map dJ), vs] = .ok d ∧ ((d = .non ∧ Kept (JJ ps) (simF T (JJ ps) ord)) ∨ (∃ x, d = .int x) ∧ ¬ Kept (JJ ps) (simF T (JJ ps) ord)) := by
  have hJ := JJ_ok W
  have hcap : ∀ n, 0 ≤ cap T n := fun n => (cap_nn h n).1
  have hc0 : ∀ j ∈ JJ ps, 0 ≤ j.c := fun j hj => by have := hJ.j j hj; omega
  have S : Sch (cap T) (JJ ps) (simF T (JJ ps) ord) := sim_sch hcap hc0 fun n L k hk => plc_mem hk
  obtain ⟨R, e1, e2', e3⟩ := f_lpolicy hJ h (ord := ord) (fun j hj => by
    obtain ⟨x, y, m, q1, q2, q3, q4⟩ := hJ.at_ j hj
    have hx := (List.getElem?_eq_some_iff.mp q3).1
    rw [List.length_map] at hx
    exact ⟨x, q1, ho x hx⟩) hN
  obtain ⟨vs, e4, e5⟩ := f_lends S hJ hN e2' e3
  obtain ⟨d, e6, e7⟩ := f_llate S hJ hN2 e5
  exact ⟨_, _, d, e1, e4, e6, e7⟩
end G88

namespace G88
open PySem PySem.Spec PyProof.Rows L2 Pu Edf
theorem loop1 {ps : List Pt} {T : List Int} (W : Wd ps) (h : Tab T) {N : Nat} (hN : N ≤ 6000) (hN2 : ∀ j ∈ JJ ps, j.d ≤ N) (x0 x1 x2 x4 x5 x8 x11 x12 x13 x14 x15 x10 : Pu.Slot) :
    ∃ y10 y11, forS (gN 10) (sSeq (sSet 11 (eCall Fn_law_policy (aC (eN 6) (aC (eN 3) (aC (eN 7) (aC (eC (.str "fixed")) (aC (eN 10) aN)))))))
    (sIf (tV (e2 opIsN (eCall Fn_law_late (aC (eN 6) (aC (eCall Fn_law_ends (aC (eN 6) (aC (eN 11) aN))) aN))) (eC .non))) (sApp 9 (eN 10)) sNil)) ((Prm.orders ps.length).map fun o => D.lst (dN o))
      [x0, x1, x2, .val (dI T), x4, x5, .val (.lst ((JJ ps).map dJ)), .val (.int N), x8, .own [], x10, x11, x12, x13, x14, x15] = .nx [x0, x1, x2, .val (dI T), x4, x5, .val (.lst ((JJ ps).map dJ)), .val (.int N), x8, .own ((keep T (JJ ps) ps.length).map fun o => D.lst (dN o)), y10, y11, x12, x13, x14, x15] := by
  classical
  have hO := ord_all ps.length W.l3
  have hlen : (Prm.orders ps.length).length ≤ 6 := by
    have := W.l3
    match hn : ps.length, this with
    | 0, _ | 1, _ | 2, _ | 3, _ => decide
  unfold keep
  generalize Prm.orders ps.length = os at *
  obtain ⟨ρ', e, y10, y11, rfl⟩ := forS_thru (g := gN 10) (body := sSeq (sSet 11 (eCall Fn_law_policy (aC (eN 6) (aC (eN 3) (aC (eN 7) (aC (eC (.str "fixed")) (aC (eN 10) aN)))))))
    (sIf (tV (e2 opIsN (eCall Fn_law_late (aC (eN 6) (aC (eCall Fn_law_ends (aC (eN 6) (aC (eN 11) aN))) aN))) (eC .non))) (sApp 9 (eN 10)) sNil)) (os.map fun o => D.lst (dN o))
    (fun i ρ => ∃ y10 y11, ρ = [x0, x1, x2, .val (dI T), x4, x5, .val (.lst ((JJ ps).map dJ)), .val (.int N), x8, .own (((os.take i).filter fun o => decide (Kept (JJ ps) (simF T (JJ ps) o))).map fun o => D.lst (dN o)), y10, y11, x12, x13, x14, x15])
    [x0, x1, x2, .val (dI T), x4, x5, .val (.lst ((JJ ps).map dJ)), .val (.int N), x8, .own [], x10, x11, x12, x13, x14, x15] ⟨_, _, rfl⟩ (fun i d ρ e hi => by
      obtain ⟨y10, y11, rfl⟩ := hi
      rw [List.getElem?_map] at e
      obtain ⟨o, eo, rfl⟩ := Option.map_eq_some_iff.mp e
      obtain ⟨s, vs, d, k1, k2, k3, k4⟩ := f_try W h (hO o (List.mem_of_getElem? eo)).1 hN hN2
      have hsz : (((os.take i).filter fun o => decide (Kept (JJ ps) (simF T (JJ ps) o))).map fun o => D.lst (dN o)).length < sizeLine := by
        rw [List.length_map]
        have := List.length_filter_le (fun o => decide (Kept (JJ ps) (simF T (JJ ps) o))) (os.take i)
        rw [List.length_take] at this
        exact small1000 (by omega)
      refine ⟨[x0, x1, x2, .val (dI T), x4, x5, .val (.lst ((JJ ps).map dJ)), .val (.int N), x8, .own (((os.take i).filter fun o => decide (Kept (JJ ps) (simF T (JJ ps) o))).map fun o => D.lst (dN o)), .val (.lst (dN o)), y11, x12, x13, x14, x15], [x0, x1, x2, .val (dI T), x4, x5, .val (.lst ((JJ ps).map dJ)), .val (.int N), x8, .own (((os.take (i + 1)).filter fun o => decide (Kept (JJ ps) (simF T (JJ ps) o))).map fun o => D.lst (dN o)), .val (.lst (dN o)), .val s, x12, x13, x14, x15], rfl, .inl ?_, _, _, rfl⟩
      rw [take_snoc eo, List.filter_append, List.map_append, List.filter_cons, List.filter_nil]
      generalize ((os.take i).filter fun o => decide (Kept (JJ ps) (simF T (JJ ps) o))).map (fun o => D.lst (dN o)) = KK at *
      rcases k4 with ⟨rfl, hK⟩ | ⟨⟨z, rfl⟩, hK⟩
      · rw [if_pos (decide_eq_true hK), List.map_singleton]
        generalize (JJ ps).map dJ = JS at *
        generalize dI T = TT at *
        generalize dN o = DO at *
        generalize (Str.ofString "fixed") = FX at *
        simp -implicitDefEqProofs [k1, k2, k3, hsz]
      · rw [if_neg (by simpa using hK), List.map_nil, List.append_nil]
        generalize (JJ ps).map dJ = JS at *
        generalize dI T = TT at *
        generalize dN o = DO at *
        generalize (Str.ofString "fixed") = FX at *
        simp -implicitDefEqProofs [k1, k2, k3])
  rw [List.length_map, List.take_length] at e
  exact ⟨y10, y11, e⟩
end G88

namespace G88
open PySem PySem.Spec PyProof.Rows L2 Pu Edf
theorem loop2 {ps : List Pt} {T : List Int} (W : Wd ps) (h : Tab T) {d12 : D} (hd : (d12 = .non ∧ Kept (JJ ps) (lf (cap T) (JJ ps))) ∨ (∃ x, d12 = .int x) ∧ ¬ Kept (JJ ps) (lf (cap T) (JJ ps))) (x0 x1 x2 x3 x4 x5 x6 x7 x8 x9 x10 x11 x13 x14 x15 : Pu.Slot) :
    ∃ y13, forS (gN 13) (sIf (tAnd' (tV (e2 opIsN (e2 opIx (eN 13) (eC (.int 1))) (eC .non))) (tV (e2 opNotN (eN 12) (eC .non)))) (sRet (eC (.bl false))) sNil) (tp_POLICIES.map fun p => .tup [.str p, lateOf (Fn_run_policy [dSys ps T, .lst (ps.map dRs), .str p])])
      [x0, x1, x2, x3, x4, x5, x6, x7, x8, x9, x10, x11, .val d12, x13, x14, x15] = .nx [x0, x1, x2, x3, x4, x5, x6, x7, x8, x9, x10, x11, .val d12, y13, x14, x15] := by
  have hJ := JJ_ok W
  have hcap : ∀ n, 0 ≤ cap T n := fun n => (cap_nn h n).1
  obtain ⟨ρ', e, y13, rfl⟩ := forS_thru (g := gN 13) (body := sIf (tAnd' (tV (e2 opIsN (e2 opIx (eN 13) (eC (.int 1))) (eC .non))) (tV (e2 opNotN (eN 12) (eC .non)))) (sRet (eC (.bl false))) sNil) (tp_POLICIES.map fun p => .tup [.str p, lateOf (Fn_run_policy [dSys ps T, .lst (ps.map dRs), .str p])])
    (fun i ρ => ∃ y13, ρ = [x0, x1, x2, x3, x4, x5, x6, x7, x8, x9, x10, x11, .val d12, y13, x14, x15]) [x0, x1, x2, x3, x4, x5, x6, x7, x8, x9, x10, x11, .val d12, x13, x14, x15] ⟨_, rfl⟩ (fun i d ρ e hi => by
      obtain ⟨y13, rfl⟩ := hi
      rw [List.getElem?_map] at e
      obtain ⟨p, ep, rfl⟩ := Option.map_eq_some_iff.mp e
      obtain ⟨L, S, ho⟩ := f_policy W h (List.mem_of_getElem? ep)
      obtain ⟨o, _, _, k⟩ := ho.late
      generalize lateOf (Fn_run_policy [dSys ps T, .lst (ps.map dRs), .str p]) = LO at *
      refine ⟨_, [x0, x1, x2, x3, x4, x5, x6, x7, x8, x9, x10, x11, .val d12, .val (.tup [.str p, LO]), x14, x15], rfl, .inl ?_, _, rfl⟩
      rcases k with ⟨rfl, hK⟩ | ⟨⟨z, rfl⟩, hK⟩
      · have hb := best_kept S hK hcap (fun j hj => by have := hJ.j j hj; omega) (fun j hj => by have := hJ.j j hj; omega) hJ.due
        rcases hd with ⟨rfl, _⟩ | ⟨_, hn⟩
        · simp -implicitDefEqProofs []
        · exact absurd hb hn
      · simp -implicitDefEqProofs [])
  exact ⟨y13, e⟩
end G88

namespace G88
open PySem PySem.Spec PyProof.Rows L2 Pu Edf
/-! ### a list equals itself -/
theorem toPys_map {α : Type} {f : α → D} {g : α → PyData} : ∀ l : List α, (∀ x ∈ l, (f x).toPy = some (g x)) → D.toPys (l.map f) = some (l.map g)
  | [], _ => rfl
  | x :: l, h => by
    rw [List.map_cons, List.map_cons]
    show (D.toPy (f x)).bind (fun a => (D.toPys (l.map f)).map (a :: ·)) = _
    rw [h x List.mem_cons_self, toPys_map l fun y hy => h y (List.mem_cons_of_mem _ hy)]; rfl
theorem lay_map {α : Type} {g : α → PyData} : ∀ l : List α, (∀ x ∈ l, (g x).canLay0 = true) → PyData.canLayAll0 (l.map g) = true
  | [], _ => rfl
  | x :: l, h => by
    rw [List.map_cons]
    simp [PyData.canLayAll0, h x List.mem_cons_self, lay_map l fun y hy => h y (List.mem_cons_of_mem _ hy)]
theorem depth_map {α : Type} {g : α → PyData} {m : Nat} (h : ∀ x, (g x).depth ≤ m) : ∀ l : List α, PyData.depthAll (l.map g) ≤ m
  | [] => Nat.zero_le _
  | x :: l => by
    rw [List.map_cons]
    show max (g x).depth (PyData.depthAll (l.map g)) ≤ m
    exact Nat.max_le.mpr ⟨h x, depth_map h l⟩
theorem opNe_self {a : List D} {P : List PyData} (h : D.toPys a = some P) (c : PyData.canLayAll0 P = true) (d : PyData.depthAll P ≤ 60) : opNe (.lst a) (.lst a) = some (.bl false) := by
  have hp : D.toPy (.lst a) = some (PyData.list P) := by
    show (D.toPys a).map (fun l => PyData.list l) = _
    rw [h]; rfl
  have hc : (PyData.list P).canLay0 = true := by simpa [PyData.canLay0] using c
  have hd : (PyData.list P).depth ≤ 64 := by show PyData.depthAll P + 1 ≤ 64; omega
  have hs : SeqAt.shaped (.list P) = true := by
    unfold SeqAt.shaped
    rw [hc, decide_eq_true hd]; rfl
  show (eqPy (.lst a) (.lst a)).map _ = _
  unfold eqPy
  rw [hp]
  show ((if (SeqAt.shaped (.list P) && SeqAt.shaped (.list P)) = true then some (PyData.eqv (.list P) (.list P)) else none)).map _ = _
  rw [if_pos (by rw [hs]; rfl), SeqAt.eqv_refl _ hc]; rfl
theorem Cl_lt : ∀ c ∈ Cl, c < 0x110000 := by decide +kernel
theorem strOk_of {s : Str} (h : NameOk s) : PyData.strOk s = true := by
  unfold PyData.strOk
  rw [← Array.all_toList, List.all_eq_true]
  intro c hc
  exact decide_eq_true (Cl_lt c (h.2.2 c hc))
theorem rel_strOk {ps : List Pt} (W : Wd ps) : ∀ p ∈ ps, ∀ r ∈ p.rs, PyData.strOk r.2 = true := fun p hp r hr => by
  have P := W.ok p hp
  obtain ⟨k, hk, e⟩ := List.mem_map.mp (P.c.ok r hr).2.1
  rw [← e]
  exact strOk_of (P.g.nm k hk)
theorem ne_rels {ps : List Pt} (W : Wd ps) : opNe (.lst (ps.map dRs)) (.lst (ps.map dRs)) = some (.bl false) := by
  have h1 : ∀ r : Int × Str, (dRel r).toPy = some (.tuple [.int r.1, .str r.2]) := fun r => rfl
  have h2 : ∀ p : Pt, (dRs p).toPy = some (PyData.list (p.rs.map fun r => .tuple [.int r.1, .str r.2])) := fun p => by
    show (D.toPys (p.rs.map dRel)).map (fun l => PyData.list l) = _
    rw [toPys_map _ fun x _ => h1 x]; rfl
  refine opNe_self (toPys_map ps fun x _ => h2 x) (lay_map ps fun p hp => ?_) (Nat.le_trans (depth_map (m := 3) (fun p => ?_) ps) (by omega))
  · have := lay_map (g := fun r : Int × Str => PyData.tuple [.int r.1, .str r.2]) p.rs (fun r hr => by simp [PyData.canLay0, PyData.canLayAll0, rel_strOk W p hp r hr])
    simpa [PyData.canLay0] using this
  · have := depth_map (m := 1) (g := fun r : Int × Str => PyData.tuple [.int r.1, .str r.2]) (fun r => by simp [PyData.depth, PyData.depthAll]) p.rs
    show PyData.depthAll _ + 1 ≤ 3
    omega
theorem ne_ord (o : List Nat) : opNe (.lst (dN o)) (.lst (dN o)) = some (.bl false) := by
  have h1 : ∀ k : Nat, (D.int (k : Int)).toPy = some (.int (k : Int)) := fun k => rfl
  exact opNe_self (toPys_map o fun k _ => h1 k) (lay_map o fun k _ => by simp [PyData.canLay0]) (Nat.le_trans (depth_map (m := 0) (fun k => by simp [PyData.depth]) o) (by omega))
end G88

namespace G88
open PySem PySem.Spec PyProof.Rows L2 Pu Edf
theorem f_isint (k : Nat) : Fn_law_is_integer [.int (k : Int)] = .ok (.bl true) := by
  refine runFn_eq rfl ?_
  rfl
theorem loop3 (o : List Nat) (x0 x1 x2 x3 x4 x5 x6 x7 x8 x9 x10 x11 x12 x13 x14 x15 : Pu.Slot) :
    ∃ y15, forS (gN 15) (sIf (tNot' (tV (eCall Fn_law_is_integer (aC (eN 15) aN)))) (sRet (eC (.bl false))) sNil) (dN o)
      [x0, x1, x2, x3, x4, x5, x6, x7, x8, x9, x10, x11, x12, x13, x14, x15] = .nx [x0, x1, x2, x3, x4, x5, x6, x7, x8, x9, x10, x11, x12, x13, x14, y15] := by
  obtain ⟨ρ', e, y15, rfl⟩ := forS_thru (g := gN 15) (body := sIf (tNot' (tV (eCall Fn_law_is_integer (aC (eN 15) aN)))) (sRet (eC (.bl false))) sNil) (dN o)
    (fun i ρ => ∃ y15, ρ = [x0, x1, x2, x3, x4, x5, x6, x7, x8, x9, x10, x11, x12, x13, x14, y15]) [x0, x1, x2, x3, x4, x5, x6, x7, x8, x9, x10, x11, x12, x13, x14, x15] ⟨_, rfl⟩ (fun i d ρ e hi => by
      obtain ⟨y15, rfl⟩ := hi
      rw [List.getElem?_map] at e
      obtain ⟨k, ek, rfl⟩ := Option.map_eq_some_iff.mp e
      refine ⟨_, [x0, x1, x2, x3, x4, x5, x6, x7, x8, x9, x10, x11, x12, x13, x14, .val (.int k)], rfl, .inl ?_, _, rfl⟩
      have h := f_isint k
      simp -implicitDefEqProofs [h])
  exact ⟨y15, e⟩
theorem law_true : ∀ ns : List Int, ns.length ≤ 63 → Fn_law [.scr ns] = .ok (.bl true) := fun ns hns => by
  classical
  obtain ⟨l, E1, hl, hs⟩ := f_lnums hns
  obtain ⟨ps, T, E2, W, hT⟩ := f_world hl hs
  have E3 := f_system W hT
  have E4 := f_ljobs W
  have hJ := JJ_ok W
  obtain ⟨N, E5, hN, hN2⟩ := f_llast hJ
  have E6 := f_copy W
  have E7 := f_orders ps.length W.l3
  obtain ⟨a, b, d12, E8, hd⟩ := f_run W hT
  have E9 := f_lbp W hT
  have E10 := f_forder W hT
  have hlen : fLen [.lst (ps.map dTk)] = some (.int (ps.length : Int)) := by simp
  have hll := fld_late a b d12
  have hne := ne_rels W
  have hcap : ∀ n, 0 ≤ cap T n := fun n => (cap_nn hT n).1
  have hc0 : ∀ j ∈ JJ ps, 0 ≤ j.c := fun j hj => by have := hJ.j j hj; omega
  have hr0 : ∀ j ∈ JJ ps, 0 ≤ j.r ∧ j.r < j.d := fun j hj => by have := hJ.j j hj; omega
  have hKF := keep_first T (JJ ps) ps.length
  have hKM : ∀ o ∈ keep T (JJ ps) ps.length, o ∈ Prm.orders ps.length ∧ Kept (JJ ps) (simF T (JJ ps) o) := fun o ho => by
    unfold keep at ho
    have := List.mem_filter.mp ho
    exact ⟨this.1, by simpa using this.2⟩
  have hO := ord_all ps.length W.l3
  obtain ⟨y10, y11, k1⟩ := loop1 W hT hN hN2 (.val (.scr ns)) (.val (dI l)) (.val (.lst (ps.map dTk))) (.val (.lst (ps.map dRs))) (.val (dSys ps T)) (.val (.lst (ps.map dRs))) .un .un .un .un .un .un
  obtain ⟨y13, k2⟩ := loop2 W hT hd (.val (.scr ns)) (.val (dI l)) (.val (.lst (ps.map dTk))) (.val (dI T)) (.val (.lst (ps.map dRs))) (.val (dSys ps T)) (.val (.lst ((JJ ps).map dJ))) (.val (.int N)) (.val (.lst (ps.map dRs))) (.own ((keep T (JJ ps) ps.length).map fun o => D.lst (dN o))) y10 y11 .un .un .un
  have hK : ∀ o ∈ keep T (JJ ps) ps.length, d12 = .non := fun o ho => by
    have ⟨h1, h2⟩ := hKM o ho
    have S : Sch (cap T) (JJ ps) (simF T (JJ ps) o) := sim_sch hcap hc0 fun n L k hk => plc_mem hk
    have hb := best_kept S h2 hcap hc0 hr0 hJ.due
    rcases hd with ⟨h, _⟩ | ⟨_, h⟩
    · exact h
    · exact absurd hb h
  have hks : (keep T (JJ ps) ps.length).length ≤ 6 := by
    have h3 := W.l3
    have : (Prm.orders ps.length).length ≤ 6 := by
      match hn : ps.length, h3 with
      | 0, _ | 1, _ | 2, _ | 3, _ => decide
    unfold keep
    exact Nat.le_trans (List.length_filter_le _ _) this
  refine runFn_eq rfl ?_
  show (body_law _).res = _
  match hkk : keep T (JJ ps) ps.length with
  | [] =>
    rw [hkk] at hKF k1 k2
    rw [← hKF] at E10
    generalize (JJ ps).map dJ = JS at *
    generalize dI T = TT at *
    generalize dI l = LL at *
    generalize ps.map dTk = TK at *
    generalize ps.map dRs = RS at *
    generalize dSys ps T = SS at *
    generalize dOut a b d12 = OO at *
    generalize (Prm.orders ps.length).map (fun o => D.lst (dN o)) = OD at *
    generalize tp_POLICIES.map (fun p => D.tup [.str p, lateOf (Fn_run_policy [SS, .lst RS, .str p])]) = PD at *
    have k1' := k1
    have k2' := k2
    simp only [List.map_nil] at k1' k2'
    have E10' : Fn_fixed_order [SS, .lst RS] = .ok .non := E10
    clear k1 k2 E10
    simp -implicitDefEqProofs [ini, body_law, E1, E2, E3, E4, E5, E6, E7, E8, E9, E10', hlen, hll, hne, k1', k2']
  | o :: os =>
    have hd0 := hK o (by rw [hkk]; exact List.mem_cons_self)
    have hom := hKM o (by rw [hkk]; exact List.mem_cons_self)
    have ho := hO o hom.1
    obtain ⟨r, E11, E12, hr3⟩ := (f_fixed W hT ho.1 (by have := ho.2; have := W.l3; omega) (od := .tup (dN o)) (.inr rfl)).late
    have hln : lateOf (Fn_run_fixed [dSys ps T, .lst (ps.map dRs), .tup (dN o)]) = .non := by
      rcases hr3 with ⟨h, _⟩ | ⟨_, h⟩
      · exact h
      · exact absurd hom.2 h
    rw [hln] at E12
    rw [hkk] at hKF k1 k2 hks
    have hKF' : firstO T (JJ ps) ps.length = some o := hKF.symm
    rw [hKF'] at E10
    subst hd0
    have hne2 := ne_ord o
    obtain ⟨y15, k3⟩ := loop3 o (.val (.scr ns)) (.val (dI l)) (.val (.lst (ps.map dTk))) (.val (dI T)) (.val (.lst (ps.map dRs))) (.val (dSys ps T)) (.val (.lst ((JJ ps).map dJ))) (.val (.int N)) (.val (.lst (ps.map dRs))) (.own ((o :: os).map fun o => D.lst (dN o))) y10 y11 (.val .non) y13 (.val (.tup (dN o))) .un
    have hol : (dN o).length ≤ sizeLine := by
      rw [List.length_map]
      have := ho.2; have := W.l3
      exact Nat.le_of_lt (small1000 (by omega))
    have hkl : ((o :: os).map fun o => D.lst (dN o)).length ≤ sizeLine := by
      rw [List.length_map]
      exact Nat.le_of_lt (small1000 (by omega))
    have i0 : opIx (.lst ((o :: os).map fun o => D.lst (dN o))) (.int 0) = some (.lst (dN o)) := ix_lst' (i := 0) rfl rfl
    have hl0 : ∃ m : Nat, ((o :: os).map fun o => D.lst (dN o)).length = m + 1 := ⟨os.length, by simp⟩
    obtain ⟨m, hl0⟩ := hl0
    have hfl : fLen [.lst ((o :: os).map fun o => D.lst (dN o))] = some (.int ((m : Int) + 1)) := by
      show some (D.int (((o :: os).map fun o => D.lst (dN o)).length : Nat)) = _
      rw [hl0]; rfl
    have hgt : (0 : Int) < (m : Int) + 1 := by omega
    have hne0 : ((m : Int) + 1 = 0) = False := by simp; omega
    have hit : isTy .tuple (.tup (dN o)) = some true := by
      generalize dN o = DO
      rfl
    have E10' : Fn_fixed_order [dSys ps T, .lst (ps.map dRs)] = .ok (.tup (dN o)) := E10
    clear E10
    generalize (JJ ps).map dJ = JS at *
    generalize dI T = TT at *
    generalize dI l = LL at *
    generalize ps.map dTk = TK at *
    generalize ps.map dRs = RS at *
    generalize dSys ps T = SS at *
    generalize dOut a b .non = OO at *
    generalize (Prm.orders ps.length).map (fun o => D.lst (dN o)) = OD at *
    generalize ((o :: os).map fun o => D.lst (dN o)) = KD at *
    generalize dN o = DO at *
    generalize tp_POLICIES.map (fun p => D.tup [.str p, lateOf (Fn_run_policy [SS, .lst RS, .str p])]) = PD at *
    simp -implicitDefEqProofs [ini, body_law, eIsi, hit, E1, E2, E3, E4, E5, E6, E7, E8, E9, E10', E11, E12, hlen, hll, hne, hne2, k1, k2, k3, hol, hkl, i0, hfl, hgt, hne0]
end G88

namespace G88
open PySem PySem.Spec PyProof.Rows L2 Pu

def topS (i : Nat) : Stmt := PySem.Challenge.pw_neverlate_k88_whole_no_policy_keeps_more.main.body.getD i (.Pass ⟨0, 0, 0, 0⟩)
/-- where things stand -/
structure Ad where
  c_Outcome : Addr
  c_Task : Addr
  c_System : Addr
  f_capacity : Addr
  fd_capacity : FuncData
  f_Outcome_init : Addr
  fd_Outcome_init : FuncData
  f_first_late : Addr
  fd_first_late : FuncData
  f_serve : Addr
  fd_serve : FuncData
  f_rank : Addr
  fd_rank : FuncData
  f_is_name : Addr
  fd_is_name : FuncData
  f_are_ways : Addr
  fd_are_ways : FuncData
  f_is_table : Addr
  fd_is_table : FuncData
  f_Task_kind_number : Addr
  fd_Task_kind_number : FuncData
  f_law_row : Addr
  fd_law_row : FuncData
  f_law_word : Addr
  fd_law_word : FuncData
  f_law_named : Addr
  fd_law_named : FuncData
  f_law_ways : Addr
  fd_law_ways : FuncData
  f_law_course : Addr
  fd_law_course : FuncData
  f_law_table : Addr
  fd_law_table : FuncData
  f_law_copy : Addr
  fd_law_copy : FuncData
  f_law_kind : Addr
  fd_law_kind : FuncData
  f_law_last : Addr
  fd_law_last : FuncData
  f_law_ends : Addr
  fd_law_ends : FuncData
  f_law_late : Addr
  fd_law_late : FuncData
  f_law_is_integer : Addr
  fd_law_is_integer : FuncData
  f_law_rank : Addr
  fd_law_rank : FuncData
  f_law_orders : Addr
  fd_law_orders : FuncData
  f_ready_places : Addr
  fd_ready_places : FuncData
  f_are_kinds : Addr
  fd_are_kinds : FuncData
  f_Task_cost : Addr
  fd_Task_cost : FuncData
  f_Task_deadline : Addr
  fd_Task_deadline : FuncData
  f_Task_ways_from : Addr
  fd_Task_ways_from : FuncData
  f_System_init : Addr
  fd_System_init : FuncData
  f_law_numbers : Addr
  fd_law_numbers : FuncData
  f_law_kinds : Addr
  fd_law_kinds : FuncData
  f_law_jobs : Addr
  fd_law_jobs : FuncData
  f_law_policy : Addr
  fd_law_policy : FuncData
  f_follows : Addr
  fd_follows : FuncData
  f_due : Addr
  fd_due : FuncData
  f_Task_init : Addr
  fd_Task_init : FuncData
  f_law_world : Addr
  fd_law_world : FuncData
  f_check_task_releases : Addr
  fd_check_task_releases : FuncData
  f_last_due : Addr
  fd_last_due : FuncData
  f_all_jobs : Addr
  fd_all_jobs : FuncData
  f_check_releases : Addr
  fd_check_releases : FuncData
  f_law_system : Addr
  fd_law_system : FuncData
  f_run : Addr
  fd_run : FuncData
  f_run_ranked : Addr
  fd_run_ranked : FuncData
  f_run_policy : Addr
  fd_run_policy : FuncData
  f_run_fixed : Addr
  fd_run_fixed : FuncData
  f_late_by_policy : Addr
  fd_late_by_policy : FuncData
  f_fixed_order : Addr
  fd_fixed_order : FuncData
  f_law : Addr
  fd_law : FuncData
  t_POLICIES : Addr
def Ad.cm (A : Ad) : Nat → Addr
  | 0 => A.c_Outcome
  | 1 => A.c_Task
  | 2 => A.c_System
  | _ => 0
structure Fx (P : Program) (K : PySem.W.Frag) (mg : Str → Option Value) (A : Ad) : Prop where
  F_capacity : Fun K "capacity" "capacity" (topS 17) A.f_capacity A.fd_capacity
  g_capacity : mg "capacity" = some (.ref A.f_capacity)
  F_Outcome_init : Fun K "__init__" "Outcome.__init__" (inClass (topS 19) 0) A.f_Outcome_init A.fd_Outcome_init
  Mk_Outcome : Mk K (A.cm 0) A.f_Outcome_init
  F_first_late : Fun K "first_late" "first_late" (topS 20) A.f_first_late A.fd_first_late
  g_first_late : mg "first_late" = some (.ref A.f_first_late)
  F_serve : Fun K "serve" "serve" (topS 21) A.f_serve A.fd_serve
  g_serve : mg "serve" = some (.ref A.f_serve)
  F_rank : Fun K "rank" "rank" (topS 25) A.f_rank A.fd_rank
  g_rank : mg "rank" = some (.ref A.f_rank)
  F_is_name : Fun K "is_name" "is_name" (topS 43) A.f_is_name A.fd_is_name
  g_is_name : mg "is_name" = some (.ref A.f_is_name)
  F_are_ways : Fun K "are_ways" "are_ways" (topS 45) A.f_are_ways A.fd_are_ways
  g_are_ways : mg "are_ways" = some (.ref A.f_are_ways)
  F_is_table : Fun K "is_table" "is_table" (topS 46) A.f_is_table A.fd_is_table
  g_is_table : mg "is_table" = some (.ref A.f_is_table)
  F_Task_kind_number : Fun K "kind_number" "Task.kind_number" (inClass (topS 47) 3) A.f_Task_kind_number A.fd_Task_kind_number
  M_Task_kind_number : Meth K (A.cm 1) "kind_number" A.f_Task_kind_number
  F_law_row : Fun K "_law_row" "_law_row" (topS 50) A.f_law_row A.fd_law_row
  g_law_row : mg "_law_row" = some (.ref A.f_law_row)
  F_law_word : Fun K "_law_word" "_law_word" (topS 52) A.f_law_word A.fd_law_word
  g_law_word : mg "_law_word" = some (.ref A.f_law_word)
  F_law_named : Fun K "_law_named" "_law_named" (topS 53) A.f_law_named A.fd_law_named
  g_law_named : mg "_law_named" = some (.ref A.f_law_named)
  F_law_ways : Fun K "_law_ways" "_law_ways" (topS 55) A.f_law_ways A.fd_law_ways
  g_law_ways : mg "_law_ways" = some (.ref A.f_law_ways)
  F_law_course : Fun K "_law_course" "_law_course" (topS 56) A.f_law_course A.fd_law_course
  g_law_course : mg "_law_course" = some (.ref A.f_law_course)
  F_law_table : Fun K "_law_table" "_law_table" (topS 57) A.f_law_table A.fd_law_table
  g_law_table : mg "_law_table" = some (.ref A.f_law_table)
  F_law_copy : Fun K "_law_copy" "_law_copy" (topS 60) A.f_law_copy A.fd_law_copy
  g_law_copy : mg "_law_copy" = some (.ref A.f_law_copy)
  F_law_kind : Fun K "_law_kind" "_law_kind" (topS 61) A.f_law_kind A.fd_law_kind
  g_law_kind : mg "_law_kind" = some (.ref A.f_law_kind)
  F_law_last : Fun K "_law_last" "_law_last" (topS 63) A.f_law_last A.fd_law_last
  g_law_last : mg "_law_last" = some (.ref A.f_law_last)
  F_law_ends : Fun K "_law_ends" "_law_ends" (topS 64) A.f_law_ends A.fd_law_ends
  g_law_ends : mg "_law_ends" = some (.ref A.f_law_ends)
  F_law_late : Fun K "_law_late" "_law_late" (topS 65) A.f_law_late A.fd_law_late
  g_law_late : mg "_law_late" = some (.ref A.f_law_late)
  F_law_is_integer : Fun K "_law_is_integer" "_law_is_integer" (topS 66) A.f_law_is_integer A.fd_law_is_integer
  g_law_is_integer : mg "_law_is_integer" = some (.ref A.f_law_is_integer)
  F_law_rank : Fun K "_law_rank" "_law_rank" (topS 67) A.f_law_rank A.fd_law_rank
  g_law_rank : mg "_law_rank" = some (.ref A.f_law_rank)
  F_law_orders : Fun K "_law_orders" "_law_orders" (topS 69) A.f_law_orders A.fd_law_orders
  g_law_orders : mg "_law_orders" = some (.ref A.f_law_orders)
  F_ready_places : Fun K "ready_places" "ready_places" (topS 26) A.f_ready_places A.fd_ready_places
  g_ready_places : mg "ready_places" = some (.ref A.f_ready_places)
  F_are_kinds : Fun K "are_kinds" "are_kinds" (topS 44) A.f_are_kinds A.fd_are_kinds
  g_are_kinds : mg "are_kinds" = some (.ref A.f_are_kinds)
  F_Task_cost : Fun K "cost" "Task.cost" (inClass (topS 47) 4) A.f_Task_cost A.fd_Task_cost
  M_Task_cost : Meth K (A.cm 1) "cost" A.f_Task_cost
  F_Task_deadline : Fun K "deadline" "Task.deadline" (inClass (topS 47) 5) A.f_Task_deadline A.fd_Task_deadline
  M_Task_deadline : Meth K (A.cm 1) "deadline" A.f_Task_deadline
  F_Task_ways_from : Fun K "ways_from" "Task.ways_from" (inClass (topS 47) 6) A.f_Task_ways_from A.fd_Task_ways_from
  M_Task_ways_from : Meth K (A.cm 1) "ways_from" A.f_Task_ways_from
  F_System_init : Fun K "__init__" "System.__init__" (inClass (topS 48) 0) A.f_System_init A.fd_System_init
  Mk_System : Mk K (A.cm 2) A.f_System_init
  F_law_numbers : Fun K "_law_numbers" "_law_numbers" (topS 51) A.f_law_numbers A.fd_law_numbers
  g_law_numbers : mg "_law_numbers" = some (.ref A.f_law_numbers)
  F_law_kinds : Fun K "_law_kinds" "_law_kinds" (topS 54) A.f_law_kinds A.fd_law_kinds
  g_law_kinds : mg "_law_kinds" = some (.ref A.f_law_kinds)
  F_law_jobs : Fun K "_law_jobs" "_law_jobs" (topS 62) A.f_law_jobs A.fd_law_jobs
  g_law_jobs : mg "_law_jobs" = some (.ref A.f_law_jobs)
  F_law_policy : Fun K "_law_policy" "_law_policy" (topS 68) A.f_law_policy A.fd_law_policy
  g_law_policy : mg "_law_policy" = some (.ref A.f_law_policy)
  F_follows : Fun K "follows" "follows" (topS 10) A.f_follows A.fd_follows
  g_follows : mg "follows" = some (.ref A.f_follows)
  F_due : Fun K "due" "due" (topS 13) A.f_due A.fd_due
  g_due : mg "due" = some (.ref A.f_due)
  F_Task_init : Fun K "__init__" "Task.__init__" (inClass (topS 47) 0) A.f_Task_init A.fd_Task_init
  Mk_Task : Mk K (A.cm 1) A.f_Task_init
  F_law_world : Fun K "_law_world" "_law_world" (topS 58) A.f_law_world A.fd_law_world
  g_law_world : mg "_law_world" = some (.ref A.f_law_world)
  F_check_task_releases : Fun K "check_task_releases" "check_task_releases" (topS 12) A.f_check_task_releases A.fd_check_task_releases
  g_check_task_releases : mg "check_task_releases" = some (.ref A.f_check_task_releases)
  F_last_due : Fun K "last_due" "last_due" (topS 14) A.f_last_due A.fd_last_due
  g_last_due : mg "last_due" = some (.ref A.f_last_due)
  F_all_jobs : Fun K "all_jobs" "all_jobs" (topS 15) A.f_all_jobs A.fd_all_jobs
  g_all_jobs : mg "all_jobs" = some (.ref A.f_all_jobs)
  F_check_releases : Fun K "check_releases" "check_releases" (topS 11) A.f_check_releases A.fd_check_releases
  g_check_releases : mg "check_releases" = some (.ref A.f_check_releases)
  F_law_system : Fun K "_law_system" "_law_system" (topS 59) A.f_law_system A.fd_law_system
  g_law_system : mg "_law_system" = some (.ref A.f_law_system)
  F_run : Fun K "run" "run" (topS 22) A.f_run A.fd_run
  g_run : mg "run" = some (.ref A.f_run)
  F_run_ranked : Fun K "run_ranked" "run_ranked" (topS 27) A.f_run_ranked A.fd_run_ranked
  g_run_ranked : mg "run_ranked" = some (.ref A.f_run_ranked)
  F_run_policy : Fun K "run_policy" "run_policy" (topS 28) A.f_run_policy A.fd_run_policy
  g_run_policy : mg "run_policy" = some (.ref A.f_run_policy)
  F_run_fixed : Fun K "run_fixed" "run_fixed" (topS 29) A.f_run_fixed A.fd_run_fixed
  g_run_fixed : mg "run_fixed" = some (.ref A.f_run_fixed)
  F_late_by_policy : Fun K "late_by_policy" "late_by_policy" (topS 30) A.f_late_by_policy A.fd_late_by_policy
  g_late_by_policy : mg "late_by_policy" = some (.ref A.f_late_by_policy)
  F_fixed_order : Fun K "fixed_order" "fixed_order" (topS 31) A.f_fixed_order A.fd_fixed_order
  g_fixed_order : mg "fixed_order" = some (.ref A.f_fixed_order)
  F_law : Fun K "law" "law" (topS 70) A.f_law A.fd_law
  g_law : mg "law" = some (.ref A.f_law)
  C_Outcome : Cls K (A.cm 0)
  g_Outcome : mg "Outcome" = some (.ref (A.cm 0))
  C_Task : Cls K (A.cm 1)
  g_Task : mg "Task" = some (.ref (A.cm 1))
  C_System : Cls K (A.cm 2)
  g_System : mg "System" = some (.ref (A.cm 2))
  n_Outcome_ends : NoAttr K (A.cm 0) "ends"
  n_Outcome_late : NoAttr K (A.cm 0) "late"
  n_Outcome_slots : NoAttr K (A.cm 0) "slots"
  n_System_table : NoAttr K (A.cm 2) "table"
  n_System_tasks : NoAttr K (A.cm 2) "tasks"
  n_Task_kinds : NoAttr K (A.cm 1) "kinds"
  n_Task_name : NoAttr K (A.cm 1) "name"
  n_Task_ways : NoAttr K (A.cm 1) "ways"
  b_abs : mg "abs" = none
  b_all : mg "all" = none
  b_bool : mg "bool" = none
  b_enumerate : mg "enumerate" = none
  b_int : mg "int" = none
  b_isinstance : mg "isinstance" = none
  b_len : mg "len" = none
  b_list : mg "list" = none
  b_max : mg "max" = none
  b_min : mg "min" = none
  b_range : mg "range" = none
  b_sorted : mg "sorted" = none
  b_tuple : mg "tuple" = none
  g_permutations : mg "permutations" = some (.type "itertools.permutations")
  v_MOST_CAPACITY : ∃ t, mg "MOST_CAPACITY" = some (.int 1000000 t)
  v_MOST_COST : ∃ t, mg "MOST_COST" = some (.int 1000 t)
  v_MOST_DEADLINE : ∃ t, mg "MOST_DEADLINE" = some (.int 1000 t)
  v_MOST_DISTANCE : ∃ t, mg "MOST_DISTANCE" = some (.int 1000 t)
  v_MOST_KINDS : ∃ t, mg "MOST_KINDS" = some (.int 8 t)
  v_MOST_NAME_CHARS : ∃ t, mg "MOST_NAME_CHARS" = some (.int 12 t)
  v_MOST_SLOTS : ∃ t, mg "MOST_SLOTS" = some (.int 1001 t)
  v_MOST_TASKS : ∃ t, mg "MOST_TASKS" = some (.int 6 t)
  v_MOST_WAYS : ∃ t, mg "MOST_WAYS" = some (.int 16 t)
  v_NAME_CHARS : ∃ t, mg "NAME_CHARS" = some (.str "abcdefghijklmnopqrstuvwxyz0123456789" t)
  v_POLICIES : mg "POLICIES" = some (.ref A.t_POLICIES)
  w_POLICIES : GTup K A.t_POLICIES tp_POLICIES
section
variable {P : Program} {w : World} {K : PySem.W.Frag} {mg : Str → Option Value} {base : Heap} (A : Ad) (T : Fx P K mg A)
include T
theorem b_capacity : Binds K A.fd_capacity ["table", "slot"] [] := T.F_capacity.binds fun _ _ _ _ _ _ us hl => match us, hl with | [_, _], _ => rfl
theorem b_Outcome_init : Binds K A.fd_Outcome_init ["self", "slots", "ends", "late"] [] := T.F_Outcome_init.binds fun _ _ _ _ _ _ us hl => match us, hl with | [_, _, _, _], _ => rfl
theorem b_first_late : Binds K A.fd_first_late ["jobs", "ends"] [] := T.F_first_late.binds fun _ _ _ _ _ _ us hl => match us, hl with | [_, _], _ => rfl
theorem b_serve : Binds K A.fd_serve ["jobs", "left", "slot", "free"] [] := T.F_serve.binds fun _ _ _ _ _ _ us hl => match us, hl with | [_, _, _, _], _ => rfl
theorem b_rank : Binds K A.fd_rank ["policy", "job", "left", "slot", "order"] [] := T.F_rank.binds fun _ _ _ _ _ _ us hl => match us, hl with | [_, _, _, _, _], _ => rfl
theorem b_is_name : Binds K A.fd_is_name ["text"] [] := T.F_is_name.binds fun _ _ _ _ _ _ us hl => match us, hl with | [_], _ => rfl
theorem b_are_ways : Binds K A.fd_are_ways ["ways", "kind_names"] [] := T.F_are_ways.binds fun _ _ _ _ _ _ us hl => match us, hl with | [_, _], _ => rfl
theorem b_is_table : Binds K A.fd_is_table ["table"] [] := T.F_is_table.binds fun _ _ _ _ _ _ us hl => match us, hl with | [_], _ => rfl
theorem b_Task_kind_number : Binds K A.fd_Task_kind_number ["self", "kind_name"] [] := T.F_Task_kind_number.binds fun _ _ _ _ _ _ us hl => match us, hl with | [_, _], _ => rfl
theorem b_law_row : Binds K A.fd_law_row ["_law_cell", "_law_many"] [] := T.F_law_row.binds fun _ _ _ _ _ _ us hl => match us, hl with | [_, _], _ => rfl
theorem b_law_word : Binds K A.fd_law_word ["_law_number"] [] := T.F_law_word.binds fun _ _ _ _ _ _ us hl => match us, hl with | [_], _ => rfl
theorem b_law_named : Binds K A.fd_law_named ["_law_word_here", "_law_number", "_law_k"] [] := T.F_law_named.binds fun _ _ _ _ _ _ us hl => match us, hl with | [_, _, _], _ => rfl
theorem b_law_ways : Binds K A.fd_law_ways ["_law_numbers_here", "_law_at", "_law_kinds_here"] [] := T.F_law_ways.binds fun _ _ _ _ _ _ us hl => match us, hl with | [_, _, _], _ => rfl
theorem b_law_course : Binds K A.fd_law_course ["_law_numbers_here", "_law_at", "_law_kinds_here", "_law_ways_here", "_law_many"] [] := T.F_law_course.binds fun _ _ _ _ _ _ us hl => match us, hl with | [_, _, _, _, _], _ => rfl
theorem b_law_table : Binds K A.fd_law_table ["_law_numbers_here", "_law_at", "_law_scale"] [] := T.F_law_table.binds fun _ _ _ _ _ _ us hl => match us, hl with | [_, _, _], _ => rfl
theorem b_law_copy : Binds K A.fd_law_copy ["_law_rows"] [] := T.F_law_copy.binds fun _ _ _ _ _ _ us hl => match us, hl with | [_], _ => rfl
theorem b_law_kind : Binds K A.fd_law_kind ["_law_task", "_law_name"] [] := T.F_law_kind.binds fun _ _ _ _ _ _ us hl => match us, hl with | [_, _], _ => rfl
theorem b_law_last : Binds K A.fd_law_last ["_law_jobs_here"] [] := T.F_law_last.binds fun _ _ _ _ _ _ us hl => match us, hl with | [_], _ => rfl
theorem b_law_ends : Binds K A.fd_law_ends ["_law_jobs_here", "_law_slots"] [] := T.F_law_ends.binds fun _ _ _ _ _ _ us hl => match us, hl with | [_, _], _ => rfl
theorem b_law_late : Binds K A.fd_law_late ["_law_jobs_here", "_law_ends_here"] [] := T.F_law_late.binds fun _ _ _ _ _ _ us hl => match us, hl with | [_, _], _ => rfl
theorem b_law_is_integer : Binds K A.fd_law_is_integer ["_law_actual"] [] := T.F_law_is_integer.binds fun _ _ _ _ _ _ us hl => match us, hl with | [_], _ => rfl
theorem b_law_rank : Binds K A.fd_law_rank ["_law_policy_here", "_law_job", "_law_left", "_law_slot", "_law_order"] [] := T.F_law_rank.binds fun _ _ _ _ _ _ us hl => match us, hl with | [_, _, _, _, _], _ => rfl
theorem b_law_orders : Binds K A.fd_law_orders ["_law_count"] [] := T.F_law_orders.binds fun _ _ _ _ _ _ us hl => match us, hl with | [_], _ => rfl
theorem b_ready_places : Binds K A.fd_ready_places ["policy", "jobs", "left", "slot", "order"] [] := T.F_ready_places.binds fun _ _ _ _ _ _ us hl => match us, hl with | [_, _, _, _, _], _ => rfl
theorem b_are_kinds : Binds K A.fd_are_kinds ["kinds"] [] := T.F_are_kinds.binds fun _ _ _ _ _ _ us hl => match us, hl with | [_], _ => rfl
theorem b_Task_cost : Binds K A.fd_Task_cost ["self", "kind_name"] [] := T.F_Task_cost.binds fun _ _ _ _ _ _ us hl => match us, hl with | [_, _], _ => rfl
theorem b_Task_deadline : Binds K A.fd_Task_deadline ["self", "kind_name"] [] := T.F_Task_deadline.binds fun _ _ _ _ _ _ us hl => match us, hl with | [_, _], _ => rfl
theorem b_Task_ways_from : Binds K A.fd_Task_ways_from ["self", "kind_name"] [] := T.F_Task_ways_from.binds fun _ _ _ _ _ _ us hl => match us, hl with | [_, _], _ => rfl
theorem kbn_System_init_1 : KBn K A.fd_System_init ["self", "tasks", "table"] 2 ["table"] (fun us ws => us ++ ws) (fun us ws => us ++ ws) := kbn_of T.F_System_init fun _ _ _ _ _ _ us ws h1 h2 => match us, ws, h1, h2 with | [_, _], [_], _, _ => rfl
theorem b_law_numbers : Binds K A.fd_law_numbers ["_law_script", "_law_many"] [] := T.F_law_numbers.binds fun _ _ _ _ _ _ us hl => match us, hl with | [_, _], _ => rfl
theorem b_law_kinds : Binds K A.fd_law_kinds ["_law_numbers_here", "_law_at", "_law_scale"] [] := T.F_law_kinds.binds fun _ _ _ _ _ _ us hl => match us, hl with | [_, _, _], _ => rfl
theorem b_law_jobs : Binds K A.fd_law_jobs ["_law_tasks", "_law_releases"] [] := T.F_law_jobs.binds fun _ _ _ _ _ _ us hl => match us, hl with | [_, _], _ => rfl
theorem b_law_policy : Binds K A.fd_law_policy ["_law_jobs_here", "_law_table_here", "_law_size", "_law_policy_here", "_law_order"] [] := T.F_law_policy.binds fun _ _ _ _ _ _ us hl => match us, hl with | [_, _, _, _, _], _ => rfl
theorem b_follows : Binds K A.fd_follows ["task", "first", "second"] [] := T.F_follows.binds fun _ _ _ _ _ _ us hl => match us, hl with | [_, _, _], _ => rfl
theorem b_due : Binds K A.fd_due ["task", "release"] [] := T.F_due.binds fun _ _ _ _ _ _ us hl => match us, hl with | [_, _], _ => rfl
theorem kbn_Task_init_1 : KBn K A.fd_Task_init ["self", "name", "kinds", "ways"] 2 ["kinds", "ways"] (fun us ws => us ++ ws) (fun us ws => us ++ ws) := kbn_of T.F_Task_init fun _ _ _ _ _ _ us ws h1 h2 => match us, ws, h1, h2 with | [_, _], [_, _], _, _ => rfl
theorem b_law_world : Binds K A.fd_law_world ["_law_numbers_here"] [] := T.F_law_world.binds fun _ _ _ _ _ _ us hl => match us, hl with | [_], _ => rfl
theorem b_check_task_releases : Binds K A.fd_check_task_releases ["number", "task", "releases"] [] := T.F_check_task_releases.binds fun _ _ _ _ _ _ us hl => match us, hl with | [_, _, _], _ => rfl
theorem b_last_due : Binds K A.fd_last_due ["system", "releases"] [] := T.F_last_due.binds fun _ _ _ _ _ _ us hl => match us, hl with | [_, _], _ => rfl
theorem b_all_jobs : Binds K A.fd_all_jobs ["system", "releases"] [] := T.F_all_jobs.binds fun _ _ _ _ _ _ us hl => match us, hl with | [_, _], _ => rfl
theorem b_check_releases : Binds K A.fd_check_releases ["system", "releases"] [] := T.F_check_releases.binds fun _ _ _ _ _ _ us hl => match us, hl with | [_, _], _ => rfl
theorem b_law_system : Binds K A.fd_law_system ["_law_tasks", "_law_table_here"] [] := T.F_law_system.binds fun _ _ _ _ _ _ us hl => match us, hl with | [_, _], _ => rfl
theorem b_run : Binds K A.fd_run ["system", "releases"] [] := T.F_run.binds fun _ _ _ _ _ _ us hl => match us, hl with | [_, _], _ => rfl
theorem b_run_ranked : Binds K A.fd_run_ranked ["system", "releases", "policy", "order"] [] := T.F_run_ranked.binds fun _ _ _ _ _ _ us hl => match us, hl with | [_, _, _, _], _ => rfl
theorem kb_run_policy_2 : KBinds K A.fd_run_policy ["system", "releases", "policy"] ["policy"] (gK 2) (gK 2) := kb_of (n := 2) (m := 1) T.F_run_policy rfl (by decide) fun _ _ _ _ _ _ us ws h1 h2 => match us, ws, h1, h2 with | [_, _], [_], _, _ => rfl
theorem kb_run_fixed_2 : KBinds K A.fd_run_fixed ["system", "releases", "order"] ["order"] (gK 2) (gK 2) := kb_of (n := 2) (m := 1) T.F_run_fixed rfl (by decide) fun _ _ _ _ _ _ us ws h1 h2 => match us, ws, h1, h2 with | [_, _], [_], _, _ => rfl
theorem b_late_by_policy : Binds K A.fd_late_by_policy ["system", "releases"] [] := T.F_late_by_policy.binds fun _ _ _ _ _ _ us hl => match us, hl with | [_, _], _ => rfl
theorem b_fixed_order : Binds K A.fd_fixed_order ["system", "releases"] [] := T.F_fixed_order.binds fun _ _ _ _ _ _ us hl => match us, hl with | [_, _], _ => rfl
theorem b_law : Binds K A.fd_law ["_law_script"] [] := T.F_law.binds fun _ _ _ _ _ _ us hl => match us, hl with | [_], _ => rfl
abbrev N_capacity : List Str := ["table", "slot"]
omit T in theorem sc_capacity : FnScope N_capacity ["table", "slot"] (defScope (topS 17)) := ⟨rfl, rfl, rfl, by decide +kernel, rfl, by decide +kernel, by decide +kernel⟩
theorem ok_capacity : FnOk P w K mg base CX0 1 A.f_capacity A.fd_capacity ["table", "slot"] (PS0 ⟨K, A.cm⟩ Fn_capacity) :=
  fn0 (K := ⟨K, A.cm⟩) T.F_capacity sc_capacity rfl rfl fun cdv Ar outer s' H Fz E hr =>
    (sss_one (ss_ret (se_ix (sb_of (se_nm 0)) (sb_of (se_mod (sb_of (se_nm 1)) (sb_of (se_len rfl T.b_len (sab_cons (sb_of (se_nm 0)) sab_nil))))))))
abbrev N_Outcome_init : List Str := ["self", "slots", "ends", "late", "row"]
omit T in theorem sc_Outcome_init : FnScope N_Outcome_init ["self", "slots", "ends", "late"] (defScope (inClass (topS 19) 0)) := ⟨rfl, rfl, rfl, by decide +kernel, rfl, by decide +kernel, by decide +kernel⟩
theorem ok_Outcome_init : FnOk P w K mg base CX0 1 A.f_Outcome_init A.fd_Outcome_init ["self", "slots", "ends", "late"] (PIn ⟨K, A.cm⟩ 0 Fn_Outcome_init) :=
  fnI (K := ⟨K, A.cm⟩) T.F_Outcome_init sc_Outcome_init rfl rfl fun cdv Ar outer s' H B Fz E a hr =>
    (sss_cons (ss_fld (i := 0) (C := 0) T.C_Outcome T.n_Outcome_slots (se_new (sn_lc rfl sc_Outcome_init.nd (si_seq (se_nm 1)) (blkOk_by (own := [("row", 4)]) (N := N_Outcome_init) (sc := defScope (inClass (topS 19) 0)) (by decide +kernel)) rfl (io0 (by decide)) (fun _ _ _ _ _ => (sg_name sc_Outcome_init.nd)) (fun _ _ _ _ _ => sts_nil) (fun _ _ _ _ _ => (se_new (sn_list rfl T.b_list (sab_cons (sb_of (se_nm 4)) sab_nil)))))))
    (sss_cons (ss_fld (i := 0) (C := 0) T.C_Outcome T.n_Outcome_ends (se_new (sn_lc rfl sc_Outcome_init.nd (si_seq (se_nm 2)) (blkOk_by (own := [("row", 4)]) (N := N_Outcome_init) (sc := defScope (inClass (topS 19) 0)) (by decide +kernel)) rfl (io0 (by decide)) (fun _ _ _ _ _ => (sg_name sc_Outcome_init.nd)) (fun _ _ _ _ _ => sts_nil) (fun _ _ _ _ _ => (se_new (sn_list rfl T.b_list (sab_cons (sb_of (se_nm 4)) sab_nil)))))))
    (sss_one (ss_fld (i := 0) (C := 0) T.C_Outcome T.n_Outcome_late (se_nm 3)))))
abbrev N_first_late : List Str := ["jobs", "ends", "job", "end"]
omit T in theorem sc_first_late : FnScope N_first_late ["jobs", "ends"] (defScope (topS 20)) := ⟨rfl, rfl, rfl, by decide +kernel, rfl, by decide +kernel, by decide +kernel⟩
theorem ok_first_late : FnOk P w K mg base CX0 1 A.f_first_late A.fd_first_late ["jobs", "ends"] (PS0 ⟨K, A.cm⟩ Fn_first_late) :=
  fn0 (K := ⟨K, A.cm⟩) T.F_first_late sc_first_late rfl rfl fun cdv Ar outer s' H Fz E hr =>
    (sss_cons (ss_for .never rfl (si_seq (se_nm 0)) (sg_name sc_first_late.nd) (sss_cons (ss_set (se_ix (sb_of (se_ix (sb_of (se_nm 1)) (sb_of (se_ix (sb_of (se_nm 2)) (sb_of se_int))))) (sb_of (se_ix (sb_of (se_nm 2)) (sb_of se_int)))) sc_first_late.nd)
    (sss_one (ss_if (st_w (sw_or (st_isN (sb_of (se_nm 3)) (sb_of se_non)) (sw_or1 (st_gt (sb_of (se_nm 3)) (sb_of (se_ix (sb_of (se_nm 2)) (sb_of se_int))))))) (sss_one (ss_ret (se_ix (sb_of (se_nm 2)) (sb_of se_int)))) sss_nil))))
    (sss_one (ss_ret se_non)))
abbrev N_serve : List Str := ["jobs", "left", "slot", "free", "row", "place", "job", "units"]
omit T in theorem sc_serve : FnScope N_serve ["jobs", "left", "slot", "free"] (defScope (topS 21)) := ⟨rfl, rfl, rfl, by decide +kernel, rfl, by decide +kernel, by decide +kernel⟩
theorem ok_serve : FnOk P w K mg base CX0 1 A.f_serve A.fd_serve ["jobs", "left", "slot", "free"] (PM ⟨K, A.cm⟩ Fn_serve) :=
  fnM (K := ⟨K, A.cm⟩) T.F_serve sc_serve rfl rfl fun cdv Ar outer s' H B Fz E oc hr =>
    (sss_cons (ss_own (sn_lst sa_nil (by decide) (len_le aN_len (by decide))) sc_serve.nd)
    (sss_cons (ss_for .never rfl (si_enum rfl T.b_enumerate (sa_cons (se_nm 0) sa_nil)) (sg_tup rfl (sgs_cons (sg_name sc_serve.nd) (sgs_cons (sg_name sc_serve.nd) sgs_nil)) 2) (sss_cons (ss_if (st_eq hr.units (sb_of (se_nm 3)) (sb_of se_int)) (sss_one ss_break) sss_nil)
    (sss_one (ss_if (st_w (sw_and (st_le (sb_of (se_ix (sb_of (se_nm 6)) (sb_of se_int))) (sb_of (se_nm 2))) (sw_and1 (st_gt (sb_of (se_ix (sb_cell (sr_nm 1)) (sb_of (se_nm 5)))) (sb_of se_int))))) (sss_cons (ss_set (se_callB (call_min2 rfl) l_min2 rfl T.b_min (by decide +kernel) (sab_cons (sb_of (se_nm 3)) (sab_cons (sb_of (se_ix (sb_cell (sr_nm 1)) (sb_of (se_nm 5)))) sab_nil))) sc_serve.nd)
    (sss_cons (ss_augC (sr_nm 1) (se_nm 5) (se_nm 7) ip_sub li_sub)
    (sss_cons (ss_aug (se_nm 7) ip_sub li_sub sc_serve.nd)
    (sss_one (ss_app (i := 4) (se_tup (sa_cons (se_ix (sb_of (se_nm 6)) (sb_of se_int)) (sa_cons (se_ix (sb_of (se_nm 6)) (sb_of se_int)) (sa_cons (se_nm 7) sa_nil))) (len_le (aC_len (aC_len (aC_len aN_len))) (by decide)))))))) sss_nil))))
    (sss_one (ss_frz (ss_retM (sx_e (se_nm 4)))))))
abbrev N_rank : List Str := ["policy", "job", "left", "slot", "order", "instant", "time", "task", "release", "_"]
omit T in theorem sc_rank : FnScope N_rank ["policy", "job", "left", "slot", "order"] (defScope (topS 25)) := ⟨rfl, rfl, rfl, by decide +kernel, rfl, by decide +kernel, by decide +kernel⟩
theorem ok_rank : FnOk P w K mg base CX0 1 A.f_rank A.fd_rank ["policy", "job", "left", "slot", "order"] (PS0 ⟨K, A.cm⟩ Fn_rank) :=
  fn0 (K := ⟨K, A.cm⟩) T.F_rank sc_rank rfl rfl fun cdv Ar outer s' H Fz E hr =>
    (sss_cons (ss_to (se_nm 1) (sg_tup rfl (sgs_cons (sg_name sc_rank.nd) (sgs_cons (sg_name sc_rank.nd) (sgs_cons (sg_name sc_rank.nd) (sgs_cons (sg_name sc_rank.nd) (sgs_cons (sg_name sc_rank.nd) sgs_nil))))) 5))
    (sss_cons (ss_if (st_eq hr.units (sb_of (se_nm 0)) (sb_of se_str)) (sss_one (ss_ret (se_tup (sa_cons (se_nm 5) (sa_cons (se_nm 6) (sa_cons (se_nm 7) (sa_cons (se_nm 8) sa_nil)))) (len_le (aC_len (aC_len (aC_len (aC_len aN_len)))) (by decide))))) sss_nil)
    (sss_cons (ss_if (st_eq hr.units (sb_of (se_nm 0)) (sb_of se_str)) (sss_one (ss_ret (se_tup (sa_cons (se_index (sb_of (se_nm 4)) (se_nm 7)) (sa_cons (se_nm 8) (sa_cons se_int (sa_cons se_int sa_nil)))) (len_le (aC_len (aC_len (aC_len (aC_len aN_len)))) (by decide))))) sss_nil)
    (sss_cons (ss_if (st_eq hr.units (sb_of (se_nm 0)) (sb_of se_str)) (sss_one (ss_ret (se_tup (sa_cons (se_nm 6) (sa_cons (se_nm 7) (sa_cons (se_nm 8) (sa_cons se_int sa_nil)))) (len_le (aC_len (aC_len (aC_len (aC_len aN_len)))) (by decide))))) sss_nil)
    (sss_one (ss_ret (se_tup (sa_cons (se_sub (sb_of (se_sub (sb_of (se_nm 5)) (sb_of (se_nm 3)))) (sb_of (se_nm 2))) (sa_cons (se_nm 5) (sa_cons (se_nm 7) (sa_cons (se_nm 8) sa_nil)))) (len_le (aC_len (aC_len (aC_len (aC_len aN_len)))) (by decide)))))))))
abbrev N_is_name : List Str := ["text", "char"]
omit T in theorem sc_is_name : FnScope N_is_name ["text"] (defScope (topS 43)) := ⟨rfl, rfl, rfl, by decide +kernel, rfl, by decide +kernel, by decide +kernel⟩
theorem ok_is_name : FnOk P w K mg base CX0 1 A.f_is_name A.fd_is_name ["text"] (PS0 ⟨K, A.cm⟩ Fn_is_name) :=
  fn0 (K := ⟨K, A.cm⟩) T.F_is_name sc_is_name rfl rfl fun cdv Ar outer s' H Fz E hr =>
    (sss_cons (ss_if (st_not (st_lele (sb_of se_int) (sb_of (se_len rfl T.b_len (sab_cons (sb_of (se_nm 0)) sab_nil))) (sb_of (se_gint rfl T.v_MOST_NAME_CHARS)))) (sss_one (ss_ret se_bl)) sss_nil)
    (sss_one (ss_ret (se_callB (cr_all rfl) l_all rfl T.b_all (by decide +kernel) (sab_cons (sb_of (se_new (sn_lc rfl sc_is_name.nd (si_seq (se_nm 0)) (blkOk_by (own := [("char", 1)]) (N := N_is_name) (sc := defScope (topS 43)) (by decide +kernel)) rfl ioN (fun _ _ _ _ _ => (sg_name sc_is_name.nd)) (fun _ _ _ _ _ => sts_nil) (fun _ _ _ _ _ => (se_in (sb_of (se_nm 1)) (sb_of (se_gstr rfl T.v_NAME_CHARS))))))) sab_nil)))))
abbrev N_are_ways : List Str := ["ways", "kind_names", "source", "target", "distance"]
omit T in theorem sc_are_ways : FnScope N_are_ways ["ways", "kind_names"] (defScope (topS 45)) := ⟨rfl, rfl, rfl, by decide +kernel, rfl, by decide +kernel, by decide +kernel⟩
theorem ok_are_ways : FnOk P w K mg base CX0 1 A.f_are_ways A.fd_are_ways ["ways", "kind_names"] (PS0 ⟨K, A.cm⟩ Fn_are_ways) :=
  fn0 (K := ⟨K, A.cm⟩) T.F_are_ways sc_are_ways rfl rfl fun cdv Ar outer s' H Fz E hr =>
    (sss_cons (ss_if (st_gt (sb_of (se_len rfl T.b_len (sab_cons (sb_of (se_nm 0)) sab_nil))) (sb_of (se_gint rfl T.v_MOST_WAYS))) (sss_one (ss_ret se_bl)) sss_nil)
    (sss_cons (ss_for .never rfl (si_seq (se_nm 0)) (sg_tup rfl (sgs_cons (sg_name sc_are_ways.nd) (sgs_cons (sg_name sc_are_ways.nd) (sgs_cons (sg_name sc_are_ways.nd) sgs_nil))) 3) (sss_cons (ss_if (st_w (sw_or (st_notIn (sb_of (se_nm 2)) (sb_of (se_nm 1))) (sw_or1 (st_notIn (sb_of (se_nm 3)) (sb_of (se_nm 1)))))) (sss_one (ss_ret se_bl)) sss_nil)
    (sss_one (ss_if (st_not (st_lele (sb_of se_int) (sb_of (se_nm 4)) (sb_of (se_gint rfl T.v_MOST_DISTANCE)))) (sss_one (ss_ret se_bl)) sss_nil))))
    (sss_one (ss_ret se_bl))))
abbrev N_is_table : List Str := ["table", "capacity"]
omit T in theorem sc_is_table : FnScope N_is_table ["table"] (defScope (topS 46)) := ⟨rfl, rfl, rfl, by decide +kernel, rfl, by decide +kernel, by decide +kernel⟩
theorem ok_is_table : FnOk P w K mg base CX0 1 A.f_is_table A.fd_is_table ["table"] (PS0 ⟨K, A.cm⟩ Fn_is_table) :=
  fn0 (K := ⟨K, A.cm⟩) T.F_is_table sc_is_table rfl rfl fun cdv Ar outer s' H Fz E hr =>
    (sss_cons (ss_if (st_not (st_lele (sb_of se_int) (sb_of (se_len rfl T.b_len (sab_cons (sb_of (se_nm 0)) sab_nil))) (sb_of (se_gint rfl T.v_MOST_SLOTS)))) (sss_one (ss_ret se_bl)) sss_nil)
    (sss_one (ss_ret (se_callB (cr_all rfl) l_all rfl T.b_all (by decide +kernel) (sab_cons (sb_of (se_new (sn_lc rfl sc_is_table.nd (si_seq (se_nm 0)) (blkOk_by (own := [("capacity", 1)]) (N := N_is_table) (sc := defScope (topS 46)) (by decide +kernel)) rfl ioN (fun _ _ _ _ _ => (sg_name sc_is_table.nd)) (fun _ _ _ _ _ => sts_nil) (fun _ _ _ _ _ => (se_lele (sb_of se_int) (sb_of (se_nm 1)) (sb_of (se_gint rfl T.v_MOST_CAPACITY))))))) sab_nil)))))
abbrev N_Task_kind_number : List Str := ["self", "kind_name", "number", "kind"]
omit T in theorem sc_Task_kind_number : FnScope N_Task_kind_number ["self", "kind_name"] (defScope (inClass (topS 47) 3)) := ⟨rfl, rfl, rfl, by decide +kernel, rfl, by decide +kernel, by decide +kernel⟩
theorem ok_Task_kind_number : FnOk P w K mg base CX0 1 A.f_Task_kind_number A.fd_Task_kind_number ["self", "kind_name"] (PS0 ⟨K, A.cm⟩ Fn_Task_kind_number) :=
  fn0 (K := ⟨K, A.cm⟩) T.F_Task_kind_number sc_Task_kind_number rfl rfl fun cdv Ar outer s' H Fz E hr =>
    (sss_cons (ss_for .never rfl (si_enum rfl T.b_enumerate (sa_cons (se_fld (C := 1) T.C_Task T.n_Task_kinds (se_nm 0)) sa_nil)) (sg_tup rfl (sgs_cons (sg_name sc_Task_kind_number.nd) (sgs_cons (sg_name sc_Task_kind_number.nd) sgs_nil)) 2) (sss_one (ss_if (st_eq hr.units (sb_of (se_ix (sb_of (se_nm 3)) (sb_of se_int))) (sb_of (se_nm 1))) (sss_one (ss_ret (se_nm 2))) sss_nil)))
    sss_never)
abbrev N_law_row : List Str := ["_law_cell", "_law_many", "_law_row_here", "_law_rest", "_law_k", "_law_mixed"]
omit T in theorem sc_law_row : FnScope N_law_row ["_law_cell", "_law_many"] (defScope (topS 50)) := ⟨rfl, rfl, rfl, by decide +kernel, rfl, by decide +kernel, by decide +kernel⟩
theorem ok_law_row : FnOk P w K mg base CX0 1 A.f_law_row A.fd_law_row ["_law_cell", "_law_many"] (PS0 ⟨K, A.cm⟩ Fn_law_row) :=
  fn0 (K := ⟨K, A.cm⟩) T.F_law_row sc_law_row rfl rfl fun cdv Ar outer s' H Fz E hr =>
    (sss_cons (ss_own (sn_lst sa_nil (by decide) (len_le aN_len (by decide))) sc_law_row.nd)
    (sss_cons (ss_set (se_callB call_abs l_abs rfl T.b_abs (by decide +kernel) (sab_cons (sb_of (se_callTy call_int1 l_int rfl T.b_int (by decide +kernel) (sab_cons (sb_of (se_nm 0)) sab_nil))) sab_nil)) sc_law_row.nd)
    (sss_cons (ss_for .never rfl (si_range1 rfl T.b_range (sa_cons (se_nm 1) sa_nil)) (sg_name sc_law_row.nd) (sss_one (ss_if (st_ge (sb_of (se_callB call_abs l_abs rfl T.b_abs (by decide +kernel) (sab_cons (sb_of (se_callTy call_int1 l_int rfl T.b_int (by decide +kernel) (sab_cons (sb_of (se_nm 0)) sab_nil))) sab_nil))) (sb_of (se_pow (sb_of se_int) (sb_of se_int)))) (sss_cons (ss_app (i := 2) (se_mod (sb_of (se_callTy call_int1 l_int rfl T.b_int (by decide +kernel) (sab_cons (sb_of (se_nm 3)) sab_nil))) (sb_of se_int)))
    (sss_one (ss_set (se_div (sb_of (se_nm 3)) (sb_of se_int)) sc_law_row.nd))) (sss_cons (ss_set (se_mod (sb_of (se_callTy call_int1 l_int rfl T.b_int (by decide +kernel) (sab_cons (sb_of (se_add (sb_of (se_mul (sb_of (se_nm 3)) (sb_of se_int))) (sb_of (se_mul (sb_of (se_add (sb_of (se_nm 4)) (sb_of se_int))) (sb_of se_int))))) sab_nil))) (sb_of se_int)) sc_law_row.nd)
    (sss_cons (ss_set (se_mod (sb_of (se_callTy call_int1 l_int rfl T.b_int (by decide +kernel) (sab_cons (sb_of (se_add (sb_of (se_mul (sb_of (se_nm 5)) (sb_of se_int))) (sb_of (se_mul (sb_of se_int) (sb_of (se_add (sb_of (se_nm 4)) (sb_of se_int))))))) sab_nil))) (sb_of se_int)) sc_law_row.nd)
    (sss_one (ss_app (i := 2) (se_mod (sb_of (se_callTy call_int1 l_int rfl T.b_int (by decide +kernel) (sab_cons (sb_of (se_nm 5)) sab_nil))) (sb_of se_int)))))))))
    (sss_one (ss_frz (ss_ret (se_nm 2)))))))
abbrev N_law_word : List Str := ["_law_number", "_law_chars", "_law_k"]
omit T in theorem sc_law_word : FnScope N_law_word ["_law_number"] (defScope (topS 52)) := ⟨rfl, rfl, rfl, by decide +kernel, rfl, by decide +kernel, by decide +kernel⟩
theorem ok_law_word : FnOk P w K mg base CX0 1 A.f_law_word A.fd_law_word ["_law_number"] (PS0 ⟨K, A.cm⟩ Fn_law_word) :=
  fn0 (K := ⟨K, A.cm⟩) T.F_law_word sc_law_word rfl rfl fun cdv Ar outer s' H Fz E hr =>
    (sss_cons (ss_set se_str sc_law_word.nd)
    (sss_one (ss_ret (se_join se_str (fun _ _ h => by cases h; exact ⟨_, rfl⟩) (sb_of (se_new (sn_lc rfl sc_law_word.nd (si_range1 rfl T.b_range (sa_cons (se_mod (sb_of (se_callTy call_int1 l_int rfl T.b_int (by decide +kernel) (sab_cons (sb_of (se_nm 0)) sab_nil))) (sb_of se_int)) sa_nil)) (blkOk_by (own := [("_law_k", 2)]) (N := N_law_word) (sc := defScope (topS 52)) (by decide +kernel)) rfl ioN (fun _ _ _ _ _ => (sg_name sc_law_word.nd)) (fun _ _ _ _ _ => sts_nil) (fun _ _ _ _ _ => (se_ix (sb_of (se_nm 1)) (sb_of (se_mod (sb_of (se_callTy call_int1 l_int rfl T.b_int (by decide +kernel) (sab_cons (sb_of (se_add (sb_of (se_add (sb_of (se_div (sb_of (se_nm 0)) (sb_of se_int))) (sb_of (se_mul (sb_of se_int) (sb_of (se_nm 2)))))) (sb_of (se_mul (sb_of (se_nm 0)) (sb_of (se_nm 2)))))) sab_nil))) (sb_of se_int))))))))))))
abbrev N_law_named : List Str := ["_law_word_here", "_law_number", "_law_k", "_law_cut"]
omit T in theorem sc_law_named : FnScope N_law_named ["_law_word_here", "_law_number", "_law_k"] (defScope (topS 53)) := ⟨rfl, rfl, rfl, by decide +kernel, rfl, by decide +kernel, by decide +kernel⟩
theorem ok_law_named : FnOk P w K mg base CX0 1 A.f_law_named A.fd_law_named ["_law_word_here", "_law_number", "_law_k"] (PS0 ⟨K, A.cm⟩ Fn_law_named) :=
  fn0 (K := ⟨K, A.cm⟩) T.F_law_named sc_law_named rfl rfl fun cdv Ar outer s' H Fz E hr =>
    (sss_cons (ss_set (se_mod (sb_of (se_callTy call_int1 l_int rfl T.b_int (by decide +kernel) (sab_cons (sb_of (se_nm 1)) sab_nil))) (sb_of (se_add (sb_of (se_len rfl T.b_len (sab_cons (sb_of (se_nm 0)) sab_nil))) (sb_of se_int)))) sc_law_named.nd)
    (sss_one (ss_ret (se_add (sb_of (se_add (sb_of (se_slS (sb_of (se_nm 0)) so_none (so_some (se_nm 3)))) (sb_of (se_ix (sb_of se_str) (sb_of (se_nm 2)))))) (sb_of (se_slS (sb_of (se_nm 0)) (so_some (se_nm 3)) so_none))))))
abbrev N_law_ways : List Str := ["_law_numbers_here", "_law_at", "_law_kinds_here", "_law_ways_here", "_law_k", "_law_source", "_law_target"]
omit T in theorem sc_law_ways : FnScope N_law_ways ["_law_numbers_here", "_law_at", "_law_kinds_here"] (defScope (topS 55)) := ⟨rfl, rfl, rfl, by decide +kernel, rfl, by decide +kernel, by decide +kernel⟩
theorem ok_law_ways : FnOk P w K mg base CX0 1 A.f_law_ways A.fd_law_ways ["_law_numbers_here", "_law_at", "_law_kinds_here"] (PS0 ⟨K, A.cm⟩ Fn_law_ways) :=
  fn0 (K := ⟨K, A.cm⟩) T.F_law_ways sc_law_ways rfl rfl fun cdv Ar outer s' H Fz E hr =>
    (sss_cons (ss_own (sn_lst sa_nil (by decide) (len_le aN_len (by decide))) sc_law_ways.nd)
    (sss_cons (ss_for .never rfl (si_range1 rfl T.b_range (sa_cons (se_mod (sb_of (se_callTy call_int1 l_int rfl T.b_int (by decide +kernel) (sab_cons (sb_of (se_ix (sb_of (se_nm 0)) (sb_of (se_nm 1)))) sab_nil))) (sb_of se_int)) sa_nil)) (sg_name sc_law_ways.nd) (sss_cons (ss_set (se_ix (sb_of (se_ix (sb_of (se_nm 2)) (sb_of (se_mod (sb_of (se_callTy call_int1 l_int rfl T.b_int (by decide +kernel) (sab_cons (sb_of (se_ix (sb_of (se_nm 0)) (sb_of (se_add (sb_of (se_add (sb_of (se_nm 1)) (sb_of se_int))) (sb_of (se_mul (sb_of se_int) (sb_of (se_nm 4)))))))) sab_nil))) (sb_of (se_len rfl T.b_len (sab_cons (sb_of (se_nm 2)) sab_nil))))))) (sb_of se_int)) sc_law_ways.nd)
    (sss_cons (ss_set (se_ix (sb_of (se_ix (sb_of (se_nm 2)) (sb_of (se_mod (sb_of (se_callTy call_int1 l_int rfl T.b_int (by decide +kernel) (sab_cons (sb_of (se_ix (sb_of (se_nm 0)) (sb_of (se_add (sb_of (se_add (sb_of (se_nm 1)) (sb_of se_int))) (sb_of (se_mul (sb_of se_int) (sb_of (se_nm 4)))))))) sab_nil))) (sb_of (se_len rfl T.b_len (sab_cons (sb_of (se_nm 2)) sab_nil))))))) (sb_of se_int)) sc_law_ways.nd)
    (sss_one (ss_app (i := 3) (se_tup (sa_cons (se_nm 5) (sa_cons (se_nm 6) (sa_cons (se_add (sb_of se_int) (sb_of (se_mod (sb_of (se_callTy call_int1 l_int rfl T.b_int (by decide +kernel) (sab_cons (sb_of (se_ix (sb_of (se_nm 0)) (sb_of (se_add (sb_of (se_add (sb_of (se_nm 1)) (sb_of se_int))) (sb_of (se_mul (sb_of se_int) (sb_of (se_nm 4)))))))) sab_nil))) (sb_of se_int)))) sa_nil))) (len_le (aC_len (aC_len (aC_len aN_len))) (by decide))))))))
    (sss_one (ss_frz (ss_ret (se_nm 3))))))
abbrev N_law_course : List Str := ["_law_numbers_here", "_law_at", "_law_kinds_here", "_law_ways_here", "_law_many", "_law_kind_here", "_law_time", "_law_course_here", "_law_k", "_law_choices", "_law_way"]
omit T in theorem sc_law_course : FnScope N_law_course ["_law_numbers_here", "_law_at", "_law_kinds_here", "_law_ways_here", "_law_many"] (defScope (topS 56)) := ⟨rfl, rfl, rfl, by decide +kernel, rfl, by decide +kernel, by decide +kernel⟩
theorem ok_law_course : FnOk P w K mg base CX0 1 A.f_law_course A.fd_law_course ["_law_numbers_here", "_law_at", "_law_kinds_here", "_law_ways_here", "_law_many"] (PS0 ⟨K, A.cm⟩ Fn_law_course) :=
  fn0 (K := ⟨K, A.cm⟩) T.F_law_course sc_law_course rfl rfl fun cdv Ar outer s' H Fz E hr =>
    (sss_cons (ss_if (st_eq hr.units (sb_of (se_nm 4)) (sb_of se_int)) (sss_one (ss_ret (se_new (sn_lst sa_nil (by decide) (len_le aN_len (by decide)))))) sss_nil)
    (sss_cons (ss_set (se_ix (sb_of (se_ix (sb_of (se_nm 2)) (sb_of (se_mod (sb_of (se_callTy call_int1 l_int rfl T.b_int (by decide +kernel) (sab_cons (sb_of (se_ix (sb_of (se_nm 0)) (sb_of (se_nm 1)))) sab_nil))) (sb_of (se_len rfl T.b_len (sab_cons (sb_of (se_nm 2)) sab_nil))))))) (sb_of se_int)) sc_law_course.nd)
    (sss_cons (ss_set (se_mod (sb_of (se_callTy call_int1 l_int rfl T.b_int (by decide +kernel) (sab_cons (sb_of (se_ix (sb_of (se_nm 0)) (sb_of (se_add (sb_of (se_nm 1)) (sb_of se_int))))) sab_nil))) (sb_of se_int)) sc_law_course.nd)
    (sss_cons (ss_own (sn_lst (sa_cons (se_tup (sa_cons (se_nm 6) (sa_cons (se_nm 5) sa_nil)) (len_le (aC_len (aC_len aN_len)) (by decide))) sa_nil) (by decide) (len_le (aC_len aN_len) (by decide))) sc_law_course.nd)
    (sss_cons (ss_for .never rfl (si_range1 rfl T.b_range (sa_cons (se_sub (sb_of (se_nm 4)) (sb_of se_int)) sa_nil)) (sg_name sc_law_course.nd) (sss_cons (ss_setLc rfl sc_law_course.nd rfl rfl (sw_true rfl rfl rfl (by decide +kernel)) (si_seq (se_nm 3)) (blkOk_by (own := [("_law_way", 10)]) (N := N_law_course) (sc := defScope (topS 56)) (by decide +kernel)) rfl ioN joN (fun _ _ _ _ _ => (sg_name sc_law_course.nd)) (fun _ _ _ _ _ => (sts_one (st_eq hr.units (sb_of (se_ix (sb_of (se_nm 10)) (sb_of se_int))) (sb_of (se_nm 5))))) (fun _ _ _ _ _ => (se_nm 10)))
    (sss_cons (ss_if (st_eq hr.units (sb_of (se_len rfl T.b_len (sab_cons (sb_of (se_nm 9)) sab_nil))) (sb_of se_int)) (sss_one (ss_frz (ss_ret (se_nm 7)))) sss_nil)
    (sss_cons (ss_set (se_ix (sb_of (se_nm 9)) (sb_of (se_mod (sb_of (se_callTy call_int1 l_int rfl T.b_int (by decide +kernel) (sab_cons (sb_of (se_ix (sb_of (se_nm 0)) (sb_of (se_add (sb_of (se_add (sb_of (se_nm 1)) (sb_of se_int))) (sb_of (se_mul (sb_of se_int) (sb_of (se_nm 8)))))))) sab_nil))) (sb_of (se_len rfl T.b_len (sab_cons (sb_of (se_nm 9)) sab_nil)))))) sc_law_course.nd)
    (sss_cons (ss_set (se_add (sb_of (se_add (sb_of (se_nm 6)) (sb_of (se_ix (sb_of (se_nm 10)) (sb_of se_int))))) (sb_of (se_callB (call_max2 rfl) l_max2 rfl T.b_max (by decide +kernel) (sab_cons (sb_of se_int) (sab_cons (sb_of (se_sub (sb_of (se_mod (sb_of (se_callTy call_int1 l_int rfl T.b_int (by decide +kernel) (sab_cons (sb_of (se_ix (sb_of (se_nm 0)) (sb_of (se_add (sb_of (se_add (sb_of (se_nm 1)) (sb_of se_int))) (sb_of (se_mul (sb_of se_int) (sb_of (se_nm 8)))))))) sab_nil))) (sb_of se_int))) (sb_of se_int))) sab_nil))))) sc_law_course.nd)
    (sss_cons (ss_set (se_ix (sb_of (se_nm 10)) (sb_of se_int)) sc_law_course.nd)
    (sss_one (ss_app (i := 7) (se_tup (sa_cons (se_nm 6) (sa_cons (se_nm 5) sa_nil)) (len_le (aC_len (aC_len aN_len)) (by decide)))))))))))
    (sss_one (ss_frz (ss_ret (se_nm 7)))))))))
abbrev N_law_table : List Str := ["_law_numbers_here", "_law_at", "_law_scale", "_law_k"]
omit T in theorem sc_law_table : FnScope N_law_table ["_law_numbers_here", "_law_at", "_law_scale"] (defScope (topS 57)) := ⟨rfl, rfl, rfl, by decide +kernel, rfl, by decide +kernel, by decide +kernel⟩
theorem ok_law_table : FnOk P w K mg base CX0 1 A.f_law_table A.fd_law_table ["_law_numbers_here", "_law_at", "_law_scale"] (PS0 ⟨K, A.cm⟩ Fn_law_table) :=
  fn0 (K := ⟨K, A.cm⟩) T.F_law_table sc_law_table rfl rfl fun cdv Ar outer s' H Fz E hr =>
    (sss_one (ss_ret (se_new (sn_lc rfl sc_law_table.nd (si_range1 rfl T.b_range (sa_cons (se_add (sb_of se_int) (sb_of (se_mod (sb_of (se_callTy call_int1 l_int rfl T.b_int (by decide +kernel) (sab_cons (sb_of (se_ix (sb_of (se_nm 0)) (sb_of (se_nm 1)))) sab_nil))) (sb_of se_int)))) sa_nil)) (blkOk_by (own := [("_law_k", 3)]) (N := N_law_table) (sc := defScope (topS 57)) (by decide +kernel)) rfl ioN (fun _ _ _ _ _ => (sg_name sc_law_table.nd)) (fun _ _ _ _ _ => sts_nil) (fun _ _ _ _ _ => (se_mul (sb_of (se_nm 2)) (sb_of (se_mod (sb_of (se_callTy call_int1 l_int rfl T.b_int (by decide +kernel) (sab_cons (sb_of (se_ix (sb_of (se_nm 0)) (sb_of (se_add (sb_of (se_add (sb_of (se_nm 1)) (sb_of se_int))) (sb_of (se_nm 3)))))) sab_nil))) (sb_of se_int)))))))))
abbrev N_law_copy : List Str := ["_law_rows", "_law_row_here"]
omit T in theorem sc_law_copy : FnScope N_law_copy ["_law_rows"] (defScope (topS 60)) := ⟨rfl, rfl, rfl, by decide +kernel, rfl, by decide +kernel, by decide +kernel⟩
theorem ok_law_copy : FnOk P w K mg base CX0 1 A.f_law_copy A.fd_law_copy ["_law_rows"] (PS0 ⟨K, A.cm⟩ Fn_law_copy) :=
  fn0 (K := ⟨K, A.cm⟩) T.F_law_copy sc_law_copy rfl rfl fun cdv Ar outer s' H Fz E hr =>
    (sss_one (ss_ret (se_new (sn_lc rfl sc_law_copy.nd (si_seq (se_nm 0)) (blkOk_by (own := [("_law_row_here", 1)]) (N := N_law_copy) (sc := defScope (topS 60)) (by decide +kernel)) rfl ioN (fun _ _ _ _ _ => (sg_name sc_law_copy.nd)) (fun _ _ _ _ _ => sts_nil) (fun _ _ _ _ _ => (se_new (sn_list rfl T.b_list (sab_cons (sb_of (se_nm 1)) sab_nil))))))))
abbrev N_law_kind : List Str := ["_law_task", "_law_name", "_law_kind_here"]
omit T in theorem sc_law_kind : FnScope N_law_kind ["_law_task", "_law_name"] (defScope (topS 61)) := ⟨rfl, rfl, rfl, by decide +kernel, rfl, by decide +kernel, by decide +kernel⟩
theorem ok_law_kind : FnOk P w K mg base CX0 1 A.f_law_kind A.fd_law_kind ["_law_task", "_law_name"] (PS0 ⟨K, A.cm⟩ Fn_law_kind) :=
  fn0 (K := ⟨K, A.cm⟩) T.F_law_kind sc_law_kind rfl rfl fun cdv Ar outer s' H Fz E hr =>
    (sss_one (ss_ret (se_ix (sb_of (se_new (sn_lc rfl sc_law_kind.nd (si_seq (se_ix (sb_of (se_nm 0)) (sb_of se_int))) (blkOk_by (own := [("_law_kind_here", 2)]) (N := N_law_kind) (sc := defScope (topS 61)) (by decide +kernel)) rfl ioN (fun _ _ _ _ _ => (sg_name sc_law_kind.nd)) (fun _ _ _ _ _ => (sts_one (st_eq hr.units (sb_of (se_ix (sb_of (se_nm 2)) (sb_of se_int))) (sb_of (se_nm 1))))) (fun _ _ _ _ _ => (se_nm 2))))) (sb_of se_int))))
abbrev N_law_last : List Str := ["_law_jobs_here", "_law_job"]
omit T in theorem sc_law_last : FnScope N_law_last ["_law_jobs_here"] (defScope (topS 63)) := ⟨rfl, rfl, rfl, by decide +kernel, rfl, by decide +kernel, by decide +kernel⟩
theorem ok_law_last : FnOk P w K mg base CX0 1 A.f_law_last A.fd_law_last ["_law_jobs_here"] (PS0 ⟨K, A.cm⟩ Fn_law_last) :=
  fn0 (K := ⟨K, A.cm⟩) T.F_law_last sc_law_last rfl rfl fun cdv Ar outer s' H Fz E hr =>
    (sss_one (ss_ret (se_maxD rfl hr.units rfl T.b_max (sab_cons (sb_of (se_new (sn_lc rfl sc_law_last.nd (si_seq (se_nm 0)) (blkOk_by (own := [("_law_job", 1)]) (N := N_law_last) (sc := defScope (topS 63)) (by decide +kernel)) rfl ioN (fun _ _ _ _ _ => (sg_name sc_law_last.nd)) (fun _ _ _ _ _ => sts_nil) (fun _ _ _ _ _ => (se_ix (sb_of (se_nm 1)) (sb_of se_int)))))) sab_nil) se_int)))
abbrev N_law_ends : List Str := ["_law_jobs_here", "_law_slots", "_law_ends_here", "_law_job", "_law_got", "_law_end", "_law_slot", "_law_part"]
omit T in theorem sc_law_ends : FnScope N_law_ends ["_law_jobs_here", "_law_slots"] (defScope (topS 64)) := ⟨rfl, rfl, rfl, by decide +kernel, rfl, by decide +kernel, by decide +kernel⟩
theorem ok_law_ends : FnOk P w K mg base CX0 1 A.f_law_ends A.fd_law_ends ["_law_jobs_here", "_law_slots"] (PS0 ⟨K, A.cm⟩ Fn_law_ends) :=
  fn0 (K := ⟨K, A.cm⟩) T.F_law_ends sc_law_ends rfl rfl fun cdv Ar outer s' H Fz E hr =>
    (sss_cons (ss_own (sn_lst sa_nil (by decide) (len_le aN_len (by decide))) sc_law_ends.nd)
    (sss_cons (ss_for .never rfl (si_seq (se_nm 0)) (sg_name sc_law_ends.nd) (sss_cons (ss_set se_int sc_law_ends.nd)
    (sss_cons (ss_set se_non sc_law_ends.nd)
    (sss_cons (ss_for .never rfl (si_range1 rfl T.b_range (sa_cons (se_len rfl T.b_len (sab_cons (sb_of (se_nm 1)) sab_nil)) sa_nil)) (sg_name sc_law_ends.nd) (sss_one (ss_for .never rfl (si_seq (se_ix (sb_of (se_nm 1)) (sb_of (se_nm 6)))) (sg_name sc_law_ends.nd) (sss_one (ss_if (st_w (sw_and (st_eq hr.units (sb_of (se_ix (sb_of (se_nm 7)) (sb_of se_int))) (sb_of (se_ix (sb_of (se_nm 3)) (sb_of se_int)))) (sw_and1 (st_eq hr.units (sb_of (se_ix (sb_of (se_nm 7)) (sb_of se_int))) (sb_of (se_ix (sb_of (se_nm 3)) (sb_of se_int))))))) (sss_cons (ss_set (se_add (sb_of (se_nm 4)) (sb_of (se_ix (sb_of (se_nm 7)) (sb_of se_int)))) sc_law_ends.nd)
    (sss_one (ss_if (st_w (sw_and (st_eq hr.units (sb_of (se_nm 4)) (sb_of (se_ix (sb_of (se_nm 3)) (sb_of se_int)))) (sw_and1 (st_isN (sb_of (se_nm 5)) (sb_of se_non))))) (sss_one (ss_set (se_add (sb_of (se_nm 6)) (sb_of se_int)) sc_law_ends.nd)) sss_nil))) sss_nil)))))
    (sss_one (ss_app (i := 2) (se_nm 5)))))))
    (sss_one (ss_frz (ss_ret (se_nm 2))))))
abbrev N_law_late : List Str := ["_law_jobs_here", "_law_ends_here", "_law_k"]
omit T in theorem sc_law_late : FnScope N_law_late ["_law_jobs_here", "_law_ends_here"] (defScope (topS 65)) := ⟨rfl, rfl, rfl, by decide +kernel, rfl, by decide +kernel, by decide +kernel⟩
theorem ok_law_late : FnOk P w K mg base CX0 1 A.f_law_late A.fd_law_late ["_law_jobs_here", "_law_ends_here"] (PS0 ⟨K, A.cm⟩ Fn_law_late) :=
  fn0 (K := ⟨K, A.cm⟩) T.F_law_late sc_law_late rfl rfl fun cdv Ar outer s' H Fz E hr =>
    (sss_cons (ss_for .never rfl (si_range1 rfl T.b_range (sa_cons (se_len rfl T.b_len (sab_cons (sb_of (se_nm 0)) sab_nil)) sa_nil)) (sg_name sc_law_late.nd) (sss_one (ss_if (st_w (sw_or (st_isN (sb_of (se_ix (sb_of (se_nm 1)) (sb_of (se_nm 2)))) (sb_of se_non)) (sw_or1 (st_gt (sb_of (se_ix (sb_of (se_nm 1)) (sb_of (se_nm 2)))) (sb_of (se_ix (sb_of (se_ix (sb_of (se_nm 0)) (sb_of (se_nm 2)))) (sb_of se_int))))))) (sss_one (ss_ret (se_ix (sb_of (se_ix (sb_of (se_nm 0)) (sb_of (se_nm 2)))) (sb_of se_int)))) sss_nil)))
    (sss_one (ss_ret se_non)))
abbrev N_law_is_integer : List Str := ["_law_actual"]
omit T in theorem sc_law_is_integer : FnScope N_law_is_integer ["_law_actual"] (defScope (topS 66)) := ⟨rfl, rfl, rfl, by decide +kernel, rfl, by decide +kernel, by decide +kernel⟩
theorem ok_law_is_integer : FnOk P w K mg base CX0 1 A.f_law_is_integer A.fd_law_is_integer ["_law_actual"] (PS0 ⟨K, A.cm⟩ Fn_law_is_integer) :=
  fn0 (K := ⟨K, A.cm⟩) T.F_law_is_integer sc_law_is_integer rfl rfl fun cdv Ar outer s' H Fz E hr =>
    (sss_one (ss_ret (se_and (se_isi .int (sb_of (se_nm 0)) rfl T.b_isinstance rfl T.b_int) (se_bone (se_notb (se_isi .bool (sb_of (se_nm 0)) rfl T.b_isinstance rfl T.b_bool))))))
abbrev N_law_rank : List Str := ["_law_policy_here", "_law_job", "_law_left", "_law_slot", "_law_order"]
omit T in theorem sc_law_rank : FnScope N_law_rank ["_law_policy_here", "_law_job", "_law_left", "_law_slot", "_law_order"] (defScope (topS 67)) := ⟨rfl, rfl, rfl, by decide +kernel, rfl, by decide +kernel, by decide +kernel⟩
theorem ok_law_rank : FnOk P w K mg base CX0 1 A.f_law_rank A.fd_law_rank ["_law_policy_here", "_law_job", "_law_left", "_law_slot", "_law_order"] (PS0 ⟨K, A.cm⟩ Fn_law_rank) :=
  fn0 (K := ⟨K, A.cm⟩) T.F_law_rank sc_law_rank rfl rfl fun cdv Ar outer s' H Fz E hr =>
    (sss_cons (ss_if (st_eq hr.units (sb_of (se_nm 0)) (sb_of se_str)) (sss_one (ss_ret (se_tup (sa_cons (se_ix (sb_of (se_nm 1)) (sb_of se_int)) (sa_cons (se_ix (sb_of (se_nm 1)) (sb_of se_int)) (sa_cons (se_ix (sb_of (se_nm 1)) (sb_of se_int)) (sa_cons (se_ix (sb_of (se_nm 1)) (sb_of se_int)) sa_nil)))) (len_le (aC_len (aC_len (aC_len (aC_len aN_len)))) (by decide))))) sss_nil)
    (sss_cons (ss_if (st_eq hr.units (sb_of (se_nm 0)) (sb_of se_str)) (sss_one (ss_ret (se_tup (sa_cons (se_index (sb_of (se_nm 4)) (se_ix (sb_of (se_nm 1)) (sb_of se_int))) (sa_cons (se_ix (sb_of (se_nm 1)) (sb_of se_int)) (sa_cons se_int (sa_cons se_int sa_nil)))) (len_le (aC_len (aC_len (aC_len (aC_len aN_len)))) (by decide))))) sss_nil)
    (sss_cons (ss_if (st_eq hr.units (sb_of (se_nm 0)) (sb_of se_str)) (sss_one (ss_ret (se_tup (sa_cons (se_ix (sb_of (se_nm 1)) (sb_of se_int)) (sa_cons (se_ix (sb_of (se_nm 1)) (sb_of se_int)) (sa_cons (se_ix (sb_of (se_nm 1)) (sb_of se_int)) (sa_cons se_int sa_nil)))) (len_le (aC_len (aC_len (aC_len (aC_len aN_len)))) (by decide))))) sss_nil)
    (sss_one (ss_ret (se_tup (sa_cons (se_sub (sb_of (se_sub (sb_of (se_ix (sb_of (se_nm 1)) (sb_of se_int))) (sb_of (se_nm 3)))) (sb_of (se_nm 2))) (sa_cons (se_ix (sb_of (se_nm 1)) (sb_of se_int)) (sa_cons (se_ix (sb_of (se_nm 1)) (sb_of se_int)) (sa_cons (se_ix (sb_of (se_nm 1)) (sb_of se_int)) sa_nil)))) (len_le (aC_len (aC_len (aC_len (aC_len aN_len)))) (by decide))))))))
abbrev N_law_orders : List Str := ["_law_count", "_law_orders_here", "_law_k", "_law_longer", "_law_order", "_law_at"]
omit T in theorem sc_law_orders : FnScope N_law_orders ["_law_count"] (defScope (topS 69)) := ⟨rfl, rfl, rfl, by decide +kernel, rfl, by decide +kernel, by decide +kernel⟩
theorem ok_law_orders : FnOk P w K mg base CX0 1 A.f_law_orders A.fd_law_orders ["_law_count"] (PS0 ⟨K, A.cm⟩ Fn_law_orders) :=
  fn0 (K := ⟨K, A.cm⟩) T.F_law_orders sc_law_orders rfl rfl fun cdv Ar outer s' H Fz E hr =>
    (sss_cons (ss_set (se_new (sn_lst (sa_cons (se_new (sn_lst sa_nil (by decide) (len_le aN_len (by decide)))) sa_nil) (by decide) (len_le (aC_len aN_len) (by decide)))) sc_law_orders.nd)
    (sss_cons (ss_for .never rfl (si_range1 rfl T.b_range (sa_cons (se_nm 0) sa_nil)) (sg_name sc_law_orders.nd) (sss_cons (ss_own (sn_lst sa_nil (by decide) (len_le aN_len (by decide))) sc_law_orders.nd)
    (sss_cons (ss_for .never rfl (si_seq (se_nm 1)) (sg_name sc_law_orders.nd) (sss_one (ss_for .never rfl (si_range1 rfl T.b_range (sa_cons (se_nm 0) sa_nil)) (sg_name sc_law_orders.nd) (sss_one (ss_if (st_notIn (sb_of (se_nm 5)) (sb_of (se_nm 4))) (sss_one (ss_app (i := 3) (se_new (sn_cat (sb_of (se_nm 4)) (sb_of (se_new (sn_lst (sa_cons (se_nm 5) sa_nil) (by decide) (len_le (aC_len aN_len) (by decide))))))))) sss_nil)))))
    (sss_one (ss_frz (ss_set (se_nm 3) sc_law_orders.nd))))))
    (sss_one (ss_ret (se_nm 1)))))
abbrev N_ready_places : List Str := ["policy", "jobs", "left", "slot", "order", "ready", "place", "job", "pair"]
omit T in theorem sc_ready_places : FnScope N_ready_places ["policy", "jobs", "left", "slot", "order"] (defScope (topS 26)) := ⟨rfl, rfl, rfl, by decide +kernel, rfl, by decide +kernel, by decide +kernel⟩
theorem ok_ready_places : FnOk P w K mg base CX0 2 A.f_ready_places A.fd_ready_places ["policy", "jobs", "left", "slot", "order"] (PM ⟨K, A.cm⟩ Fn_ready_places) :=
  fnM (K := ⟨K, A.cm⟩) T.F_ready_places sc_ready_places rfl rfl fun cdv Ar outer s' H B Fz E oc hr =>
    (sss_cons (ss_own (sn_lst sa_nil (by decide) (len_le aN_len (by decide))) sc_ready_places.nd)
    (sss_cons (ss_for .never rfl (si_enum rfl T.b_enumerate (sa_cons (se_nm 1) sa_nil)) (sg_tup rfl (sgs_cons (sg_name sc_ready_places.nd) (sgs_cons (sg_name sc_ready_places.nd) sgs_nil)) 2) (sss_one (ss_if (st_w (sw_and (st_le (sb_of (se_ix (sb_of (se_nm 7)) (sb_of se_int))) (sb_of (se_nm 3))) (sw_and1 (st_gt (sb_of (se_ix (sb_cell (sr_nm 2)) (sb_of (se_nm 6)))) (sb_of se_int))))) (sss_one (ss_app (i := 5) (se_tup (sa_cons (se_call (ok_rank A T) (hr.mono (by decide)) rfl T.g_rank T.F_rank.kp (b_rank A T) pass0 (sa_cons (se_nm 0) (sa_cons (se_nm 7) (sa_cons (se_ix (sb_cell (sr_nm 2)) (sb_of (se_nm 6))) (sa_cons (se_nm 3) (sa_cons (se_nm 4) sa_nil)))))) (sa_cons (se_nm 6) sa_nil)) (len_le (aC_len (aC_len aN_len)) (by decide))))) sss_nil)))
    (sss_one (ss_retM (sx_e (se_new (sn_lc rfl sc_ready_places.nd (si_seq (se_new (sn_sort hr.units rfl T.b_sorted (sb_nm 5)))) (blkOk_by (own := [("pair", 8)]) (N := N_ready_places) (sc := defScope (topS 26)) (by decide +kernel)) rfl ioN (fun _ _ _ _ _ => (sg_name sc_ready_places.nd)) (fun _ _ _ _ _ => sts_nil) (fun _ _ _ _ _ => (se_ix (sb_of (se_nm 8)) (sb_of se_int))))))))))
abbrev N_are_kinds : List Str := ["kinds", "seen", "name", "cost", "deadline"]
omit T in theorem sc_are_kinds : FnScope N_are_kinds ["kinds"] (defScope (topS 44)) := ⟨rfl, rfl, rfl, by decide +kernel, rfl, by decide +kernel, by decide +kernel⟩
theorem ok_are_kinds : FnOk P w K mg base CX0 2 A.f_are_kinds A.fd_are_kinds ["kinds"] (PS0 ⟨K, A.cm⟩ Fn_are_kinds) :=
  fn0 (K := ⟨K, A.cm⟩) T.F_are_kinds sc_are_kinds rfl rfl fun cdv Ar outer s' H Fz E hr =>
    (sss_cons (ss_if (st_not (st_lele (sb_of se_int) (sb_of (se_len rfl T.b_len (sab_cons (sb_of (se_nm 0)) sab_nil))) (sb_of (se_gint rfl T.v_MOST_KINDS)))) (sss_one (ss_ret se_bl)) sss_nil)
    (sss_cons (ss_own (sn_lst sa_nil (by decide) (len_le aN_len (by decide))) sc_are_kinds.nd)
    (sss_cons (ss_for .never rfl (si_seq (se_nm 0)) (sg_tup rfl (sgs_cons (sg_name sc_are_kinds.nd) (sgs_cons (sg_name sc_are_kinds.nd) (sgs_cons (sg_name sc_are_kinds.nd) sgs_nil))) 3) (sss_cons (ss_if (st_w (sw_or (st_not (st_val (se_call (ok_is_name A T) (hr.mono (by decide)) rfl T.g_is_name T.F_is_name.kp (b_is_name A T) pass0 (sa_cons (se_nm 2) sa_nil)))) (sw_or1 (st_in (sb_of (se_nm 2)) (sb_nm 1))))) (sss_one (ss_ret se_bl)) sss_nil)
    (sss_cons (ss_if (st_w (sw_or (st_not (st_lele (sb_of se_int) (sb_of (se_nm 3)) (sb_of (se_gint rfl T.v_MOST_COST)))) (sw_or1 (st_not (st_lele (sb_of se_int) (sb_of (se_nm 4)) (sb_of (se_gint rfl T.v_MOST_DEADLINE))))))) (sss_one (ss_ret se_bl)) sss_nil)
    (sss_one (ss_app (i := 1) (se_nm 2))))))
    (sss_one (ss_ret se_bl)))))
abbrev N_Task_cost : List Str := ["self", "kind_name"]
omit T in theorem sc_Task_cost : FnScope N_Task_cost ["self", "kind_name"] (defScope (inClass (topS 47) 4)) := ⟨rfl, rfl, rfl, by decide +kernel, rfl, by decide +kernel, by decide +kernel⟩
theorem ok_Task_cost : FnOk P w K mg base CX0 2 A.f_Task_cost A.fd_Task_cost ["self", "kind_name"] (PS0 ⟨K, A.cm⟩ Fn_Task_cost) :=
  fn0 (K := ⟨K, A.cm⟩) T.F_Task_cost sc_Task_cost rfl rfl fun cdv Ar outer s' H Fz E hr =>
    (sss_one (ss_ret (se_ix (sb_of (se_ix (sb_of (se_fld (C := 1) T.C_Task T.n_Task_kinds (se_nm 0))) (sb_of (se_meth (C := 1) (se_nm 0) T.C_Task T.M_Task_kind_number (ok_Task_kind_number A T) (hr.mono (by decide)) (b_Task_kind_number A T) pass0 (sa_cons (se_nm 1) sa_nil))))) (sb_of se_int))))
abbrev N_Task_deadline : List Str := ["self", "kind_name"]
omit T in theorem sc_Task_deadline : FnScope N_Task_deadline ["self", "kind_name"] (defScope (inClass (topS 47) 5)) := ⟨rfl, rfl, rfl, by decide +kernel, rfl, by decide +kernel, by decide +kernel⟩
theorem ok_Task_deadline : FnOk P w K mg base CX0 2 A.f_Task_deadline A.fd_Task_deadline ["self", "kind_name"] (PS0 ⟨K, A.cm⟩ Fn_Task_deadline) :=
  fn0 (K := ⟨K, A.cm⟩) T.F_Task_deadline sc_Task_deadline rfl rfl fun cdv Ar outer s' H Fz E hr =>
    (sss_one (ss_ret (se_ix (sb_of (se_ix (sb_of (se_fld (C := 1) T.C_Task T.n_Task_kinds (se_nm 0))) (sb_of (se_meth (C := 1) (se_nm 0) T.C_Task T.M_Task_kind_number (ok_Task_kind_number A T) (hr.mono (by decide)) (b_Task_kind_number A T) pass0 (sa_cons (se_nm 1) sa_nil))))) (sb_of se_int))))
abbrev N_Task_ways_from : List Str := ["self", "kind_name", "way"]
omit T in theorem sc_Task_ways_from : FnScope N_Task_ways_from ["self", "kind_name"] (defScope (inClass (topS 47) 6)) := ⟨rfl, rfl, rfl, by decide +kernel, rfl, by decide +kernel, by decide +kernel⟩
theorem ok_Task_ways_from : FnOk P w K mg base CX0 2 A.f_Task_ways_from A.fd_Task_ways_from ["self", "kind_name"] (PS0 ⟨K, A.cm⟩ Fn_Task_ways_from) :=
  fn0 (K := ⟨K, A.cm⟩) T.F_Task_ways_from sc_Task_ways_from rfl rfl fun cdv Ar outer s' H Fz E hr =>
    (sss_cons (ss_expr (se_meth (C := 1) (se_nm 0) T.C_Task T.M_Task_kind_number (ok_Task_kind_number A T) (hr.mono (by decide)) (b_Task_kind_number A T) pass0 (sa_cons (se_nm 1) sa_nil)))
    (sss_one (ss_ret (se_new (sn_lc rfl sc_Task_ways_from.nd (si_seq (se_fld (C := 1) T.C_Task T.n_Task_ways (se_nm 0))) (blkOk_by (own := [("way", 2)]) (N := N_Task_ways_from) (sc := defScope (inClass (topS 47) 6)) (by decide +kernel)) rfl ioN (fun _ _ _ _ _ => (sg_name sc_Task_ways_from.nd)) (fun _ _ _ _ _ => (sts_one (st_eq hr.units (sb_of (se_ix (sb_of (se_nm 2)) (sb_of se_int))) (sb_of (se_nm 1))))) (fun _ _ _ _ _ => (se_tup (sa_cons (se_ix (sb_of (se_nm 2)) (sb_of se_int)) (sa_cons (se_ix (sb_of (se_nm 2)) (sb_of se_int)) sa_nil)) (len_le (aC_len (aC_len aN_len)) (by decide)))))))))
abbrev N_System_init : List Str := ["self", "tasks", "table", "names", "task"]
omit T in theorem sc_System_init : FnScope N_System_init ["self", "tasks", "table"] (defScope (inClass (topS 48) 0)) := ⟨rfl, rfl, rfl, by decide +kernel, rfl, by decide +kernel, by decide +kernel⟩
theorem ok_System_init : FnOk P w K mg base CX0 2 A.f_System_init A.fd_System_init ["self", "tasks", "table"] (PIn ⟨K, A.cm⟩ 2 Fn_System_init) :=
  fnI (K := ⟨K, A.cm⟩) T.F_System_init sc_System_init rfl rfl fun cdv Ar outer s' H B Fz E a hr =>
    (sss_cons (ss_if (st_not (st_val (se_call (ok_is_table A T) (hr.mono (by decide)) rfl T.g_is_table T.F_is_table.kp (b_is_table A T) pass0 (sa_cons (se_nm 2) sa_nil)))) sss_never sss_nil)
    (sss_cons (ss_own (sn_lst sa_nil (by decide) (len_le aN_len (by decide))) sc_System_init.nd)
    (sss_cons (ss_for .never rfl (si_seq (se_nm 1)) (sg_name sc_System_init.nd) (sss_cons (ss_if (st_in (sb_of (se_fld (C := 1) T.C_Task T.n_Task_name (se_nm 4))) (sb_nm 3)) sss_never sss_nil)
    (sss_one (ss_app (i := 3) (se_fld (C := 1) T.C_Task T.n_Task_name (se_nm 4))))))
    (sss_cons (ss_if (st_gt (sb_of (se_len rfl T.b_len (sab_cons (sb_nm 3) sab_nil))) (sb_of (se_gint rfl T.v_MOST_TASKS))) sss_never sss_nil)
    (sss_cons (ss_fld (i := 0) (C := 2) T.C_System T.n_System_tasks (se_tupF rfl T.b_tuple (sab_cons (sb_of (se_nm 1)) sab_nil)))
    (sss_one (ss_fld (i := 0) (C := 2) T.C_System T.n_System_table (se_tupF rfl T.b_tuple (sab_cons (sb_of (se_nm 2)) sab_nil)))))))))
abbrev N_law_numbers : List Str := ["_law_script", "_law_many", "_law_cells", "_law_each", "_law_numbers_here", "_law_cell", "_law_number"]
omit T in theorem sc_law_numbers : FnScope N_law_numbers ["_law_script", "_law_many"] (defScope (topS 51)) := ⟨rfl, rfl, rfl, by decide +kernel, rfl, by decide +kernel, by decide +kernel⟩
theorem ok_law_numbers : FnOk P w K mg base CX0 2 A.f_law_numbers A.fd_law_numbers ["_law_script", "_law_many"] (PS0 ⟨K, A.cm⟩ Fn_law_numbers) :=
  fn0 (K := ⟨K, A.cm⟩) T.F_law_numbers sc_law_numbers rfl rfl fun cdv Ar outer s' H Fz E hr =>
    (sss_cons (ss_set (se_new (sn_sl (sb_of (se_nm 0)) so_none (so_some se_int))) sc_law_numbers.nd)
    (sss_cons (ss_set (se_add (sb_of se_int) (sb_of (se_div (sb_of (se_nm 1)) (sb_of (se_callB (call_max2 rfl) l_max2 rfl T.b_max (by decide +kernel) (sab_cons (sb_of se_int) (sab_cons (sb_of (se_len rfl T.b_len (sab_cons (sb_of (se_nm 2)) sab_nil))) sab_nil))))))) sc_law_numbers.nd)
    (sss_cons (ss_own (sn_lst sa_nil (by decide) (len_le aN_len (by decide))) sc_law_numbers.nd)
    (sss_cons (ss_for .never rfl (si_seq (se_nm 2)) (sg_name sc_law_numbers.nd) (sss_one (ss_for .never rfl (si_seq (se_call (ok_law_row A T) (hr.mono (by decide)) rfl T.g_law_row T.F_law_row.kp (b_law_row A T) pass0 (sa_cons (se_nm 5) (sa_cons (se_nm 3) sa_nil)))) (sg_name sc_law_numbers.nd) (sss_one (ss_app (i := 4) (se_nm 6))))))
    (sss_cons (ss_while 200 .never (st_lt (sb_of (se_len rfl T.b_len (sab_cons (sb_nm 4) sab_nil))) (sb_of (se_nm 1))) (sss_one (ss_app (i := 4) se_int)))
    (sss_one (ss_ret (se_new (sn_sl (sb_nm 4) so_none (so_some (se_nm 1)))))))))))
abbrev N_law_kinds : List Str := ["_law_numbers_here", "_law_at", "_law_scale", "_law_word_here", "_law_kinds_here", "_law_k", "_law_cost"]
omit T in theorem sc_law_kinds : FnScope N_law_kinds ["_law_numbers_here", "_law_at", "_law_scale"] (defScope (topS 54)) := ⟨rfl, rfl, rfl, by decide +kernel, rfl, by decide +kernel, by decide +kernel⟩
theorem ok_law_kinds : FnOk P w K mg base CX0 2 A.f_law_kinds A.fd_law_kinds ["_law_numbers_here", "_law_at", "_law_scale"] (PS0 ⟨K, A.cm⟩ Fn_law_kinds) :=
  fn0 (K := ⟨K, A.cm⟩) T.F_law_kinds sc_law_kinds rfl rfl fun cdv Ar outer s' H Fz E hr =>
    (sss_cons (ss_set (se_call (ok_law_word A T) (hr.mono (by decide)) rfl T.g_law_word T.F_law_word.kp (b_law_word A T) pass0 (sa_cons (se_ix (sb_of (se_nm 0)) (sb_of (se_add (sb_of (se_nm 1)) (sb_of se_int)))) sa_nil)) sc_law_kinds.nd)
    (sss_cons (ss_own (sn_lst sa_nil (by decide) (len_le aN_len (by decide))) sc_law_kinds.nd)
    (sss_cons (ss_for .never rfl (si_range1 rfl T.b_range (sa_cons (se_add (sb_of se_int) (sb_of (se_mod (sb_of (se_callTy call_int1 l_int rfl T.b_int (by decide +kernel) (sab_cons (sb_of (se_ix (sb_of (se_nm 0)) (sb_of (se_nm 1)))) sab_nil))) (sb_of se_int)))) sa_nil)) (sg_name sc_law_kinds.nd) (sss_cons (ss_set (se_mul (sb_of (se_nm 2)) (sb_of (se_add (sb_of se_int) (sb_of (se_mod (sb_of (se_callTy call_int1 l_int rfl T.b_int (by decide +kernel) (sab_cons (sb_of (se_ix (sb_of (se_nm 0)) (sb_of (se_add (sb_of (se_add (sb_of (se_nm 1)) (sb_of se_int))) (sb_of (se_mul (sb_of se_int) (sb_of (se_nm 5)))))))) sab_nil))) (sb_of se_int)))))) sc_law_kinds.nd)
    (sss_one (ss_app (i := 4) (se_tup (sa_cons (se_call (ok_law_named A T) (hr.mono (by decide)) rfl T.g_law_named T.F_law_named.kp (b_law_named A T) pass0 (sa_cons (se_nm 3) (sa_cons (se_ix (sb_of (se_nm 0)) (sb_of (se_add (sb_of (se_nm 1)) (sb_of se_int)))) (sa_cons (se_nm 5) sa_nil)))) (sa_cons (se_nm 6) (sa_cons (se_add (sb_of se_int) (sb_of (se_mod (sb_of (se_callTy call_int1 l_int rfl T.b_int (by decide +kernel) (sab_cons (sb_of (se_ix (sb_of (se_nm 0)) (sb_of (se_add (sb_of (se_add (sb_of (se_nm 1)) (sb_of se_int))) (sb_of (se_mul (sb_of se_int) (sb_of (se_nm 5)))))))) sab_nil))) (sb_of se_int)))) sa_nil))) (len_le (aC_len (aC_len (aC_len aN_len))) (by decide)))))))
    (sss_one (ss_frz (ss_ret (se_nm 4)))))))
abbrev N_law_jobs : List Str := ["_law_tasks", "_law_releases", "_law_jobs_here", "_law_at", "_law_place", "_law_time", "_law_kind_here"]
omit T in theorem sc_law_jobs : FnScope N_law_jobs ["_law_tasks", "_law_releases"] (defScope (topS 62)) := ⟨rfl, rfl, rfl, by decide +kernel, rfl, by decide +kernel, by decide +kernel⟩
theorem ok_law_jobs : FnOk P w K mg base CX0 2 A.f_law_jobs A.fd_law_jobs ["_law_tasks", "_law_releases"] (PS0 ⟨K, A.cm⟩ Fn_law_jobs) :=
  fn0 (K := ⟨K, A.cm⟩) T.F_law_jobs sc_law_jobs rfl rfl fun cdv Ar outer s' H Fz E hr =>
    (sss_cons (ss_own (sn_lst sa_nil (by decide) (len_le aN_len (by decide))) sc_law_jobs.nd)
    (sss_cons (ss_for .never rfl (si_range1 rfl T.b_range (sa_cons (se_len rfl T.b_len (sab_cons (sb_of (se_nm 0)) sab_nil)) sa_nil)) (sg_name sc_law_jobs.nd) (sss_one (ss_for .never rfl (si_range1 rfl T.b_range (sa_cons (se_len rfl T.b_len (sab_cons (sb_of (se_ix (sb_of (se_nm 1)) (sb_of (se_nm 3)))) sab_nil)) sa_nil)) (sg_name sc_law_jobs.nd) (sss_cons (ss_set (se_ix (sb_of (se_ix (sb_of (se_ix (sb_of (se_nm 1)) (sb_of (se_nm 3)))) (sb_of (se_nm 4)))) (sb_of se_int)) sc_law_jobs.nd)
    (sss_cons (ss_set (se_call (ok_law_kind A T) (hr.mono (by decide)) rfl T.g_law_kind T.F_law_kind.kp (b_law_kind A T) pass0 (sa_cons (se_ix (sb_of (se_nm 0)) (sb_of (se_nm 3))) (sa_cons (se_ix (sb_of (se_ix (sb_of (se_ix (sb_of (se_nm 1)) (sb_of (se_nm 3)))) (sb_of (se_nm 4)))) (sb_of se_int)) sa_nil))) sc_law_jobs.nd)
    (sss_one (ss_app (i := 2) (se_tup (sa_cons (se_add (sb_of (se_nm 5)) (sb_of (se_ix (sb_of (se_nm 6)) (sb_of se_int)))) (sa_cons (se_nm 5) (sa_cons (se_nm 3) (sa_cons (se_nm 4) (sa_cons (se_ix (sb_of (se_nm 6)) (sb_of se_int)) sa_nil))))) (len_le (aC_len (aC_len (aC_len (aC_len (aC_len aN_len))))) (by decide))))))))))
    (sss_one (ss_ret (se_new (sn_sort hr.units rfl T.b_sorted (sb_nm 2)))))))
abbrev N_law_policy : List Str := ["_law_jobs_here", "_law_table_here", "_law_size", "_law_policy_here", "_law_order", "_law_left", "_law_slots", "_law_slot", "_law_places", "_law_ranks", "_law_free", "_law_row_here", "_law_pair", "_law_units", "_law_job", "_law_k"]
omit T in theorem sc_law_policy : FnScope N_law_policy ["_law_jobs_here", "_law_table_here", "_law_size", "_law_policy_here", "_law_order"] (defScope (topS 68)) := ⟨rfl, rfl, rfl, by decide +kernel, rfl, by decide +kernel, by decide +kernel⟩
theorem ok_law_policy : FnOk P w K mg base CX0 2 A.f_law_policy A.fd_law_policy ["_law_jobs_here", "_law_table_here", "_law_size", "_law_policy_here", "_law_order"] (PS0 ⟨K, A.cm⟩ Fn_law_policy) :=
  fn0 (K := ⟨K, A.cm⟩) T.F_law_policy sc_law_policy rfl rfl fun cdv Ar outer s' H Fz E hr =>
    (sss_cons (ss_own (sn_lc rfl sc_law_policy.nd (si_seq (se_nm 0)) (blkOk_by (own := [("_law_job", 14)]) (N := N_law_policy) (sc := defScope (topS 68)) (by decide +kernel)) rfl ioN (fun _ _ _ _ _ => (sg_name sc_law_policy.nd)) (fun _ _ _ _ _ => sts_nil) (fun _ _ _ _ _ => (se_ix (sb_of (se_nm 14)) (sb_of se_int)))) sc_law_policy.nd)
    (sss_cons (ss_own (sn_lst sa_nil (by decide) (len_le aN_len (by decide))) sc_law_policy.nd)
    (sss_cons (ss_for .never rfl (si_range1 rfl T.b_range (sa_cons (se_nm 2) sa_nil)) (sg_name sc_law_policy.nd) (sss_cons (ss_setLc rfl sc_law_policy.nd rfl rfl (sw_true rfl rfl rfl (by decide +kernel)) (si_range1 rfl T.b_range (sa_cons (se_len rfl T.b_len (sab_cons (sb_of (se_nm 0)) sab_nil)) sa_nil)) (blkOk_by (own := [("_law_k", 15)]) (N := N_law_policy) (sc := defScope (topS 68)) (by decide +kernel)) rfl ioN joN (fun _ _ _ _ _ => (sg_name sc_law_policy.nd)) (fun _ _ _ _ _ => (sts_one (st_w (sw_and (st_le (sb_of (se_ix (sb_of (se_ix (sb_of (se_nm 0)) (sb_of (se_nm 15)))) (sb_of se_int))) (sb_of (se_nm 7))) (sw_and1 (st_gt (sb_of (se_ix (sb_nm 5) (sb_of (se_nm 15)))) (sb_of se_int))))))) (fun _ _ _ _ _ => (se_nm 15)))
    (sss_cons (ss_set (se_new (sn_sort hr.units rfl T.b_sorted (sb_of (se_new (sn_lc rfl sc_law_policy.nd (si_seq (se_nm 8)) (blkOk_by (own := [("_law_k", 15)]) (N := N_law_policy) (sc := defScope (topS 68)) (by decide +kernel)) rfl ioN (fun _ _ _ _ _ => (sg_name sc_law_policy.nd)) (fun _ _ _ _ _ => sts_nil) (fun _ _ _ _ _ => (se_tup (sa_cons (se_call (ok_law_rank A T) (hr.mono (by decide)) rfl T.g_law_rank T.F_law_rank.kp (b_law_rank A T) pass0 (sa_cons (se_nm 3) (sa_cons (se_ix (sb_of (se_nm 0)) (sb_of (se_nm 15))) (sa_cons (se_ix (sb_nm 5) (sb_of (se_nm 15))) (sa_cons (se_nm 7) (sa_cons (se_nm 4) sa_nil)))))) (sa_cons (se_nm 15) sa_nil)) (len_le (aC_len (aC_len aN_len)) (by decide))))))))) sc_law_policy.nd)
    (sss_cons (ss_set (se_ix (sb_of (se_nm 1)) (sb_of (se_mod (sb_of (se_nm 7)) (sb_of (se_len rfl T.b_len (sab_cons (sb_of (se_nm 1)) sab_nil)))))) sc_law_policy.nd)
    (sss_cons (ss_own (sn_lst sa_nil (by decide) (len_le aN_len (by decide))) sc_law_policy.nd)
    (sss_cons (ss_for .never rfl (si_seq (se_nm 9)) (sg_name sc_law_policy.nd) (sss_cons (ss_set (se_callB (call_min2 rfl) l_min2 rfl T.b_min (by decide +kernel) (sab_cons (sb_of (se_nm 10)) (sab_cons (sb_of (se_ix (sb_nm 5) (sb_of (se_ix (sb_of (se_nm 12)) (sb_of se_int))))) sab_nil))) sc_law_policy.nd)
    (sss_one (ss_if (st_gt (sb_of (se_nm 13)) (sb_of se_int)) (sss_cons (ss_put (i := 5) (se_ix (sb_of (se_nm 12)) (sb_of se_int)) (se_sub (sb_of (se_ix (sb_nm 5) (sb_of (se_ix (sb_of (se_nm 12)) (sb_of se_int))))) (sb_of (se_nm 13))))
    (sss_cons (ss_set (se_sub (sb_of (se_nm 10)) (sb_of (se_nm 13))) sc_law_policy.nd)
    (sss_one (ss_app (i := 11) (se_tup (sa_cons (se_ix (sb_of (se_ix (sb_of (se_nm 0)) (sb_of (se_ix (sb_of (se_nm 12)) (sb_of se_int))))) (sb_of se_int)) (sa_cons (se_ix (sb_of (se_ix (sb_of (se_nm 0)) (sb_of (se_ix (sb_of (se_nm 12)) (sb_of se_int))))) (sb_of se_int)) (sa_cons (se_nm 13) sa_nil))) (len_le (aC_len (aC_len (aC_len aN_len))) (by decide))))))) sss_nil))))
    (sss_one (ss_frz (ss_app (i := 6) (se_nm 11))))))))))
    (sss_one (ss_frz (ss_ret (se_nm 6)))))))
abbrev N_follows : List Str := ["task", "first", "second", "ways", "between", "target", "distance"]
omit T in theorem sc_follows : FnScope N_follows ["task", "first", "second"] (defScope (topS 10)) := ⟨rfl, rfl, rfl, by decide +kernel, rfl, by decide +kernel, by decide +kernel⟩
theorem ok_follows : FnOk P w K mg base CX0 3 A.f_follows A.fd_follows ["task", "first", "second"] (PS0 ⟨K, A.cm⟩ Fn_follows) :=
  fn0 (K := ⟨K, A.cm⟩) T.F_follows sc_follows rfl rfl fun cdv Ar outer s' H Fz E hr =>
    (sss_cons (ss_set (se_meth (C := 1) (se_nm 0) T.C_Task T.M_Task_ways_from (ok_Task_ways_from A T) (hr.mono (by decide)) (b_Task_ways_from A T) pass0 (sa_cons (se_ix (sb_of (se_nm 1)) (sb_of se_int)) sa_nil)) sc_follows.nd)
    (sss_cons (ss_expr (se_meth (C := 1) (se_nm 0) T.C_Task T.M_Task_kind_number (ok_Task_kind_number A T) (hr.mono (by decide)) (b_Task_kind_number A T) pass0 (sa_cons (se_ix (sb_of (se_nm 2)) (sb_of se_int)) sa_nil)))
    (sss_cons (ss_set (se_sub (sb_of (se_ix (sb_of (se_nm 2)) (sb_of se_int))) (sb_of (se_ix (sb_of (se_nm 1)) (sb_of se_int)))) sc_follows.nd)
    (sss_cons (ss_for .never rfl (si_seq (se_nm 3)) (sg_tup rfl (sgs_cons (sg_name sc_follows.nd) (sgs_cons (sg_name sc_follows.nd) sgs_nil)) 2) (sss_one (ss_if (st_w (sw_and (st_eq hr.units (sb_of (se_nm 5)) (sb_of (se_ix (sb_of (se_nm 2)) (sb_of se_int)))) (sw_and1 (st_le (sb_of (se_nm 6)) (sb_of (se_nm 4)))))) (sss_one (ss_ret se_bl)) sss_nil)))
    (sss_one (ss_ret se_bl))))))
abbrev N_due : List Str := ["task", "release"]
omit T in theorem sc_due : FnScope N_due ["task", "release"] (defScope (topS 13)) := ⟨rfl, rfl, rfl, by decide +kernel, rfl, by decide +kernel, by decide +kernel⟩
theorem ok_due : FnOk P w K mg base CX0 3 A.f_due A.fd_due ["task", "release"] (PS0 ⟨K, A.cm⟩ Fn_due) :=
  fn0 (K := ⟨K, A.cm⟩) T.F_due sc_due rfl rfl fun cdv Ar outer s' H Fz E hr =>
    (sss_one (ss_ret (se_add (sb_of (se_ix (sb_of (se_nm 1)) (sb_of se_int))) (sb_of (se_meth (C := 1) (se_nm 0) T.C_Task T.M_Task_deadline (ok_Task_deadline A T) (hr.mono (by decide)) (b_Task_deadline A T) pass0 (sa_cons (se_ix (sb_of (se_nm 1)) (sb_of se_int)) sa_nil))))))
abbrev N_Task_init : List Str := ["self", "name", "kinds", "ways", "kind", "way"]
omit T in theorem sc_Task_init : FnScope N_Task_init ["self", "name", "kinds", "ways"] (defScope (inClass (topS 47) 0)) := ⟨rfl, rfl, rfl, by decide +kernel, rfl, by decide +kernel, by decide +kernel⟩
theorem ok_Task_init : FnOk P w K mg base CX0 3 A.f_Task_init A.fd_Task_init ["self", "name", "kinds", "ways"] (PIn ⟨K, A.cm⟩ 1 Fn_Task_init) :=
  fnI (K := ⟨K, A.cm⟩) T.F_Task_init sc_Task_init rfl rfl fun cdv Ar outer s' H B Fz E a hr =>
    (sss_cons (ss_if (st_w (sw_or (st_not (st_val (se_call (ok_is_name A T) (hr.mono (by decide)) rfl T.g_is_name T.F_is_name.kp (b_is_name A T) pass0 (sa_cons (se_nm 1) sa_nil)))) (sw_or1 (st_not (st_val (se_call (ok_are_kinds A T) (hr.mono (by decide)) rfl T.g_are_kinds T.F_are_kinds.kp (b_are_kinds A T) pass0 (sa_cons (se_nm 2) sa_nil))))))) sss_never sss_nil)
    (sss_cons (ss_if (st_not (st_val (se_call (ok_are_ways A T) (hr.mono (by decide)) rfl T.g_are_ways T.F_are_ways.kp (b_are_ways A T) pass0 (sa_cons (se_nm 3) (sa_cons (se_new (sn_lc rfl sc_Task_init.nd (si_seq (se_nm 2)) (blkOk_by (own := [("kind", 4)]) (N := N_Task_init) (sc := defScope (inClass (topS 47) 0)) (by decide +kernel)) rfl (io0 (by decide)) (fun _ _ _ _ _ => (sg_name sc_Task_init.nd)) (fun _ _ _ _ _ => sts_nil) (fun _ _ _ _ _ => (se_ix (sb_of (se_nm 4)) (sb_of se_int))))) sa_nil))))) sss_never sss_nil)
    (sss_cons (ss_fld (i := 0) (C := 1) T.C_Task T.n_Task_name (se_nm 1))
    (sss_cons (ss_fld (i := 0) (C := 1) T.C_Task T.n_Task_kinds (se_tupF rfl T.b_tuple (sab_cons (sb_of (se_new (sn_lc rfl sc_Task_init.nd (si_seq (se_nm 2)) (blkOk_by (own := [("kind", 4)]) (N := N_Task_init) (sc := defScope (inClass (topS 47) 0)) (by decide +kernel)) rfl (io0 (by decide)) (fun _ _ _ _ _ => (sg_name sc_Task_init.nd)) (fun _ _ _ _ _ => sts_nil) (fun _ _ _ _ _ => (se_tup (sa_cons (se_ix (sb_of (se_nm 4)) (sb_of se_int)) (sa_cons (se_ix (sb_of (se_nm 4)) (sb_of se_int)) (sa_cons (se_ix (sb_of (se_nm 4)) (sb_of se_int)) sa_nil))) (len_le (aC_len (aC_len (aC_len aN_len))) (by decide))))))) sab_nil)))
    (sss_one (ss_fld (i := 0) (C := 1) T.C_Task T.n_Task_ways (se_tupF rfl T.b_tuple (sab_cons (sb_of (se_new (sn_lc rfl sc_Task_init.nd (si_seq (se_nm 3)) (blkOk_by (own := [("way", 5)]) (N := N_Task_init) (sc := defScope (inClass (topS 47) 0)) (by decide +kernel)) rfl (io0 (by decide)) (fun _ _ _ _ _ => (sg_name sc_Task_init.nd)) (fun _ _ _ _ _ => sts_nil) (fun _ _ _ _ _ => (se_tup (sa_cons (se_ix (sb_of (se_nm 5)) (sb_of se_int)) (sa_cons (se_ix (sb_of (se_nm 5)) (sb_of se_int)) (sa_cons (se_ix (sb_of (se_nm 5)) (sb_of se_int)) sa_nil))) (len_le (aC_len (aC_len (aC_len aN_len))) (by decide))))))) sab_nil))))))))
abbrev N_law_world : List Str := ["_law_numbers_here", "_law_scale", "_law_table_here", "_law_word_here", "_law_tasks", "_law_releases", "_law_k", "_law_at", "_law_kinds_here", "_law_ways_here"]
omit T in theorem sc_law_world : FnScope N_law_world ["_law_numbers_here"] (defScope (topS 58)) := ⟨rfl, rfl, rfl, by decide +kernel, rfl, by decide +kernel, by decide +kernel⟩
theorem ok_law_world : FnOk P w K mg base CX0 3 A.f_law_world A.fd_law_world ["_law_numbers_here"] (PS0 ⟨K, A.cm⟩ Fn_law_world) :=
  fn0 (K := ⟨K, A.cm⟩) T.F_law_world sc_law_world rfl rfl fun cdv Ar outer s' H Fz E hr =>
    (sss_cons (ss_set (se_ix (sb_of (se_new (sn_lst (sa_cons se_int (sa_cons se_int (sa_cons se_int (sa_cons se_int sa_nil)))) (by decide) (len_le (aC_len (aC_len (aC_len (aC_len aN_len)))) (by decide))))) (sb_of (se_mod (sb_of (se_callTy call_int1 l_int rfl T.b_int (by decide +kernel) (sab_cons (sb_of (se_ix (sb_of (se_nm 0)) (sb_of se_int))) sab_nil))) (sb_of se_int)))) sc_law_world.nd)
    (sss_cons (ss_set (se_call (ok_law_table A T) (hr.mono (by decide)) rfl T.g_law_table T.F_law_table.kp (b_law_table A T) pass0 (sa_cons (se_nm 0) (sa_cons se_int (sa_cons (se_nm 1) sa_nil)))) sc_law_world.nd)
    (sss_cons (ss_set (se_call (ok_law_word A T) (hr.mono (by decide)) rfl T.g_law_word T.F_law_word.kp (b_law_word A T) pass0 (sa_cons (se_ix (sb_of (se_nm 0)) (sb_of se_int)) sa_nil)) sc_law_world.nd)
    (sss_cons (ss_own (sn_lst sa_nil (by decide) (len_le aN_len (by decide))) sc_law_world.nd)
    (sss_cons (ss_own (sn_lst sa_nil (by decide) (len_le aN_len (by decide))) sc_law_world.nd)
    (sss_cons (ss_for .never rfl (si_range1 rfl T.b_range (sa_cons (se_mod (sb_of (se_callTy call_int1 l_int rfl T.b_int (by decide +kernel) (sab_cons (sb_of (se_add (sb_of (se_ix (sb_of (se_nm 0)) (sb_of se_int))) (sb_of se_int))) sab_nil))) (sb_of se_int)) sa_nil)) (sg_name sc_law_world.nd) (sss_cons (ss_set (se_add (sb_of se_int) (sb_of (se_mul (sb_of se_int) (sb_of (se_nm 6))))) sc_law_world.nd)
    (sss_cons (ss_set (se_call (ok_law_kinds A T) (hr.mono (by decide)) rfl T.g_law_kinds T.F_law_kinds.kp (b_law_kinds A T) pass0 (sa_cons (se_nm 0) (sa_cons (se_nm 7) (sa_cons (se_nm 1) sa_nil)))) sc_law_world.nd)
    (sss_cons (ss_set (se_call (ok_law_ways A T) (hr.mono (by decide)) rfl T.g_law_ways T.F_law_ways.kp (b_law_ways A T) pass0 (sa_cons (se_nm 0) (sa_cons (se_add (sb_of (se_nm 7)) (sb_of se_int)) (sa_cons (se_nm 8) sa_nil)))) sc_law_world.nd)
    (sss_cons (ss_app (i := 4) (se_tup (sa_cons (se_call (ok_law_named A T) (hr.mono (by decide)) rfl T.g_law_named T.F_law_named.kp (b_law_named A T) pass0 (sa_cons (se_nm 3) (sa_cons (se_ix (sb_of (se_nm 0)) (sb_of se_int)) (sa_cons (se_nm 6) sa_nil)))) (sa_cons (se_nm 8) (sa_cons (se_nm 9) sa_nil))) (len_le (aC_len (aC_len (aC_len aN_len))) (by decide))))
    (sss_one (ss_app (i := 5) (se_call (ok_law_course A T) (hr.mono (by decide)) rfl T.g_law_course T.F_law_course.kp (b_law_course A T) pass0 (sa_cons (se_nm 0) (sa_cons (se_add (sb_of (se_nm 7)) (sb_of se_int)) (sa_cons (se_nm 8) (sa_cons (se_nm 9) (sa_cons (se_mod (sb_of (se_callTy call_int1 l_int rfl T.b_int (by decide +kernel) (sab_cons (sb_of (se_ix (sb_of (se_nm 0)) (sb_of (se_add (sb_of (se_nm 7)) (sb_of se_int))))) sab_nil))) (sb_of se_int)) sa_nil)))))))))))))
    (sss_one (ss_frz (ss_frz (ss_ret (se_tup (sa_cons (se_nm 4) (sa_cons (se_nm 2) (sa_cons (se_nm 5) sa_nil))) (len_le (aC_len (aC_len (aC_len aN_len))) (by decide)))))))))))))
abbrev N_check_task_releases : List Str := ["number", "task", "releases", "place", "release"]
omit T in theorem sc_check_task_releases : FnScope N_check_task_releases ["number", "task", "releases"] (defScope (topS 12)) := ⟨rfl, rfl, rfl, by decide +kernel, rfl, by decide +kernel, by decide +kernel⟩
theorem ok_check_task_releases : FnOk P w K mg base CX0 4 A.f_check_task_releases A.fd_check_task_releases ["number", "task", "releases"] (PS0 ⟨K, A.cm⟩ Fn_check_task_releases) :=
  fn0 (K := ⟨K, A.cm⟩) T.F_check_task_releases sc_check_task_releases rfl rfl fun cdv Ar outer s' H Fz E hr =>
    (sss_one (ss_for .never rfl (si_enum rfl T.b_enumerate (sa_cons (se_nm 2) sa_nil)) (sg_tup rfl (sgs_cons (sg_name sc_check_task_releases.nd) (sgs_cons (sg_name sc_check_task_releases.nd) sgs_nil)) 2) (sss_cons (ss_thru (sss_one (ss_expr (se_meth (C := 1) (se_nm 1) T.C_Task T.M_Task_kind_number (ok_Task_kind_number A T) (hr.mono (by decide)) (b_Task_kind_number A T) pass0 (sa_cons (se_ix (sb_of (se_nm 4)) (sb_of se_int)) sa_nil)))))
    (sss_one (ss_if (st_w (sw_and (st_gt (sb_of (se_nm 3)) (sb_of se_int)) (sw_and1 (st_not (st_val (se_call (ok_follows A T) (hr.mono (by decide)) rfl T.g_follows T.F_follows.kp (b_follows A T) pass0 (sa_cons (se_nm 1) (sa_cons (se_ix (sb_of (se_nm 2)) (sb_of (se_sub (sb_of (se_nm 3)) (sb_of se_int)))) (sa_cons (se_nm 4) sa_nil))))))))) sss_never sss_nil)))))
abbrev N_last_due : List Str := ["system", "releases", "latest", "number", "task", "release"]
omit T in theorem sc_last_due : FnScope N_last_due ["system", "releases"] (defScope (topS 14)) := ⟨rfl, rfl, rfl, by decide +kernel, rfl, by decide +kernel, by decide +kernel⟩
theorem ok_last_due : FnOk P w K mg base CX0 4 A.f_last_due A.fd_last_due ["system", "releases"] (PS0 ⟨K, A.cm⟩ Fn_last_due) :=
  fn0 (K := ⟨K, A.cm⟩) T.F_last_due sc_last_due rfl rfl fun cdv Ar outer s' H Fz E hr =>
    (sss_cons (ss_set se_int sc_last_due.nd)
    (sss_cons (ss_for .never rfl (si_enum rfl T.b_enumerate (sa_cons (se_fld (C := 2) T.C_System T.n_System_tasks (se_nm 0)) sa_nil)) (sg_tup rfl (sgs_cons (sg_name sc_last_due.nd) (sgs_cons (sg_name sc_last_due.nd) sgs_nil)) 2) (sss_one (ss_for .never rfl (si_seq (se_ix (sb_of (se_nm 1)) (sb_of (se_nm 3)))) (sg_name sc_last_due.nd) (sss_one (ss_set (se_callB (call_max2 rfl) l_max2 rfl T.b_max (by decide +kernel) (sab_cons (sb_of (se_nm 2)) (sab_cons (sb_of (se_call (ok_due A T) (hr.mono (by decide)) rfl T.g_due T.F_due.kp (b_due A T) pass0 (sa_cons (se_nm 4) (sa_cons (se_nm 5) sa_nil)))) sab_nil))) sc_last_due.nd)))))
    (sss_one (ss_ret (se_nm 2)))))
abbrev N_all_jobs : List Str := ["system", "releases", "jobs", "number", "task", "place", "release"]
omit T in theorem sc_all_jobs : FnScope N_all_jobs ["system", "releases"] (defScope (topS 15)) := ⟨rfl, rfl, rfl, by decide +kernel, rfl, by decide +kernel, by decide +kernel⟩
theorem ok_all_jobs : FnOk P w K mg base CX0 4 A.f_all_jobs A.fd_all_jobs ["system", "releases"] (PS0 ⟨K, A.cm⟩ Fn_all_jobs) :=
  fn0 (K := ⟨K, A.cm⟩) T.F_all_jobs sc_all_jobs rfl rfl fun cdv Ar outer s' H Fz E hr =>
    (sss_cons (ss_own (sn_lst sa_nil (by decide) (len_le aN_len (by decide))) sc_all_jobs.nd)
    (sss_cons (ss_for .never rfl (si_enum rfl T.b_enumerate (sa_cons (se_fld (C := 2) T.C_System T.n_System_tasks (se_nm 0)) sa_nil)) (sg_tup rfl (sgs_cons (sg_name sc_all_jobs.nd) (sgs_cons (sg_name sc_all_jobs.nd) sgs_nil)) 2) (sss_one (ss_for .never rfl (si_enum rfl T.b_enumerate (sa_cons (se_ix (sb_of (se_nm 1)) (sb_of (se_nm 3))) sa_nil)) (sg_tup rfl (sgs_cons (sg_name sc_all_jobs.nd) (sgs_cons (sg_name sc_all_jobs.nd) sgs_nil)) 2) (sss_one (ss_app (i := 2) (se_tup (sa_cons (se_call (ok_due A T) (hr.mono (by decide)) rfl T.g_due T.F_due.kp (b_due A T) pass0 (sa_cons (se_nm 4) (sa_cons (se_nm 6) sa_nil))) (sa_cons (se_ix (sb_of (se_nm 6)) (sb_of se_int)) (sa_cons (se_nm 3) (sa_cons (se_nm 5) (sa_cons (se_meth (C := 1) (se_nm 4) T.C_Task T.M_Task_cost (ok_Task_cost A T) (hr.mono (by decide)) (b_Task_cost A T) pass0 (sa_cons (se_ix (sb_of (se_nm 6)) (sb_of se_int)) sa_nil)) sa_nil))))) (len_le (aC_len (aC_len (aC_len (aC_len (aC_len aN_len))))) (by decide))))))))
    (sss_one (ss_ret (se_new (sn_sort hr.units rfl T.b_sorted (sb_nm 2)))))))
abbrev N_check_releases : List Str := ["system", "releases", "number", "task"]
omit T in theorem sc_check_releases : FnScope N_check_releases ["system", "releases"] (defScope (topS 11)) := ⟨rfl, rfl, rfl, by decide +kernel, rfl, by decide +kernel, by decide +kernel⟩
theorem ok_check_releases : FnOk P w K mg base CX0 5 A.f_check_releases A.fd_check_releases ["system", "releases"] (PS0 ⟨K, A.cm⟩ Fn_check_releases) :=
  fn0 (K := ⟨K, A.cm⟩) T.F_check_releases sc_check_releases rfl rfl fun cdv Ar outer s' H Fz E hr =>
    (sss_one (ss_for .never rfl (si_enum rfl T.b_enumerate (sa_cons (se_fld (C := 2) T.C_System T.n_System_tasks (se_nm 0)) sa_nil)) (sg_tup rfl (sgs_cons (sg_name sc_check_releases.nd) (sgs_cons (sg_name sc_check_releases.nd) sgs_nil)) 2) (sss_one (ss_expr (se_call (ok_check_task_releases A T) (hr.mono (by decide)) rfl T.g_check_task_releases T.F_check_task_releases.kp (b_check_task_releases A T) pass0 (sa_cons (se_nm 2) (sa_cons (se_nm 3) (sa_cons (se_ix (sb_of (se_nm 1)) (sb_of (se_nm 2))) sa_nil))))))))
abbrev N_law_system : List Str := ["_law_tasks", "_law_table_here", "_law_task"]
omit T in theorem sc_law_system : FnScope N_law_system ["_law_tasks", "_law_table_here"] (defScope (topS 59)) := ⟨rfl, rfl, rfl, by decide +kernel, rfl, by decide +kernel, by decide +kernel⟩
theorem ok_law_system : FnOk P w K mg base CX0 5 A.f_law_system A.fd_law_system ["_law_tasks", "_law_table_here"] (PS0 ⟨K, A.cm⟩ Fn_law_system) :=
  fn0 (K := ⟨K, A.cm⟩) T.F_law_system sc_law_system rfl rfl fun cdv Ar outer s' H Fz E hr =>
    (sss_one (ss_ret (se_makeK (C := 2) (n := 1) T.Mk_System (ok_System_init A T) (hr.mono (by decide)) rfl T.g_System (kbn_System_init_1 A T) pass0 (sa_cons (se_new (sn_lc rfl sc_law_system.nd (si_seq (se_nm 0)) (blkOk_by (own := [("_law_task", 2)]) (N := N_law_system) (sc := defScope (topS 59)) (by decide +kernel)) rfl ioN (fun _ _ _ _ _ => (sg_name sc_law_system.nd)) (fun _ _ _ _ _ => sts_nil) (fun _ _ _ _ _ => (se_makeK (C := 1) (n := 1) T.Mk_Task (ok_Task_init A T) (hr.mono (by decide)) rfl T.g_Task (kbn_Task_init_1 A T) pass0 (sa_cons (se_ix (sb_of (se_nm 2)) (sb_of se_int)) sa_nil) (sk_cons (se_new (sn_list rfl T.b_list (sab_cons (sb_of (se_ix (sb_of (se_nm 2)) (sb_of se_int))) sab_nil))) (sk_cons (se_new (sn_list rfl T.b_list (sab_cons (sb_of (se_ix (sb_of (se_nm 2)) (sb_of se_int))) sab_nil))) sk_nil)) (aC_len aN_len) (aC_len (aC_len aN_len)))))) sa_nil) (sk_cons (se_new (sn_list rfl T.b_list (sab_cons (sb_of (se_nm 1)) sab_nil))) sk_nil) (aC_len aN_len) (aC_len aN_len))))
abbrev N_run : List Str := ["system", "releases", "jobs", "left", "ends", "slots", "slot", "place", "job", "row"]
omit T in theorem sc_run : FnScope N_run ["system", "releases"] (defScope (topS 22)) := ⟨rfl, rfl, rfl, by decide +kernel, rfl, by decide +kernel, by decide +kernel⟩
theorem ok_run : FnOk P w K mg base CX0 6 A.f_run A.fd_run ["system", "releases"] (PS0 ⟨K, A.cm⟩ Fn_run) :=
  fn0 (K := ⟨K, A.cm⟩) T.F_run sc_run rfl rfl fun cdv Ar outer s' H Fz E hr =>
    (sss_cons (ss_expr (se_call (ok_check_releases A T) (hr.mono (by decide)) rfl T.g_check_releases T.F_check_releases.kp (b_check_releases A T) pass0 (sa_cons (se_nm 0) (sa_cons (se_nm 1) sa_nil))))
    (sss_cons (ss_set (se_call (ok_all_jobs A T) (hr.mono (by decide)) rfl T.g_all_jobs T.F_all_jobs.kp (b_all_jobs A T) pass0 (sa_cons (se_nm 0) (sa_cons (se_nm 1) sa_nil))) sc_run.nd)
    (sss_cons (ss_newLcC rfl sc_run.nd rfl rfl (sw_true rfl rfl rfl (by decide +kernel)) (si_seq (se_nm 2)) (blkOk_by (own := [("job", 8)]) (N := N_run) (sc := defScope (topS 22)) (by decide +kernel)) rfl ioN joN (fun _ _ _ _ _ => (sg_name sc_run.nd)) (fun _ _ _ _ _ => sts_nil) (fun _ _ _ _ _ => (se_ix (sb_of (se_nm 8)) (sb_of se_int))))
    (sss_cons (ss_newCC rfl sc_run.nd rfl rfl (sw_true rfl rfl rfl (by decide +kernel)) (si_seq (se_nm 1)) (blkOk_by (own := [("row", 9)]) (N := N_run) (sc := defScope (topS 22)) (by decide +kernel)) rfl ioN joN (fun _ _ _ _ _ => (sg_name sc_run.nd)) (fun _ _ _ _ _ => sts_nil) (fun _ _ _ _ _ => (sn_rep (sb_of (se_new (sn_lst (sa_cons se_non sa_nil) (by decide) (len_le (aC_len aN_len) (by decide))))) (sb_of (se_len rfl T.b_len (sab_cons (sb_of (se_nm 9)) sab_nil))))))
    (sss_cons (ss_own (sn_lst sa_nil (by decide) (len_le aN_len (by decide))) sc_run.nd)
    (sss_cons (ss_for .never rfl (si_range1 rfl T.b_range (sa_cons (se_call (ok_last_due A T) (hr.mono (by decide)) rfl T.g_last_due T.F_last_due.kp (b_last_due A T) pass0 (sa_cons (se_nm 0) (sa_cons (se_nm 1) sa_nil))) sa_nil)) (sg_name sc_run.nd) (sss_cons (ss_appX (i := 5) (sx_call (ok_serve A T) (hr.mono (by decide)) rfl T.g_serve T.F_serve.kp (b_serve A T) pass0 (sax_val (se_nm 2) (sax_cell (sr_nm 3) (sax_val (se_nm 6) (sax_val (se_call (ok_capacity A T) (hr.mono (by decide)) rfl T.g_capacity T.F_capacity.kp (b_capacity A T) pass0 (sa_cons (se_fld (C := 2) T.C_System T.n_System_table (se_nm 0)) (sa_cons (se_nm 6) sa_nil))) sax_nil))))))
    (sss_one (ss_for .never rfl (si_enum rfl T.b_enumerate (sa_cons (se_nm 2) sa_nil)) (sg_tup rfl (sgs_cons (sg_name sc_run.nd) (sgs_cons (sg_name sc_run.nd) sgs_nil)) 2) (sss_one (ss_if (st_w (sw_and (st_eq hr.units (sb_of (se_ix (sb_cell (sr_nm 3)) (sb_of (se_nm 7)))) (sb_of se_int)) (sw_and1 (st_isN (sb_of (se_ix (sb_cell (sr_ix (sr_nm 4) (sb_of (se_ix (sb_of (se_nm 8)) (sb_of se_int))))) (sb_of (se_ix (sb_of (se_nm 8)) (sb_of se_int))))) (sb_of se_non))))) (sss_one (ss_putC (sr_ix (sr_nm 4) (sb_of (se_ix (sb_of (se_nm 8)) (sb_of se_int)))) (se_ix (sb_of (se_nm 8)) (sb_of se_int)) (se_add (sb_of (se_nm 6)) (sb_of se_int)))) sss_nil))))))
    (sss_one (ss_frzC (ss_frz (ss_ret (se_make (C := 0) T.Mk_Outcome (ok_Outcome_init A T) (hr.mono (by decide)) rfl T.g_Outcome (b_Outcome_init A T) pass0 (sa_cons (se_nm 5) (sa_cons (se_nm 4) (sa_cons (se_call (ok_first_late A T) (hr.mono (by decide)) rfl T.g_first_late T.F_first_late.kp (b_first_late A T) pass0 (sa_cons (se_nm 2) (sa_cons (se_nm 4) sa_nil))) sa_nil))))))))))))))
abbrev N_run_ranked : List Str := ["system", "releases", "policy", "order", "jobs", "left", "ends", "slots", "slot", "free", "row", "place", "units", "job"]
omit T in theorem sc_run_ranked : FnScope N_run_ranked ["system", "releases", "policy", "order"] (defScope (topS 27)) := ⟨rfl, rfl, rfl, by decide +kernel, rfl, by decide +kernel, by decide +kernel⟩
theorem ok_run_ranked : FnOk P w K mg base CX0 6 A.f_run_ranked A.fd_run_ranked ["system", "releases", "policy", "order"] (PS0 ⟨K, A.cm⟩ Fn_run_ranked) :=
  fn0 (K := ⟨K, A.cm⟩) T.F_run_ranked sc_run_ranked rfl rfl fun cdv Ar outer s' H Fz E hr =>
    (sss_cons (ss_expr (se_call (ok_check_releases A T) (hr.mono (by decide)) rfl T.g_check_releases T.F_check_releases.kp (b_check_releases A T) pass0 (sa_cons (se_nm 0) (sa_cons (se_nm 1) sa_nil))))
    (sss_cons (ss_set (se_call (ok_all_jobs A T) (hr.mono (by decide)) rfl T.g_all_jobs T.F_all_jobs.kp (b_all_jobs A T) pass0 (sa_cons (se_nm 0) (sa_cons (se_nm 1) sa_nil))) sc_run_ranked.nd)
    (sss_cons (ss_newLcC rfl sc_run_ranked.nd rfl rfl (sw_true rfl rfl rfl (by decide +kernel)) (si_seq (se_nm 4)) (blkOk_by (own := [("job", 13)]) (N := N_run_ranked) (sc := defScope (topS 27)) (by decide +kernel)) rfl ioN joN (fun _ _ _ _ _ => (sg_name sc_run_ranked.nd)) (fun _ _ _ _ _ => sts_nil) (fun _ _ _ _ _ => (se_ix (sb_of (se_nm 13)) (sb_of se_int))))
    (sss_cons (ss_newCC rfl sc_run_ranked.nd rfl rfl (sw_true rfl rfl rfl (by decide +kernel)) (si_seq (se_nm 1)) (blkOk_by (own := [("row", 10)]) (N := N_run_ranked) (sc := defScope (topS 27)) (by decide +kernel)) rfl ioN joN (fun _ _ _ _ _ => (sg_name sc_run_ranked.nd)) (fun _ _ _ _ _ => sts_nil) (fun _ _ _ _ _ => (sn_rep (sb_of (se_new (sn_lst (sa_cons se_non sa_nil) (by decide) (len_le (aC_len aN_len) (by decide))))) (sb_of (se_len rfl T.b_len (sab_cons (sb_of (se_nm 10)) sab_nil))))))
    (sss_cons (ss_own (sn_lst sa_nil (by decide) (len_le aN_len (by decide))) sc_run_ranked.nd)
    (sss_cons (ss_for .never rfl (si_range1 rfl T.b_range (sa_cons (se_call (ok_last_due A T) (hr.mono (by decide)) rfl T.g_last_due T.F_last_due.kp (b_last_due A T) pass0 (sa_cons (se_nm 0) (sa_cons (se_nm 1) sa_nil))) sa_nil)) (sg_name sc_run_ranked.nd) (sss_cons (ss_set (se_call (ok_capacity A T) (hr.mono (by decide)) rfl T.g_capacity T.F_capacity.kp (b_capacity A T) pass0 (sa_cons (se_fld (C := 2) T.C_System T.n_System_table (se_nm 0)) (sa_cons (se_nm 8) sa_nil))) sc_run_ranked.nd)
    (sss_cons (ss_own (sn_lst sa_nil (by decide) (len_le aN_len (by decide))) sc_run_ranked.nd)
    (sss_cons (ss_forX .never rfl (sx_call (ok_ready_places A T) (hr.mono (by decide)) rfl T.g_ready_places T.F_ready_places.kp (b_ready_places A T) pass0 (sax_val (se_nm 2) (sax_val (se_nm 4) (sax_cell (sr_nm 5) (sax_val (se_nm 8) (sax_val (se_nm 3) sax_nil)))))) (sg_name sc_run_ranked.nd) (sss_cons (ss_set (se_callB (call_min2 rfl) l_min2 rfl T.b_min (by decide +kernel) (sab_cons (sb_of (se_nm 9)) (sab_cons (sb_of (se_ix (sb_cell (sr_nm 5)) (sb_of (se_nm 11)))) sab_nil))) sc_run_ranked.nd)
    (sss_one (ss_if (st_gt (sb_of (se_nm 12)) (sb_of se_int)) (sss_cons (ss_augC (sr_nm 5) (se_nm 11) (se_nm 12) ip_sub li_sub)
    (sss_cons (ss_aug (se_nm 12) ip_sub li_sub sc_run_ranked.nd)
    (sss_cons (ss_app (i := 10) (se_tup (sa_cons (se_ix (sb_of (se_ix (sb_of (se_nm 4)) (sb_of (se_nm 11)))) (sb_of se_int)) (sa_cons (se_ix (sb_of (se_ix (sb_of (se_nm 4)) (sb_of (se_nm 11)))) (sb_of se_int)) (sa_cons (se_nm 12) sa_nil))) (len_le (aC_len (aC_len (aC_len aN_len))) (by decide))))
    (sss_one (ss_if (st_eq hr.units (sb_of (se_ix (sb_cell (sr_nm 5)) (sb_of (se_nm 11)))) (sb_of se_int)) (sss_one (ss_putC (sr_ix (sr_nm 6) (sb_of (se_ix (sb_of (se_ix (sb_of (se_nm 4)) (sb_of (se_nm 11)))) (sb_of se_int)))) (se_ix (sb_of (se_ix (sb_of (se_nm 4)) (sb_of (se_nm 11)))) (sb_of se_int)) (se_add (sb_of (se_nm 8)) (sb_of se_int)))) sss_nil))))) sss_nil))))
    (sss_one (ss_frz (ss_app (i := 7) (se_nm 10))))))))
    (sss_one (ss_frzC (ss_frz (ss_ret (se_make (C := 0) T.Mk_Outcome (ok_Outcome_init A T) (hr.mono (by decide)) rfl T.g_Outcome (b_Outcome_init A T) pass0 (sa_cons (se_nm 7) (sa_cons (se_nm 6) (sa_cons (se_call (ok_first_late A T) (hr.mono (by decide)) rfl T.g_first_late T.F_first_late.kp (b_first_late A T) pass0 (sa_cons (se_nm 4) (sa_cons (se_nm 6) sa_nil))) sa_nil))))))))))))))
abbrev N_run_policy : List Str := ["system", "releases", "policy"]
omit T in theorem sc_run_policy : FnScope N_run_policy ["system", "releases", "policy"] (defScope (topS 28)) := ⟨rfl, rfl, rfl, by decide +kernel, rfl, by decide +kernel, by decide +kernel⟩
theorem ok_run_policy : FnOk P w K mg base CX0 7 A.f_run_policy A.fd_run_policy ["system", "releases", "policy"] (PS0 ⟨K, A.cm⟩ Fn_run_policy) :=
  fn0 (K := ⟨K, A.cm⟩) T.F_run_policy sc_run_policy rfl rfl fun cdv Ar outer s' H Fz E hr =>
    (sss_cons (ss_if (st_notIn (sb_of (se_nm 2)) (sb_of (se_gtup rfl T.v_POLICIES T.w_POLICIES))) sss_never sss_nil)
    (sss_one (ss_ret (se_call (ok_run_ranked A T) (hr.mono (by decide)) rfl T.g_run_ranked T.F_run_ranked.kp (b_run_ranked A T) pass0 (sa_cons (se_nm 0) (sa_cons (se_nm 1) (sa_cons (se_nm 2) (sa_cons (se_new (sn_listR rfl rfl T.b_list rfl T.b_range (se_len rfl T.b_len (sab_cons (sb_of (se_fld (C := 2) T.C_System T.n_System_tasks (se_nm 0))) sab_nil)))) sa_nil))))))))
abbrev N_run_fixed : List Str := ["system", "releases", "order"]
omit T in theorem sc_run_fixed : FnScope N_run_fixed ["system", "releases", "order"] (defScope (topS 29)) := ⟨rfl, rfl, rfl, by decide +kernel, rfl, by decide +kernel, by decide +kernel⟩
theorem ok_run_fixed : FnOk P w K mg base CX0 7 A.f_run_fixed A.fd_run_fixed ["system", "releases", "order"] (PS0 ⟨K, A.cm⟩ Fn_run_fixed) :=
  fn0 (K := ⟨K, A.cm⟩) T.F_run_fixed sc_run_fixed rfl rfl fun cdv Ar outer s' H Fz E hr =>
    (sss_one (ss_ret (se_call (ok_run_ranked A T) (hr.mono (by decide)) rfl T.g_run_ranked T.F_run_ranked.kp (b_run_ranked A T) pass0 (sa_cons (se_nm 0) (sa_cons (se_nm 1) (sa_cons se_str (sa_cons (se_new (sn_list rfl T.b_list (sab_cons (sb_of (se_nm 2)) sab_nil))) sa_nil)))))))
abbrev N_late_by_policy : List Str := ["system", "releases", "policy"]
omit T in theorem sc_late_by_policy : FnScope N_late_by_policy ["system", "releases"] (defScope (topS 30)) := ⟨rfl, rfl, rfl, by decide +kernel, rfl, by decide +kernel, by decide +kernel⟩
theorem ok_late_by_policy : FnOk P w K mg base CX0 8 A.f_late_by_policy A.fd_late_by_policy ["system", "releases"] (PS0 ⟨K, A.cm⟩ Fn_late_by_policy) :=
  fn0 (K := ⟨K, A.cm⟩) T.F_late_by_policy sc_late_by_policy rfl rfl fun cdv Ar outer s' H Fz E hr =>
    (sss_one (ss_ret (se_new (sn_lc rfl sc_late_by_policy.nd (si_seq (se_gtup rfl T.v_POLICIES T.w_POLICIES)) (blkOk_by (own := [("policy", 2)]) (N := N_late_by_policy) (sc := defScope (topS 30)) (by decide +kernel)) rfl ioN (fun _ _ _ _ _ => (sg_name sc_late_by_policy.nd)) (fun _ _ _ _ _ => sts_nil) (fun _ _ _ _ _ => (se_tup (sa_cons (se_nm 2) (sa_cons (se_fld (C := 0) T.C_Outcome T.n_Outcome_late (se_callK (n := 2) (ok_run_policy A T) (hr.mono (by decide)) rfl T.g_run_policy T.F_run_policy.kp (kb_run_policy_2 A T) pass0 (sa_cons (se_nm 0) (sa_cons (se_nm 1) sa_nil)) (sk_cons (se_nm 2) sk_nil) (aC_len (aC_len aN_len)))) sa_nil)) (len_le (aC_len (aC_len aN_len)) (by decide))))))))
abbrev N_fixed_order : List Str := ["system", "releases", "order"]
omit T in theorem sc_fixed_order : FnScope N_fixed_order ["system", "releases"] (defScope (topS 31)) := ⟨rfl, rfl, rfl, by decide +kernel, rfl, by decide +kernel, by decide +kernel⟩
theorem ok_fixed_order : FnOk P w K mg base CX0 8 A.f_fixed_order A.fd_fixed_order ["system", "releases"] (PS0 ⟨K, A.cm⟩ Fn_fixed_order) :=
  fn0 (K := ⟨K, A.cm⟩) T.F_fixed_order sc_fixed_order rfl rfl fun cdv Ar outer s' H Fz E hr =>
    (sss_cons (ss_expr (se_call (ok_check_releases A T) (hr.mono (by decide)) rfl T.g_check_releases T.F_check_releases.kp (b_check_releases A T) pass0 (sa_cons (se_nm 0) (sa_cons (se_nm 1) sa_nil))))
    (sss_cons (ss_for .never rfl (si_prm rfl T.g_permutations rfl rfl T.b_range (se_len rfl T.b_len (sab_cons (sb_of (se_fld (C := 2) T.C_System T.n_System_tasks (se_nm 0))) sab_nil))) (sg_name sc_fixed_order.nd) (sss_one (ss_if (st_isN (sb_of (se_fld (C := 0) T.C_Outcome T.n_Outcome_late (se_callK (n := 2) (ok_run_fixed A T) (hr.mono (by decide)) rfl T.g_run_fixed T.F_run_fixed.kp (kb_run_fixed_2 A T) pass0 (sa_cons (se_nm 0) (sa_cons (se_nm 1) sa_nil)) (sk_cons (se_nm 2) sk_nil) (aC_len (aC_len aN_len))))) (sb_of se_non)) (sss_one (ss_ret (se_nm 2))) sss_nil)))
    (sss_one (ss_ret se_non))))
abbrev N_law : List Str := ["_law_script", "_law_numbers_here", "_law_tasks", "_law_table_here", "_law_releases", "_law_system_here", "_law_jobs_here", "_law_size", "_law_rows", "_law_keeping", "_law_order", "_law_slots", "_law_late_here", "_law_pair", "_law_actual", "_law_number"]
omit T in theorem sc_law : FnScope N_law ["_law_script"] (defScope (topS 70)) := ⟨rfl, rfl, rfl, by decide +kernel, rfl, by decide +kernel, by decide +kernel⟩
theorem ok_law : FnOk P w K mg base CX0 9 A.f_law A.fd_law ["_law_script"] (PS0 ⟨K, A.cm⟩ Fn_law) :=
  fn0 (K := ⟨K, A.cm⟩) T.F_law sc_law rfl rfl fun cdv Ar outer s' H Fz E hr =>
    (sss_cons (ss_set (se_call (ok_law_numbers A T) (hr.mono (by decide)) rfl T.g_law_numbers T.F_law_numbers.kp (b_law_numbers A T) pass0 (sa_cons (se_nm 0) (sa_cons se_int sa_nil))) sc_law.nd)
    (sss_cons (ss_to (se_call (ok_law_world A T) (hr.mono (by decide)) rfl T.g_law_world T.F_law_world.kp (b_law_world A T) pass0 (sa_cons (se_nm 1) sa_nil)) (sg_tup rfl (sgs_cons (sg_name sc_law.nd) (sgs_cons (sg_name sc_law.nd) (sgs_cons (sg_name sc_law.nd) sgs_nil))) 3))
    (sss_cons (ss_set (se_call (ok_law_system A T) (hr.mono (by decide)) rfl T.g_law_system T.F_law_system.kp (b_law_system A T) pass0 (sa_cons (se_nm 2) (sa_cons (se_nm 3) sa_nil))) sc_law.nd)
    (sss_cons (ss_set (se_call (ok_law_jobs A T) (hr.mono (by decide)) rfl T.g_law_jobs T.F_law_jobs.kp (b_law_jobs A T) pass0 (sa_cons (se_nm 2) (sa_cons (se_nm 4) sa_nil))) sc_law.nd)
    (sss_cons (ss_set (se_call (ok_law_last A T) (hr.mono (by decide)) rfl T.g_law_last T.F_law_last.kp (b_law_last A T) pass0 (sa_cons (se_nm 6) sa_nil)) sc_law.nd)
    (sss_cons (ss_set (se_call (ok_law_copy A T) (hr.mono (by decide)) rfl T.g_law_copy T.F_law_copy.kp (b_law_copy A T) pass0 (sa_cons (se_nm 4) sa_nil)) sc_law.nd)
    (sss_cons (ss_own (sn_lst sa_nil (by decide) (len_le aN_len (by decide))) sc_law.nd)
    (sss_cons (ss_for .never rfl (si_seq (se_call (ok_law_orders A T) (hr.mono (by decide)) rfl T.g_law_orders T.F_law_orders.kp (b_law_orders A T) pass0 (sa_cons (se_len rfl T.b_len (sab_cons (sb_of (se_nm 2)) sab_nil)) sa_nil))) (sg_name sc_law.nd) (sss_cons (ss_set (se_call (ok_law_policy A T) (hr.mono (by decide)) rfl T.g_law_policy T.F_law_policy.kp (b_law_policy A T) pass0 (sa_cons (se_nm 6) (sa_cons (se_nm 3) (sa_cons (se_nm 7) (sa_cons se_str (sa_cons (se_nm 10) sa_nil)))))) sc_law.nd)
    (sss_one (ss_if (st_isN (sb_of (se_call (ok_law_late A T) (hr.mono (by decide)) rfl T.g_law_late T.F_law_late.kp (b_law_late A T) pass0 (sa_cons (se_nm 6) (sa_cons (se_call (ok_law_ends A T) (hr.mono (by decide)) rfl T.g_law_ends T.F_law_ends.kp (b_law_ends A T) pass0 (sa_cons (se_nm 6) (sa_cons (se_nm 11) sa_nil))) sa_nil)))) (sb_of se_non)) (sss_one (ss_app (i := 9) (se_nm 10))) sss_nil))))
    (sss_cons (ss_set (se_fld (C := 0) T.C_Outcome T.n_Outcome_late (se_call (ok_run A T) (hr.mono (by decide)) rfl T.g_run T.F_run.kp (b_run A T) pass0 (sa_cons (se_nm 5) (sa_cons (se_nm 8) sa_nil)))) sc_law.nd)
    (sss_cons (ss_for .never rfl (si_seq (se_call (ok_late_by_policy A T) (hr.mono (by decide)) rfl T.g_late_by_policy T.F_late_by_policy.kp (b_late_by_policy A T) pass0 (sa_cons (se_nm 5) (sa_cons (se_nm 8) sa_nil)))) (sg_name sc_law.nd) (sss_one (ss_if (st_w (sw_and (st_isN (sb_of (se_ix (sb_of (se_nm 13)) (sb_of se_int))) (sb_of se_non)) (sw_and1 (st_notN (sb_of (se_nm 12)) (sb_of se_non))))) (sss_one (ss_ret se_bl)) sss_nil)))
    (sss_cons (ss_if (st_w (sw_and (st_gt (sb_of (se_len rfl T.b_len (sab_cons (sb_nm 9) sab_nil))) (sb_of se_int)) (sw_and1 (st_notN (sb_of (se_nm 12)) (sb_of se_non))))) (sss_one (ss_ret se_bl)) sss_nil)
    (sss_cons (ss_set (se_call (ok_fixed_order A T) (hr.mono (by decide)) rfl T.g_fixed_order T.F_fixed_order.kp (b_fixed_order A T) pass0 (sa_cons (se_nm 5) (sa_cons (se_nm 8) sa_nil))) sc_law.nd)
    (sss_cons (ss_if (st_ne hr.units (sb_of (se_nm 8)) (sb_of (se_nm 4))) (sss_one (ss_ret se_bl)) sss_nil)
    (sss_cons (ss_if (st_eq hr.units (sb_of (se_len rfl T.b_len (sab_cons (sb_nm 9) sab_nil))) (sb_of se_int)) (sss_one (ss_ret (se_isN (sb_of (se_nm 14)) (sb_of se_non)))) sss_nil)
    (sss_cons (ss_if (st_w (sw_or (st_not (st_val (se_isi .tuple (sb_of (se_nm 14)) rfl T.b_isinstance rfl T.b_tuple))) (sw_or1 (st_ne hr.units (sb_of (se_new (sn_list rfl T.b_list (sab_cons (sb_of (se_nm 14)) sab_nil)))) (sb_of (se_ix (sb_nm 9) (sb_of se_int))))))) (sss_one (ss_ret se_bl)) sss_nil)
    (sss_cons (ss_for .never rfl (si_seq (se_nm 14)) (sg_name sc_law.nd) (sss_one (ss_if (st_not (st_val (se_call (ok_law_is_integer A T) (hr.mono (by decide)) rfl T.g_law_is_integer T.F_law_is_integer.kp (b_law_is_integer A T) pass0 (sa_cons (se_nm 15) sa_nil)))) (sss_one (ss_ret se_bl)) sss_nil)))
    (sss_one (ss_ret (se_isN (sb_of (se_fld (C := 0) T.C_Outcome T.n_Outcome_late (se_callK (n := 2) (ok_run_fixed A T) (hr.mono (by decide)) rfl T.g_run_fixed T.F_run_fixed.kp (kb_run_fixed_2 A T) pass0 (sa_cons (se_nm 5) (sa_cons (se_nm 8) sa_nil)) (sk_cons (se_nm 14) sk_nil) (aC_len (aC_len aN_len))))) (sb_of se_non))))))))))))))))))))
end
end G88

namespace G88
open PySem PySem.Spec PyProof.Rows L2 Pu

/-- what the law promises -/
def spLaw (K : PySem.W.Frag) : Sp := fun vs H Q _ => ∃ (a : Addr) (ns : List Int), vs = [.ref a] ∧ SqL K H a (ns.map V.int) ∧ ns.length ≤ 63 ∧ ∀ H', Q (.bl true) H'
theorem all_mk (law_true : ∀ ns : List Int, ns.length ≤ 63 → Fn_law [.scr ns] = .ok (.bl true)) {l : PySem.W.OpenLaw} {w : World} {K : PySem.W.Frag} {h : Heap} {mg : Str → Option Value} {fa : Addr} (X : K.In h) (G : h.Ns mainGlobals mg) (hfa : mg "law" = some (.ref fa))
    {c_Outcome c_Task c_System f0 f1 f2 f3 f4 f5 f6 f7 f8 f9 f10 f11 f12 f13 f14 f15 f16 f17 f18 f19 f20 f21 f22 f23 f24 f25 f26 f27 f28 f29 f30 f31 f32 f33 f34 f35 f36 f37 f38 f39 f40 f41 f42 f43 f44 f45 f46 f47 f48 t_POLICIES : Addr}
    {od0 an0 od1 an1 od2 an2 od3 an3 od4 an4 od5 an5 od6 an6 od7 an7 od8 an8 od9 an9 od10 an10 od11 an11 od12 an12 od13 an13 od14 an14 od15 an15 od16 an16 od17 an17 od18 an18 od19 an19 od20 an20 od21 an21 od22 an22 od23 an23 od24 an24 od25 an25 od26 an26 od27 an27 od28 an28 od29 an29 od30 an30 od31 an31 od32 an32 od33 an33 od34 an34 od35 an35 od36 an36 od37 an37 od38 an38 od39 an39 od40 an40 od41 an41 od42 an42 od43 an43 od44 an44 od45 an45 od46 an46 od47 an47 od48 an48 od_POLICIES : Option Addr}
    {sl0 sl1 sl2 sl3 sl4 sl5 sl6 sl7 sl8 sl9 sl10 sl11 sl12 sl13 sl14 sl15 sl16 sl17 sl18 sl19 sl20 sl21 sl22 sl23 sl24 sl25 sl26 sl27 sl28 sl29 sl30 sl31 sl32 sl33 sl34 sl35 sl36 sl37 sl38 sl39 sl40 sl41 sl42 sl43 sl44 sl45 sl46 sl47 sl48 sl_POLICIES : Array (Option Value)}
    {oc0 kV0 dc0 pm0 cd0 ct0 oc1 kV1 dc1 pm1 cd1 ct1 oc2 kV2 dc2 pm2 cd2 ct2 oc3 kV3 dc3 pm3 cd3 ct3 oc4 kV4 dc4 pm4 cd4 ct4 oc5 kV5 dc5 pm5 cd5 ct5 oc6 kV6 dc6 pm6 cd6 ct6 oc7 kV7 dc7 pm7 cd7 ct7 oc8 kV8 dc8 pm8 cd8 ct8 oc9 kV9 dc9 pm9 cd9 ct9 oc10 kV10 dc10 pm10 cd10 ct10 oc11 kV11 dc11 pm11 cd11 ct11 oc12 kV12 dc12 pm12 cd12 ct12 oc13 kV13 dc13 pm13 cd13 ct13 oc14 kV14 dc14 pm14 cd14 ct14 oc15 kV15 dc15 pm15 cd15 ct15 oc16 kV16 dc16 pm16 cd16 ct16 oc17 kV17 dc17 pm17 cd17 ct17 oc18 kV18 dc18 pm18 cd18 ct18 oc19 kV19 dc19 pm19 cd19 ct19 oc20 kV20 dc20 pm20 cd20 ct20 oc21 kV21 dc21 pm21 cd21 ct21 oc22 kV22 dc22 pm22 cd22 ct22 oc23 kV23 dc23 pm23 cd23 ct23 oc24 kV24 dc24 pm24 cd24 ct24 oc25 kV25 dc25 pm25 cd25 ct25 oc26 kV26 dc26 pm26 cd26 ct26 oc27 kV27 dc27 pm27 cd27 ct27 oc28 kV28 dc28 pm28 cd28 ct28 oc29 kV29 dc29 pm29 cd29 ct29 oc30 kV30 dc30 pm30 cd30 ct30 oc31 kV31 dc31 pm31 cd31 ct31 oc32 kV32 dc32 pm32 cd32 ct32 oc33 kV33 dc33 pm33 cd33 ct33 oc34 kV34 dc34 pm34 cd34 ct34 oc35 kV35 dc35 pm35 cd35 ct35 oc36 kV36 dc36 pm36 cd36 ct36 oc37 kV37 dc37 pm37 cd37 ct37 oc38 kV38 dc38 pm38 cd38 ct38 oc39 kV39 dc39 pm39 cd39 ct39 oc40 kV40 dc40 pm40 cd40 ct40 oc41 kV41 dc41 pm41 cd41 ct41 oc42 kV42 dc42 pm42 cd42 ct42 oc43 kV43 dc43 pm43 cd43 ct43 oc44 kV44 dc44 pm44 cd44 ct44 oc45 kV45 dc45 pm45 cd45 ct45 oc46 kV46 dc46 pm46 cd46 ct46 oc47 kV47 dc47 pm47 cd47 ct47 oc48 kV48 dc48 pm48 cd48 ct48 : Value}
    {t_MOST_CAPACITY t_MOST_COST t_MOST_DEADLINE t_MOST_DISTANCE t_MOST_KINDS t_MOST_NAME_CHARS t_MOST_SLOTS t_MOST_TASKS t_MOST_WAYS t_NAME_CHARS tk0_POLICIES tk1_POLICIES tk2_POLICIES tk3_POLICIES : Tok}
    {nn_POLICIES : Nat}
    (g_Outcome : PySem.W.nsIn K mainGlobals "Outcome" = some (some (.ref c_Outcome)))
    (g_Task : PySem.W.nsIn K mainGlobals "Task" = some (some (.ref c_Task)))
    (g_System : PySem.W.nsIn K mainGlobals "System" = some (some (.ref c_System)))
    (a0 : PySem.W.nsIn K mainGlobals "capacity" = some (some (.ref f0)))
    (l0 : K.lookup f0 = some ⟨oc0, od0, .func (PySem.W.fnOf "capacity" "capacity" (defArgs (topS 17)) (defBody (topS 17)) (defScope (topS 17)) .none kV0 dc0 pm0 an0 cd0 ct0), sl0⟩)
    (q0 : PySem.W.codeIn K cd0 "capacity" = true)
    (k0 : PySem.W.keepIn K (.ref f0) = true)
    (a1 : PySem.W.findIn K (.ref c_Outcome) "__init__" = some (some (.ref f1)))
    (i1 : PySem.W.isFn K (.ref f1) = true)
    (l1 : K.lookup f1 = some ⟨oc1, od1, .func (PySem.W.fnOf "__init__" "Outcome.__init__" (defArgs (inClass (topS 19) 0)) (defBody (inClass (topS 19) 0)) (defScope (inClass (topS 19) 0)) .none kV1 dc1 pm1 an1 cd1 ct1), sl1⟩)
    (q1 : PySem.W.codeIn K cd1 "Outcome.__init__" = true)
    (k1 : PySem.W.keepIn K (.ref f1) = true)
    (a2 : PySem.W.nsIn K mainGlobals "first_late" = some (some (.ref f2)))
    (l2 : K.lookup f2 = some ⟨oc2, od2, .func (PySem.W.fnOf "first_late" "first_late" (defArgs (topS 20)) (defBody (topS 20)) (defScope (topS 20)) .none kV2 dc2 pm2 an2 cd2 ct2), sl2⟩)
    (q2 : PySem.W.codeIn K cd2 "first_late" = true)
    (k2 : PySem.W.keepIn K (.ref f2) = true)
    (a3 : PySem.W.nsIn K mainGlobals "serve" = some (some (.ref f3)))
    (l3 : K.lookup f3 = some ⟨oc3, od3, .func (PySem.W.fnOf "serve" "serve" (defArgs (topS 21)) (defBody (topS 21)) (defScope (topS 21)) .none kV3 dc3 pm3 an3 cd3 ct3), sl3⟩)
    (q3 : PySem.W.codeIn K cd3 "serve" = true)
    (k3 : PySem.W.keepIn K (.ref f3) = true)
    (a4 : PySem.W.nsIn K mainGlobals "rank" = some (some (.ref f4)))
    (l4 : K.lookup f4 = some ⟨oc4, od4, .func (PySem.W.fnOf "rank" "rank" (defArgs (topS 25)) (defBody (topS 25)) (defScope (topS 25)) .none kV4 dc4 pm4 an4 cd4 ct4), sl4⟩)
    (q4 : PySem.W.codeIn K cd4 "rank" = true)
    (k4 : PySem.W.keepIn K (.ref f4) = true)
    (a5 : PySem.W.nsIn K mainGlobals "is_name" = some (some (.ref f5)))
    (l5 : K.lookup f5 = some ⟨oc5, od5, .func (PySem.W.fnOf "is_name" "is_name" (defArgs (topS 43)) (defBody (topS 43)) (defScope (topS 43)) .none kV5 dc5 pm5 an5 cd5 ct5), sl5⟩)
    (q5 : PySem.W.codeIn K cd5 "is_name" = true)
    (k5 : PySem.W.keepIn K (.ref f5) = true)
    (a6 : PySem.W.nsIn K mainGlobals "are_ways" = some (some (.ref f6)))
    (l6 : K.lookup f6 = some ⟨oc6, od6, .func (PySem.W.fnOf "are_ways" "are_ways" (defArgs (topS 45)) (defBody (topS 45)) (defScope (topS 45)) .none kV6 dc6 pm6 an6 cd6 ct6), sl6⟩)
    (q6 : PySem.W.codeIn K cd6 "are_ways" = true)
    (k6 : PySem.W.keepIn K (.ref f6) = true)
    (a7 : PySem.W.nsIn K mainGlobals "is_table" = some (some (.ref f7)))
    (l7 : K.lookup f7 = some ⟨oc7, od7, .func (PySem.W.fnOf "is_table" "is_table" (defArgs (topS 46)) (defBody (topS 46)) (defScope (topS 46)) .none kV7 dc7 pm7 an7 cd7 ct7), sl7⟩)
    (q7 : PySem.W.codeIn K cd7 "is_table" = true)
    (k7 : PySem.W.keepIn K (.ref f7) = true)
    (a8 : PySem.W.findIn K (.ref c_Task) "kind_number" = some (some (.ref f8)))
    (i8 : PySem.W.isFn K (.ref f8) = true)
    (l8 : K.lookup f8 = some ⟨oc8, od8, .func (PySem.W.fnOf "kind_number" "Task.kind_number" (defArgs (inClass (topS 47) 3)) (defBody (inClass (topS 47) 3)) (defScope (inClass (topS 47) 3)) .none kV8 dc8 pm8 an8 cd8 ct8), sl8⟩)
    (q8 : PySem.W.codeIn K cd8 "Task.kind_number" = true)
    (k8 : PySem.W.keepIn K (.ref f8) = true)
    (a9 : PySem.W.nsIn K mainGlobals "_law_row" = some (some (.ref f9)))
    (l9 : K.lookup f9 = some ⟨oc9, od9, .func (PySem.W.fnOf "_law_row" "_law_row" (defArgs (topS 50)) (defBody (topS 50)) (defScope (topS 50)) .none kV9 dc9 pm9 an9 cd9 ct9), sl9⟩)
    (q9 : PySem.W.codeIn K cd9 "_law_row" = true)
    (k9 : PySem.W.keepIn K (.ref f9) = true)
    (a10 : PySem.W.nsIn K mainGlobals "_law_word" = some (some (.ref f10)))
    (l10 : K.lookup f10 = some ⟨oc10, od10, .func (PySem.W.fnOf "_law_word" "_law_word" (defArgs (topS 52)) (defBody (topS 52)) (defScope (topS 52)) .none kV10 dc10 pm10 an10 cd10 ct10), sl10⟩)
    (q10 : PySem.W.codeIn K cd10 "_law_word" = true)
    (k10 : PySem.W.keepIn K (.ref f10) = true)
    (a11 : PySem.W.nsIn K mainGlobals "_law_named" = some (some (.ref f11)))
    (l11 : K.lookup f11 = some ⟨oc11, od11, .func (PySem.W.fnOf "_law_named" "_law_named" (defArgs (topS 53)) (defBody (topS 53)) (defScope (topS 53)) .none kV11 dc11 pm11 an11 cd11 ct11), sl11⟩)
    (q11 : PySem.W.codeIn K cd11 "_law_named" = true)
    (k11 : PySem.W.keepIn K (.ref f11) = true)
    (a12 : PySem.W.nsIn K mainGlobals "_law_ways" = some (some (.ref f12)))
    (l12 : K.lookup f12 = some ⟨oc12, od12, .func (PySem.W.fnOf "_law_ways" "_law_ways" (defArgs (topS 55)) (defBody (topS 55)) (defScope (topS 55)) .none kV12 dc12 pm12 an12 cd12 ct12), sl12⟩)
    (q12 : PySem.W.codeIn K cd12 "_law_ways" = true)
    (k12 : PySem.W.keepIn K (.ref f12) = true)
    (a13 : PySem.W.nsIn K mainGlobals "_law_course" = some (some (.ref f13)))
    (l13 : K.lookup f13 = some ⟨oc13, od13, .func (PySem.W.fnOf "_law_course" "_law_course" (defArgs (topS 56)) (defBody (topS 56)) (defScope (topS 56)) .none kV13 dc13 pm13 an13 cd13 ct13), sl13⟩)
    (q13 : PySem.W.codeIn K cd13 "_law_course" = true)
    (k13 : PySem.W.keepIn K (.ref f13) = true)
    (a14 : PySem.W.nsIn K mainGlobals "_law_table" = some (some (.ref f14)))
    (l14 : K.lookup f14 = some ⟨oc14, od14, .func (PySem.W.fnOf "_law_table" "_law_table" (defArgs (topS 57)) (defBody (topS 57)) (defScope (topS 57)) .none kV14 dc14 pm14 an14 cd14 ct14), sl14⟩)
    (q14 : PySem.W.codeIn K cd14 "_law_table" = true)
    (k14 : PySem.W.keepIn K (.ref f14) = true)
    (a15 : PySem.W.nsIn K mainGlobals "_law_copy" = some (some (.ref f15)))
    (l15 : K.lookup f15 = some ⟨oc15, od15, .func (PySem.W.fnOf "_law_copy" "_law_copy" (defArgs (topS 60)) (defBody (topS 60)) (defScope (topS 60)) .none kV15 dc15 pm15 an15 cd15 ct15), sl15⟩)
    (q15 : PySem.W.codeIn K cd15 "_law_copy" = true)
    (k15 : PySem.W.keepIn K (.ref f15) = true)
    (a16 : PySem.W.nsIn K mainGlobals "_law_kind" = some (some (.ref f16)))
    (l16 : K.lookup f16 = some ⟨oc16, od16, .func (PySem.W.fnOf "_law_kind" "_law_kind" (defArgs (topS 61)) (defBody (topS 61)) (defScope (topS 61)) .none kV16 dc16 pm16 an16 cd16 ct16), sl16⟩)
    (q16 : PySem.W.codeIn K cd16 "_law_kind" = true)
    (k16 : PySem.W.keepIn K (.ref f16) = true)
    (a17 : PySem.W.nsIn K mainGlobals "_law_last" = some (some (.ref f17)))
    (l17 : K.lookup f17 = some ⟨oc17, od17, .func (PySem.W.fnOf "_law_last" "_law_last" (defArgs (topS 63)) (defBody (topS 63)) (defScope (topS 63)) .none kV17 dc17 pm17 an17 cd17 ct17), sl17⟩)
    (q17 : PySem.W.codeIn K cd17 "_law_last" = true)
    (k17 : PySem.W.keepIn K (.ref f17) = true)
    (a18 : PySem.W.nsIn K mainGlobals "_law_ends" = some (some (.ref f18)))
    (l18 : K.lookup f18 = some ⟨oc18, od18, .func (PySem.W.fnOf "_law_ends" "_law_ends" (defArgs (topS 64)) (defBody (topS 64)) (defScope (topS 64)) .none kV18 dc18 pm18 an18 cd18 ct18), sl18⟩)
    (q18 : PySem.W.codeIn K cd18 "_law_ends" = true)
    (k18 : PySem.W.keepIn K (.ref f18) = true)
    (a19 : PySem.W.nsIn K mainGlobals "_law_late" = some (some (.ref f19)))
    (l19 : K.lookup f19 = some ⟨oc19, od19, .func (PySem.W.fnOf "_law_late" "_law_late" (defArgs (topS 65)) (defBody (topS 65)) (defScope (topS 65)) .none kV19 dc19 pm19 an19 cd19 ct19), sl19⟩)
    (q19 : PySem.W.codeIn K cd19 "_law_late" = true)
    (k19 : PySem.W.keepIn K (.ref f19) = true)
    (a20 : PySem.W.nsIn K mainGlobals "_law_is_integer" = some (some (.ref f20)))
    (l20 : K.lookup f20 = some ⟨oc20, od20, .func (PySem.W.fnOf "_law_is_integer" "_law_is_integer" (defArgs (topS 66)) (defBody (topS 66)) (defScope (topS 66)) .none kV20 dc20 pm20 an20 cd20 ct20), sl20⟩)
    (q20 : PySem.W.codeIn K cd20 "_law_is_integer" = true)
    (k20 : PySem.W.keepIn K (.ref f20) = true)
    (a21 : PySem.W.nsIn K mainGlobals "_law_rank" = some (some (.ref f21)))
    (l21 : K.lookup f21 = some ⟨oc21, od21, .func (PySem.W.fnOf "_law_rank" "_law_rank" (defArgs (topS 67)) (defBody (topS 67)) (defScope (topS 67)) .none kV21 dc21 pm21 an21 cd21 ct21), sl21⟩)
    (q21 : PySem.W.codeIn K cd21 "_law_rank" = true)
    (k21 : PySem.W.keepIn K (.ref f21) = true)
    (a22 : PySem.W.nsIn K mainGlobals "_law_orders" = some (some (.ref f22)))
    (l22 : K.lookup f22 = some ⟨oc22, od22, .func (PySem.W.fnOf "_law_orders" "_law_orders" (defArgs (topS 69)) (defBody (topS 69)) (defScope (topS 69)) .none kV22 dc22 pm22 an22 cd22 ct22), sl22⟩)
    (q22 : PySem.W.codeIn K cd22 "_law_orders" = true)
    (k22 : PySem.W.keepIn K (.ref f22) = true)
    (a23 : PySem.W.nsIn K mainGlobals "ready_places" = some (some (.ref f23)))
    (l23 : K.lookup f23 = some ⟨oc23, od23, .func (PySem.W.fnOf "ready_places" "ready_places" (defArgs (topS 26)) (defBody (topS 26)) (defScope (topS 26)) .none kV23 dc23 pm23 an23 cd23 ct23), sl23⟩)
    (q23 : PySem.W.codeIn K cd23 "ready_places" = true)
    (k23 : PySem.W.keepIn K (.ref f23) = true)
    (a24 : PySem.W.nsIn K mainGlobals "are_kinds" = some (some (.ref f24)))
    (l24 : K.lookup f24 = some ⟨oc24, od24, .func (PySem.W.fnOf "are_kinds" "are_kinds" (defArgs (topS 44)) (defBody (topS 44)) (defScope (topS 44)) .none kV24 dc24 pm24 an24 cd24 ct24), sl24⟩)
    (q24 : PySem.W.codeIn K cd24 "are_kinds" = true)
    (k24 : PySem.W.keepIn K (.ref f24) = true)
    (a25 : PySem.W.findIn K (.ref c_Task) "cost" = some (some (.ref f25)))
    (i25 : PySem.W.isFn K (.ref f25) = true)
    (l25 : K.lookup f25 = some ⟨oc25, od25, .func (PySem.W.fnOf "cost" "Task.cost" (defArgs (inClass (topS 47) 4)) (defBody (inClass (topS 47) 4)) (defScope (inClass (topS 47) 4)) .none kV25 dc25 pm25 an25 cd25 ct25), sl25⟩)
    (q25 : PySem.W.codeIn K cd25 "Task.cost" = true)
    (k25 : PySem.W.keepIn K (.ref f25) = true)
    (a26 : PySem.W.findIn K (.ref c_Task) "deadline" = some (some (.ref f26)))
    (i26 : PySem.W.isFn K (.ref f26) = true)
    (l26 : K.lookup f26 = some ⟨oc26, od26, .func (PySem.W.fnOf "deadline" "Task.deadline" (defArgs (inClass (topS 47) 5)) (defBody (inClass (topS 47) 5)) (defScope (inClass (topS 47) 5)) .none kV26 dc26 pm26 an26 cd26 ct26), sl26⟩)
    (q26 : PySem.W.codeIn K cd26 "Task.deadline" = true)
    (k26 : PySem.W.keepIn K (.ref f26) = true)
    (a27 : PySem.W.findIn K (.ref c_Task) "ways_from" = some (some (.ref f27)))
    (i27 : PySem.W.isFn K (.ref f27) = true)
    (l27 : K.lookup f27 = some ⟨oc27, od27, .func (PySem.W.fnOf "ways_from" "Task.ways_from" (defArgs (inClass (topS 47) 6)) (defBody (inClass (topS 47) 6)) (defScope (inClass (topS 47) 6)) .none kV27 dc27 pm27 an27 cd27 ct27), sl27⟩)
    (q27 : PySem.W.codeIn K cd27 "Task.ways_from" = true)
    (k27 : PySem.W.keepIn K (.ref f27) = true)
    (a28 : PySem.W.findIn K (.ref c_System) "__init__" = some (some (.ref f28)))
    (i28 : PySem.W.isFn K (.ref f28) = true)
    (l28 : K.lookup f28 = some ⟨oc28, od28, .func (PySem.W.fnOf "__init__" "System.__init__" (defArgs (inClass (topS 48) 0)) (defBody (inClass (topS 48) 0)) (defScope (inClass (topS 48) 0)) .none kV28 dc28 pm28 an28 cd28 ct28), sl28⟩)
    (q28 : PySem.W.codeIn K cd28 "System.__init__" = true)
    (k28 : PySem.W.keepIn K (.ref f28) = true)
    (a29 : PySem.W.nsIn K mainGlobals "_law_numbers" = some (some (.ref f29)))
    (l29 : K.lookup f29 = some ⟨oc29, od29, .func (PySem.W.fnOf "_law_numbers" "_law_numbers" (defArgs (topS 51)) (defBody (topS 51)) (defScope (topS 51)) .none kV29 dc29 pm29 an29 cd29 ct29), sl29⟩)
    (q29 : PySem.W.codeIn K cd29 "_law_numbers" = true)
    (k29 : PySem.W.keepIn K (.ref f29) = true)
    (a30 : PySem.W.nsIn K mainGlobals "_law_kinds" = some (some (.ref f30)))
    (l30 : K.lookup f30 = some ⟨oc30, od30, .func (PySem.W.fnOf "_law_kinds" "_law_kinds" (defArgs (topS 54)) (defBody (topS 54)) (defScope (topS 54)) .none kV30 dc30 pm30 an30 cd30 ct30), sl30⟩)
    (q30 : PySem.W.codeIn K cd30 "_law_kinds" = true)
    (k30 : PySem.W.keepIn K (.ref f30) = true)
    (a31 : PySem.W.nsIn K mainGlobals "_law_jobs" = some (some (.ref f31)))
    (l31 : K.lookup f31 = some ⟨oc31, od31, .func (PySem.W.fnOf "_law_jobs" "_law_jobs" (defArgs (topS 62)) (defBody (topS 62)) (defScope (topS 62)) .none kV31 dc31 pm31 an31 cd31 ct31), sl31⟩)
    (q31 : PySem.W.codeIn K cd31 "_law_jobs" = true)
    (k31 : PySem.W.keepIn K (.ref f31) = true)
    (a32 : PySem.W.nsIn K mainGlobals "_law_policy" = some (some (.ref f32)))
    (l32 : K.lookup f32 = some ⟨oc32, od32, .func (PySem.W.fnOf "_law_policy" "_law_policy" (defArgs (topS 68)) (defBody (topS 68)) (defScope (topS 68)) .none kV32 dc32 pm32 an32 cd32 ct32), sl32⟩)
    (q32 : PySem.W.codeIn K cd32 "_law_policy" = true)
    (k32 : PySem.W.keepIn K (.ref f32) = true)
    (a33 : PySem.W.nsIn K mainGlobals "follows" = some (some (.ref f33)))
    (l33 : K.lookup f33 = some ⟨oc33, od33, .func (PySem.W.fnOf "follows" "follows" (defArgs (topS 10)) (defBody (topS 10)) (defScope (topS 10)) .none kV33 dc33 pm33 an33 cd33 ct33), sl33⟩)
    (q33 : PySem.W.codeIn K cd33 "follows" = true)
    (k33 : PySem.W.keepIn K (.ref f33) = true)
    (a34 : PySem.W.nsIn K mainGlobals "due" = some (some (.ref f34)))
    (l34 : K.lookup f34 = some ⟨oc34, od34, .func (PySem.W.fnOf "due" "due" (defArgs (topS 13)) (defBody (topS 13)) (defScope (topS 13)) .none kV34 dc34 pm34 an34 cd34 ct34), sl34⟩)
    (q34 : PySem.W.codeIn K cd34 "due" = true)
    (k34 : PySem.W.keepIn K (.ref f34) = true)
    (a35 : PySem.W.findIn K (.ref c_Task) "__init__" = some (some (.ref f35)))
    (i35 : PySem.W.isFn K (.ref f35) = true)
    (l35 : K.lookup f35 = some ⟨oc35, od35, .func (PySem.W.fnOf "__init__" "Task.__init__" (defArgs (inClass (topS 47) 0)) (defBody (inClass (topS 47) 0)) (defScope (inClass (topS 47) 0)) .none kV35 dc35 pm35 an35 cd35 ct35), sl35⟩)
    (q35 : PySem.W.codeIn K cd35 "Task.__init__" = true)
    (k35 : PySem.W.keepIn K (.ref f35) = true)
    (a36 : PySem.W.nsIn K mainGlobals "_law_world" = some (some (.ref f36)))
    (l36 : K.lookup f36 = some ⟨oc36, od36, .func (PySem.W.fnOf "_law_world" "_law_world" (defArgs (topS 58)) (defBody (topS 58)) (defScope (topS 58)) .none kV36 dc36 pm36 an36 cd36 ct36), sl36⟩)
    (q36 : PySem.W.codeIn K cd36 "_law_world" = true)
    (k36 : PySem.W.keepIn K (.ref f36) = true)
    (a37 : PySem.W.nsIn K mainGlobals "check_task_releases" = some (some (.ref f37)))
    (l37 : K.lookup f37 = some ⟨oc37, od37, .func (PySem.W.fnOf "check_task_releases" "check_task_releases" (defArgs (topS 12)) (defBody (topS 12)) (defScope (topS 12)) .none kV37 dc37 pm37 an37 cd37 ct37), sl37⟩)
    (q37 : PySem.W.codeIn K cd37 "check_task_releases" = true)
    (k37 : PySem.W.keepIn K (.ref f37) = true)
    (a38 : PySem.W.nsIn K mainGlobals "last_due" = some (some (.ref f38)))
    (l38 : K.lookup f38 = some ⟨oc38, od38, .func (PySem.W.fnOf "last_due" "last_due" (defArgs (topS 14)) (defBody (topS 14)) (defScope (topS 14)) .none kV38 dc38 pm38 an38 cd38 ct38), sl38⟩)
    (q38 : PySem.W.codeIn K cd38 "last_due" = true)
    (k38 : PySem.W.keepIn K (.ref f38) = true)
    (a39 : PySem.W.nsIn K mainGlobals "all_jobs" = some (some (.ref f39)))
    (l39 : K.lookup f39 = some ⟨oc39, od39, .func (PySem.W.fnOf "all_jobs" "all_jobs" (defArgs (topS 15)) (defBody (topS 15)) (defScope (topS 15)) .none kV39 dc39 pm39 an39 cd39 ct39), sl39⟩)
    (q39 : PySem.W.codeIn K cd39 "all_jobs" = true)
    (k39 : PySem.W.keepIn K (.ref f39) = true)
    (a40 : PySem.W.nsIn K mainGlobals "check_releases" = some (some (.ref f40)))
    (l40 : K.lookup f40 = some ⟨oc40, od40, .func (PySem.W.fnOf "check_releases" "check_releases" (defArgs (topS 11)) (defBody (topS 11)) (defScope (topS 11)) .none kV40 dc40 pm40 an40 cd40 ct40), sl40⟩)
    (q40 : PySem.W.codeIn K cd40 "check_releases" = true)
    (k40 : PySem.W.keepIn K (.ref f40) = true)
    (a41 : PySem.W.nsIn K mainGlobals "_law_system" = some (some (.ref f41)))
    (l41 : K.lookup f41 = some ⟨oc41, od41, .func (PySem.W.fnOf "_law_system" "_law_system" (defArgs (topS 59)) (defBody (topS 59)) (defScope (topS 59)) .none kV41 dc41 pm41 an41 cd41 ct41), sl41⟩)
    (q41 : PySem.W.codeIn K cd41 "_law_system" = true)
    (k41 : PySem.W.keepIn K (.ref f41) = true)
    (a42 : PySem.W.nsIn K mainGlobals "run" = some (some (.ref f42)))
    (l42 : K.lookup f42 = some ⟨oc42, od42, .func (PySem.W.fnOf "run" "run" (defArgs (topS 22)) (defBody (topS 22)) (defScope (topS 22)) .none kV42 dc42 pm42 an42 cd42 ct42), sl42⟩)
    (q42 : PySem.W.codeIn K cd42 "run" = true)
    (k42 : PySem.W.keepIn K (.ref f42) = true)
    (a43 : PySem.W.nsIn K mainGlobals "run_ranked" = some (some (.ref f43)))
    (l43 : K.lookup f43 = some ⟨oc43, od43, .func (PySem.W.fnOf "run_ranked" "run_ranked" (defArgs (topS 27)) (defBody (topS 27)) (defScope (topS 27)) .none kV43 dc43 pm43 an43 cd43 ct43), sl43⟩)
    (q43 : PySem.W.codeIn K cd43 "run_ranked" = true)
    (k43 : PySem.W.keepIn K (.ref f43) = true)
    (a44 : PySem.W.nsIn K mainGlobals "run_policy" = some (some (.ref f44)))
    (l44 : K.lookup f44 = some ⟨oc44, od44, .func (PySem.W.fnOf "run_policy" "run_policy" (defArgs (topS 28)) (defBody (topS 28)) (defScope (topS 28)) .none kV44 dc44 pm44 an44 cd44 ct44), sl44⟩)
    (q44 : PySem.W.codeIn K cd44 "run_policy" = true)
    (k44 : PySem.W.keepIn K (.ref f44) = true)
    (a45 : PySem.W.nsIn K mainGlobals "run_fixed" = some (some (.ref f45)))
    (l45 : K.lookup f45 = some ⟨oc45, od45, .func (PySem.W.fnOf "run_fixed" "run_fixed" (defArgs (topS 29)) (defBody (topS 29)) (defScope (topS 29)) .none kV45 dc45 pm45 an45 cd45 ct45), sl45⟩)
    (q45 : PySem.W.codeIn K cd45 "run_fixed" = true)
    (k45 : PySem.W.keepIn K (.ref f45) = true)
    (a46 : PySem.W.nsIn K mainGlobals "late_by_policy" = some (some (.ref f46)))
    (l46 : K.lookup f46 = some ⟨oc46, od46, .func (PySem.W.fnOf "late_by_policy" "late_by_policy" (defArgs (topS 30)) (defBody (topS 30)) (defScope (topS 30)) .none kV46 dc46 pm46 an46 cd46 ct46), sl46⟩)
    (q46 : PySem.W.codeIn K cd46 "late_by_policy" = true)
    (k46 : PySem.W.keepIn K (.ref f46) = true)
    (a47 : PySem.W.nsIn K mainGlobals "fixed_order" = some (some (.ref f47)))
    (l47 : K.lookup f47 = some ⟨oc47, od47, .func (PySem.W.fnOf "fixed_order" "fixed_order" (defArgs (topS 31)) (defBody (topS 31)) (defScope (topS 31)) .none kV47 dc47 pm47 an47 cd47 ct47), sl47⟩)
    (q47 : PySem.W.codeIn K cd47 "fixed_order" = true)
    (k47 : PySem.W.keepIn K (.ref f47) = true)
    (a48 : PySem.W.nsIn K mainGlobals "law" = some (some (.ref f48)))
    (l48 : K.lookup f48 = some ⟨oc48, od48, .func (PySem.W.fnOf "law" "law" (defArgs (topS 70)) (defBody (topS 70)) (defScope (topS 70)) .none kV48 dc48 pm48 an48 cd48 ct48), sl48⟩)
    (q48 : PySem.W.codeIn K cd48 "law" = true)
    (k48 : PySem.W.keepIn K (.ref f48) = true)
    (mk_Outcome : PySem.W.makesIn K c_Outcome = true)
    (kc_Outcome : PySem.W.keepIn K (.ref c_Outcome) = true)
    (pg_Outcome : PySem.W.plainGet K c_Outcome Str.empty = true)
    (hd_Outcome : PySem.W.hasDictIn K c_Outcome = true)
    (po_Outcome : PySem.W.plainOver K c_Outcome = true)
    (sa_Outcome : PySem.W.findIn K (.ref c_Outcome) "__setattr__" = some (some (.builtin "object.__setattr__")))
    (mk_Task : PySem.W.makesIn K c_Task = true)
    (kc_Task : PySem.W.keepIn K (.ref c_Task) = true)
    (pg_Task : PySem.W.plainGet K c_Task Str.empty = true)
    (hd_Task : PySem.W.hasDictIn K c_Task = true)
    (po_Task : PySem.W.plainOver K c_Task = true)
    (sa_Task : PySem.W.findIn K (.ref c_Task) "__setattr__" = some (some (.builtin "object.__setattr__")))
    (mk_System : PySem.W.makesIn K c_System = true)
    (kc_System : PySem.W.keepIn K (.ref c_System) = true)
    (pg_System : PySem.W.plainGet K c_System Str.empty = true)
    (hd_System : PySem.W.hasDictIn K c_System = true)
    (po_System : PySem.W.plainOver K c_System = true)
    (sa_System : PySem.W.findIn K (.ref c_System) "__setattr__" = some (some (.builtin "object.__setattr__")))
    (n_Outcome_ends : PySem.W.findIn K (.ref c_Outcome) "ends" = some none)
    (n_Outcome_late : PySem.W.findIn K (.ref c_Outcome) "late" = some none)
    (n_Outcome_slots : PySem.W.findIn K (.ref c_Outcome) "slots" = some none)
    (n_System_table : PySem.W.findIn K (.ref c_System) "table" = some none)
    (n_System_tasks : PySem.W.findIn K (.ref c_System) "tasks" = some none)
    (n_Task_kinds : PySem.W.findIn K (.ref c_Task) "kinds" = some none)
    (n_Task_name : PySem.W.findIn K (.ref c_Task) "name" = some none)
    (n_Task_ways : PySem.W.findIn K (.ref c_Task) "ways" = some none)
    (b_abs : PySem.W.nsIn K mainGlobals "abs" = some none)
    (b_all : PySem.W.nsIn K mainGlobals "all" = some none)
    (b_bool : PySem.W.nsIn K mainGlobals "bool" = some none)
    (b_enumerate : PySem.W.nsIn K mainGlobals "enumerate" = some none)
    (b_int : PySem.W.nsIn K mainGlobals "int" = some none)
    (b_isinstance : PySem.W.nsIn K mainGlobals "isinstance" = some none)
    (b_len : PySem.W.nsIn K mainGlobals "len" = some none)
    (b_list : PySem.W.nsIn K mainGlobals "list" = some none)
    (b_max : PySem.W.nsIn K mainGlobals "max" = some none)
    (b_min : PySem.W.nsIn K mainGlobals "min" = some none)
    (b_range : PySem.W.nsIn K mainGlobals "range" = some none)
    (b_sorted : PySem.W.nsIn K mainGlobals "sorted" = some none)
    (b_tuple : PySem.W.nsIn K mainGlobals "tuple" = some none)
    (g_permutations : PySem.W.nsIn K mainGlobals "permutations" = some (some (.type "itertools.permutations")))
    (v_MOST_CAPACITY : PySem.W.nsIn K mainGlobals "MOST_CAPACITY" = some (some (.int 1000000 t_MOST_CAPACITY)))
    (v_MOST_COST : PySem.W.nsIn K mainGlobals "MOST_COST" = some (some (.int 1000 t_MOST_COST)))
    (v_MOST_DEADLINE : PySem.W.nsIn K mainGlobals "MOST_DEADLINE" = some (some (.int 1000 t_MOST_DEADLINE)))
    (v_MOST_DISTANCE : PySem.W.nsIn K mainGlobals "MOST_DISTANCE" = some (some (.int 1000 t_MOST_DISTANCE)))
    (v_MOST_KINDS : PySem.W.nsIn K mainGlobals "MOST_KINDS" = some (some (.int 8 t_MOST_KINDS)))
    (v_MOST_NAME_CHARS : PySem.W.nsIn K mainGlobals "MOST_NAME_CHARS" = some (some (.int 12 t_MOST_NAME_CHARS)))
    (v_MOST_SLOTS : PySem.W.nsIn K mainGlobals "MOST_SLOTS" = some (some (.int 1001 t_MOST_SLOTS)))
    (v_MOST_TASKS : PySem.W.nsIn K mainGlobals "MOST_TASKS" = some (some (.int 6 t_MOST_TASKS)))
    (v_MOST_WAYS : PySem.W.nsIn K mainGlobals "MOST_WAYS" = some (some (.int 16 t_MOST_WAYS)))
    (v_NAME_CHARS : PySem.W.nsIn K mainGlobals "NAME_CHARS" = some (some (.str "abcdefghijklmnopqrstuvwxyz0123456789" t_NAME_CHARS)))
    (v_POLICIES : PySem.W.nsIn K mainGlobals "POLICIES" = some (some (.ref t_POLICIES)))
    (w_POLICIES : K.lookup t_POLICIES = some ⟨.type "tuple", od_POLICIES, .seq #[.str "deadline" tk0_POLICIES, .str "fixed" tk1_POLICIES, .str "arrival" tk2_POLICIES, .str "laxity" tk3_POLICIES] nn_POLICIES, sl_POLICIES⟩)
    : ∃ fd : FuncData, (∀ (s : Shared) (v : Value), BindsTo s fd ⟨[v], []⟩ [("_law_script", v)]) ∧ ∀ base : Heap, K.In base → base.Ns mainGlobals mg → FnOk l.prog w K mg base CX0 9 fa fd ["_law_script"] (spLaw K) := by
  have e := hfa.symm.trans (PySem.W.mg_of X G a48)
  cases e
  let A : Ad := { c_Outcome := c_Outcome, c_Task := c_Task, c_System := c_System, f_capacity := f0, fd_capacity := (PySem.W.fnOf "capacity" "capacity" (defArgs (topS 17)) (defBody (topS 17)) (defScope (topS 17)) .none kV0 dc0 pm0 an0 cd0 ct0), f_Outcome_init := f1, fd_Outcome_init := (PySem.W.fnOf "__init__" "Outcome.__init__" (defArgs (inClass (topS 19) 0)) (defBody (inClass (topS 19) 0)) (defScope (inClass (topS 19) 0)) .none kV1 dc1 pm1 an1 cd1 ct1), f_first_late := f2, fd_first_late := (PySem.W.fnOf "first_late" "first_late" (defArgs (topS 20)) (defBody (topS 20)) (defScope (topS 20)) .none kV2 dc2 pm2 an2 cd2 ct2), f_serve := f3, fd_serve := (PySem.W.fnOf "serve" "serve" (defArgs (topS 21)) (defBody (topS 21)) (defScope (topS 21)) .none kV3 dc3 pm3 an3 cd3 ct3), f_rank := f4, fd_rank := (PySem.W.fnOf "rank" "rank" (defArgs (topS 25)) (defBody (topS 25)) (defScope (topS 25)) .none kV4 dc4 pm4 an4 cd4 ct4), f_is_name := f5, fd_is_name := (PySem.W.fnOf "is_name" "is_name" (defArgs (topS 43)) (defBody (topS 43)) (defScope (topS 43)) .none kV5 dc5 pm5 an5 cd5 ct5), f_are_ways := f6, fd_are_ways := (PySem.W.fnOf "are_ways" "are_ways" (defArgs (topS 45)) (defBody (topS 45)) (defScope (topS 45)) .none kV6 dc6 pm6 an6 cd6 ct6), f_is_table := f7, fd_is_table := (PySem.W.fnOf "is_table" "is_table" (defArgs (topS 46)) (defBody (topS 46)) (defScope (topS 46)) .none kV7 dc7 pm7 an7 cd7 ct7), f_Task_kind_number := f8, fd_Task_kind_number := (PySem.W.fnOf "kind_number" "Task.kind_number" (defArgs (inClass (topS 47) 3)) (defBody (inClass (topS 47) 3)) (defScope (inClass (topS 47) 3)) .none kV8 dc8 pm8 an8 cd8 ct8), f_law_row := f9, fd_law_row := (PySem.W.fnOf "_law_row" "_law_row" (defArgs (topS 50)) (defBody (topS 50)) (defScope (topS 50)) .none kV9 dc9 pm9 an9 cd9 ct9), f_law_word := f10, fd_law_word := (PySem.W.fnOf "_law_word" "_law_word" (defArgs (topS 52)) (defBody (topS 52)) (defScope (topS 52)) .none kV10 dc10 pm10 an10 cd10 ct10), f_law_named := f11, fd_law_named := (PySem.W.fnOf "_law_named" "_law_named" (defArgs (topS 53)) (defBody (topS 53)) (defScope (topS 53)) .none kV11 dc11 pm11 an11 cd11 ct11), f_law_ways := f12, fd_law_ways := (PySem.W.fnOf "_law_ways" "_law_ways" (defArgs (topS 55)) (defBody (topS 55)) (defScope (topS 55)) .none kV12 dc12 pm12 an12 cd12 ct12), f_law_course := f13, fd_law_course := (PySem.W.fnOf "_law_course" "_law_course" (defArgs (topS 56)) (defBody (topS 56)) (defScope (topS 56)) .none kV13 dc13 pm13 an13 cd13 ct13), f_law_table := f14, fd_law_table := (PySem.W.fnOf "_law_table" "_law_table" (defArgs (topS 57)) (defBody (topS 57)) (defScope (topS 57)) .none kV14 dc14 pm14 an14 cd14 ct14), f_law_copy := f15, fd_law_copy := (PySem.W.fnOf "_law_copy" "_law_copy" (defArgs (topS 60)) (defBody (topS 60)) (defScope (topS 60)) .none kV15 dc15 pm15 an15 cd15 ct15), f_law_kind := f16, fd_law_kind := (PySem.W.fnOf "_law_kind" "_law_kind" (defArgs (topS 61)) (defBody (topS 61)) (defScope (topS 61)) .none kV16 dc16 pm16 an16 cd16 ct16), f_law_last := f17, fd_law_last := (PySem.W.fnOf "_law_last" "_law_last" (defArgs (topS 63)) (defBody (topS 63)) (defScope (topS 63)) .none kV17 dc17 pm17 an17 cd17 ct17), f_law_ends := f18, fd_law_ends := (PySem.W.fnOf "_law_ends" "_law_ends" (defArgs (topS 64)) (defBody (topS 64)) (defScope (topS 64)) .none kV18 dc18 pm18 an18 cd18 ct18), f_law_late := f19, fd_law_late := (PySem.W.fnOf "_law_late" "_law_late" (defArgs (topS 65)) (defBody (topS 65)) (defScope (topS 65)) .none kV19 dc19 pm19 an19 cd19 ct19), f_law_is_integer := f20, fd_law_is_integer := (PySem.W.fnOf "_law_is_integer" "_law_is_integer" (defArgs (topS 66)) (defBody (topS 66)) (defScope (topS 66)) .none kV20 dc20 pm20 an20 cd20 ct20), f_law_rank := f21, fd_law_rank := (PySem.W.fnOf "_law_rank" "_law_rank" (defArgs (topS 67)) (defBody (topS 67)) (defScope (topS 67)) .none kV21 dc21 pm21 an21 cd21 ct21), f_law_orders := f22, fd_law_orders := (PySem.W.fnOf "_law_orders" "_law_orders" (defArgs (topS 69)) (defBody (topS 69)) (defScope (topS 69)) .none kV22 dc22 pm22 an22 cd22 ct22), f_ready_places := f23, fd_ready_places := (PySem.W.fnOf "ready_places" "ready_places" (defArgs (topS 26)) (defBody (topS 26)) (defScope (topS 26)) .none kV23 dc23 pm23 an23 cd23 ct23), f_are_kinds := f24, fd_are_kinds := (PySem.W.fnOf "are_kinds" "are_kinds" (defArgs (topS 44)) (defBody (topS 44)) (defScope (topS 44)) .none kV24 dc24 pm24 an24 cd24 ct24), f_Task_cost := f25, fd_Task_cost := (PySem.W.fnOf "cost" "Task.cost" (defArgs (inClass (topS 47) 4)) (defBody (inClass (topS 47) 4)) (defScope (inClass (topS 47) 4)) .none kV25 dc25 pm25 an25 cd25 ct25), f_Task_deadline := f26, fd_Task_deadline := (PySem.W.fnOf "deadline" "Task.deadline" (defArgs (inClass (topS 47) 5)) (defBody (inClass (topS 47) 5)) (defScope (inClass (topS 47) 5)) .none kV26 dc26 pm26 an26 cd26 ct26), f_Task_ways_from := f27, fd_Task_ways_from := (PySem.W.fnOf "ways_from" "Task.ways_from" (defArgs (inClass (topS 47) 6)) (defBody (inClass (topS 47) 6)) (defScope (inClass (topS 47) 6)) .none kV27 dc27 pm27 an27 cd27 ct27), f_System_init := f28, fd_System_init := (PySem.W.fnOf "__init__" "System.__init__" (defArgs (inClass (topS 48) 0)) (defBody (inClass (topS 48) 0)) (defScope (inClass (topS 48) 0)) .none kV28 dc28 pm28 an28 cd28 ct28), f_law_numbers := f29, fd_law_numbers := (PySem.W.fnOf "_law_numbers" "_law_numbers" (defArgs (topS 51)) (defBody (topS 51)) (defScope (topS 51)) .none kV29 dc29 pm29 an29 cd29 ct29), f_law_kinds := f30, fd_law_kinds := (PySem.W.fnOf "_law_kinds" "_law_kinds" (defArgs (topS 54)) (defBody (topS 54)) (defScope (topS 54)) .none kV30 dc30 pm30 an30 cd30 ct30), f_law_jobs := f31, fd_law_jobs := (PySem.W.fnOf "_law_jobs" "_law_jobs" (defArgs (topS 62)) (defBody (topS 62)) (defScope (topS 62)) .none kV31 dc31 pm31 an31 cd31 ct31), f_law_policy := f32, fd_law_policy := (PySem.W.fnOf "_law_policy" "_law_policy" (defArgs (topS 68)) (defBody (topS 68)) (defScope (topS 68)) .none kV32 dc32 pm32 an32 cd32 ct32), f_follows := f33, fd_follows := (PySem.W.fnOf "follows" "follows" (defArgs (topS 10)) (defBody (topS 10)) (defScope (topS 10)) .none kV33 dc33 pm33 an33 cd33 ct33), f_due := f34, fd_due := (PySem.W.fnOf "due" "due" (defArgs (topS 13)) (defBody (topS 13)) (defScope (topS 13)) .none kV34 dc34 pm34 an34 cd34 ct34), f_Task_init := f35, fd_Task_init := (PySem.W.fnOf "__init__" "Task.__init__" (defArgs (inClass (topS 47) 0)) (defBody (inClass (topS 47) 0)) (defScope (inClass (topS 47) 0)) .none kV35 dc35 pm35 an35 cd35 ct35), f_law_world := f36, fd_law_world := (PySem.W.fnOf "_law_world" "_law_world" (defArgs (topS 58)) (defBody (topS 58)) (defScope (topS 58)) .none kV36 dc36 pm36 an36 cd36 ct36), f_check_task_releases := f37, fd_check_task_releases := (PySem.W.fnOf "check_task_releases" "check_task_releases" (defArgs (topS 12)) (defBody (topS 12)) (defScope (topS 12)) .none kV37 dc37 pm37 an37 cd37 ct37), f_last_due := f38, fd_last_due := (PySem.W.fnOf "last_due" "last_due" (defArgs (topS 14)) (defBody (topS 14)) (defScope (topS 14)) .none kV38 dc38 pm38 an38 cd38 ct38), f_all_jobs := f39, fd_all_jobs := (PySem.W.fnOf "all_jobs" "all_jobs" (defArgs (topS 15)) (defBody (topS 15)) (defScope (topS 15)) .none kV39 dc39 pm39 an39 cd39 ct39), f_check_releases := f40, fd_check_releases := (PySem.W.fnOf "check_releases" "check_releases" (defArgs (topS 11)) (defBody (topS 11)) (defScope (topS 11)) .none kV40 dc40 pm40 an40 cd40 ct40), f_law_system := f41, fd_law_system := (PySem.W.fnOf "_law_system" "_law_system" (defArgs (topS 59)) (defBody (topS 59)) (defScope (topS 59)) .none kV41 dc41 pm41 an41 cd41 ct41), f_run := f42, fd_run := (PySem.W.fnOf "run" "run" (defArgs (topS 22)) (defBody (topS 22)) (defScope (topS 22)) .none kV42 dc42 pm42 an42 cd42 ct42), f_run_ranked := f43, fd_run_ranked := (PySem.W.fnOf "run_ranked" "run_ranked" (defArgs (topS 27)) (defBody (topS 27)) (defScope (topS 27)) .none kV43 dc43 pm43 an43 cd43 ct43), f_run_policy := f44, fd_run_policy := (PySem.W.fnOf "run_policy" "run_policy" (defArgs (topS 28)) (defBody (topS 28)) (defScope (topS 28)) .none kV44 dc44 pm44 an44 cd44 ct44), f_run_fixed := f45, fd_run_fixed := (PySem.W.fnOf "run_fixed" "run_fixed" (defArgs (topS 29)) (defBody (topS 29)) (defScope (topS 29)) .none kV45 dc45 pm45 an45 cd45 ct45), f_late_by_policy := f46, fd_late_by_policy := (PySem.W.fnOf "late_by_policy" "late_by_policy" (defArgs (topS 30)) (defBody (topS 30)) (defScope (topS 30)) .none kV46 dc46 pm46 an46 cd46 ct46), f_fixed_order := f47, fd_fixed_order := (PySem.W.fnOf "fixed_order" "fixed_order" (defArgs (topS 31)) (defBody (topS 31)) (defScope (topS 31)) .none kV47 dc47 pm47 an47 cd47 ct47), f_law := fa, fd_law := (PySem.W.fnOf "law" "law" (defArgs (topS 70)) (defBody (topS 70)) (defScope (topS 70)) .none kV48 dc48 pm48 an48 cd48 ct48), t_POLICIES := t_POLICIES }
  have T : Fx l.prog K mg A := ⟨fun_mk l0 q0 k0,
    PySem.W.mg_of X G a0,
    fun_mk l1 q1 k1,
    ⟨mk_Outcome, a1, i1, kc_Outcome⟩,
    fun_mk l2 q2 k2,
    PySem.W.mg_of X G a2,
    fun_mk l3 q3 k3,
    PySem.W.mg_of X G a3,
    fun_mk l4 q4 k4,
    PySem.W.mg_of X G a4,
    fun_mk l5 q5 k5,
    PySem.W.mg_of X G a5,
    fun_mk l6 q6 k6,
    PySem.W.mg_of X G a6,
    fun_mk l7 q7 k7,
    PySem.W.mg_of X G a7,
    fun_mk l8 q8 k8,
    ⟨a8, i8, k8⟩,
    fun_mk l9 q9 k9,
    PySem.W.mg_of X G a9,
    fun_mk l10 q10 k10,
    PySem.W.mg_of X G a10,
    fun_mk l11 q11 k11,
    PySem.W.mg_of X G a11,
    fun_mk l12 q12 k12,
    PySem.W.mg_of X G a12,
    fun_mk l13 q13 k13,
    PySem.W.mg_of X G a13,
    fun_mk l14 q14 k14,
    PySem.W.mg_of X G a14,
    fun_mk l15 q15 k15,
    PySem.W.mg_of X G a15,
    fun_mk l16 q16 k16,
    PySem.W.mg_of X G a16,
    fun_mk l17 q17 k17,
    PySem.W.mg_of X G a17,
    fun_mk l18 q18 k18,
    PySem.W.mg_of X G a18,
    fun_mk l19 q19 k19,
    PySem.W.mg_of X G a19,
    fun_mk l20 q20 k20,
    PySem.W.mg_of X G a20,
    fun_mk l21 q21 k21,
    PySem.W.mg_of X G a21,
    fun_mk l22 q22 k22,
    PySem.W.mg_of X G a22,
    fun_mk l23 q23 k23,
    PySem.W.mg_of X G a23,
    fun_mk l24 q24 k24,
    PySem.W.mg_of X G a24,
    fun_mk l25 q25 k25,
    ⟨a25, i25, k25⟩,
    fun_mk l26 q26 k26,
    ⟨a26, i26, k26⟩,
    fun_mk l27 q27 k27,
    ⟨a27, i27, k27⟩,
    fun_mk l28 q28 k28,
    ⟨mk_System, a28, i28, kc_System⟩,
    fun_mk l29 q29 k29,
    PySem.W.mg_of X G a29,
    fun_mk l30 q30 k30,
    PySem.W.mg_of X G a30,
    fun_mk l31 q31 k31,
    PySem.W.mg_of X G a31,
    fun_mk l32 q32 k32,
    PySem.W.mg_of X G a32,
    fun_mk l33 q33 k33,
    PySem.W.mg_of X G a33,
    fun_mk l34 q34 k34,
    PySem.W.mg_of X G a34,
    fun_mk l35 q35 k35,
    ⟨mk_Task, a35, i35, kc_Task⟩,
    fun_mk l36 q36 k36,
    PySem.W.mg_of X G a36,
    fun_mk l37 q37 k37,
    PySem.W.mg_of X G a37,
    fun_mk l38 q38 k38,
    PySem.W.mg_of X G a38,
    fun_mk l39 q39 k39,
    PySem.W.mg_of X G a39,
    fun_mk l40 q40 k40,
    PySem.W.mg_of X G a40,
    fun_mk l41 q41 k41,
    PySem.W.mg_of X G a41,
    fun_mk l42 q42 k42,
    PySem.W.mg_of X G a42,
    fun_mk l43 q43 k43,
    PySem.W.mg_of X G a43,
    fun_mk l44 q44 k44,
    PySem.W.mg_of X G a44,
    fun_mk l45 q45 k45,
    PySem.W.mg_of X G a45,
    fun_mk l46 q46 k46,
    PySem.W.mg_of X G a46,
    fun_mk l47 q47 k47,
    PySem.W.mg_of X G a47,
    fun_mk l48 q48 k48,
    PySem.W.mg_of X G a48,
    ⟨pg_Outcome, hd_Outcome, po_Outcome, sa_Outcome⟩,
    PySem.W.mg_of X G g_Outcome,
    ⟨pg_Task, hd_Task, po_Task, sa_Task⟩,
    PySem.W.mg_of X G g_Task,
    ⟨pg_System, hd_System, po_System, sa_System⟩,
    PySem.W.mg_of X G g_System,
    n_Outcome_ends,
    n_Outcome_late,
    n_Outcome_slots,
    n_System_table,
    n_System_tasks,
    n_Task_kinds,
    n_Task_name,
    n_Task_ways,
    PySem.W.mg_none_of X G b_abs,
    PySem.W.mg_none_of X G b_all,
    PySem.W.mg_none_of X G b_bool,
    PySem.W.mg_none_of X G b_enumerate,
    PySem.W.mg_none_of X G b_int,
    PySem.W.mg_none_of X G b_isinstance,
    PySem.W.mg_none_of X G b_len,
    PySem.W.mg_none_of X G b_list,
    PySem.W.mg_none_of X G b_max,
    PySem.W.mg_none_of X G b_min,
    PySem.W.mg_none_of X G b_range,
    PySem.W.mg_none_of X G b_sorted,
    PySem.W.mg_none_of X G b_tuple,
    PySem.W.mg_of X G g_permutations,
    ⟨_, PySem.W.mg_of X G v_MOST_CAPACITY⟩,
    ⟨_, PySem.W.mg_of X G v_MOST_COST⟩,
    ⟨_, PySem.W.mg_of X G v_MOST_DEADLINE⟩,
    ⟨_, PySem.W.mg_of X G v_MOST_DISTANCE⟩,
    ⟨_, PySem.W.mg_of X G v_MOST_KINDS⟩,
    ⟨_, PySem.W.mg_of X G v_MOST_NAME_CHARS⟩,
    ⟨_, PySem.W.mg_of X G v_MOST_SLOTS⟩,
    ⟨_, PySem.W.mg_of X G v_MOST_TASKS⟩,
    ⟨_, PySem.W.mg_of X G v_MOST_WAYS⟩,
    ⟨_, PySem.W.mg_of X G v_NAME_CHARS⟩,
    PySem.W.mg_of X G v_POLICIES,
    ⟨_, _, _, w_POLICIES, rfl, rfl, (by show 4 ≤ sizeLine; decide), (.cons ⟨_, rfl⟩ (.cons ⟨_, rfl⟩ (.cons ⟨_, rfl⟩ (.cons ⟨_, rfl⟩ .nil))))⟩⟩
  refine ⟨(PySem.W.fnOf "law" "law" (defArgs (topS 70)) (defBody (topS 70)) (defScope (topS 70)) .none kV48 dc48 pm48 an48 cd48 ct48), fun s v => .of_eq rfl, fun base _ _ => ?_⟩
  refine (ok_law (P := l.prog) (w := w) (base := base) A T).imp ?_
  rintro vs H Q E ⟨a, ns, rfl, hS, hl, q⟩
  refine ⟨H, [.scr ns], .bl true, Same.refl H, .cons (.scr hS) .nil, law_true ns hl, fun v H' F' _ r => ?_⟩
  cases r
  exact q H'
end G88

open PySem PySem.W PyProof.Rows L2
set_option maxRecDepth 100000 in
set_option maxHeartbeats 0 in
theorem PySem.Challenge.cw_neverlate_k88_whole_no_policy_keeps_more_holds : PySem.Challenge.rw_neverlate_k88_whole_no_policy_keeps_more.Holds := by
  w_on; o_law; k_head; (case hw => w_witness2)
  k_fill
  refine L2.walk_of (l := PySem.Challenge.rw_neverlate_k88_whole_no_policy_keeps_more) (n := 63) (k := 9) (x := "_law_script") (CX := fun _ => L2.CX0) (sp := fun w => G88.spLaw _) rfl (by decide) rfl ⟨rfl, by decide, by decide⟩ (fun w h Y => PySem.W.kIn_of Y) ?F (fun _ _ a ns hl _ hS => ⟨a, ns, rfl, hS, hl, fun _ => rfl⟩) (fun _ _ _ _ _ h => h)
  case F =>
    intro w mg fa h KX G hmg
    refine' G88.all_mk G88.law_true KX G hmg ?g_Outcome ?g_Task ?g_System ?a0 ?l0 ?q0 ?k0 ?a1 ?i1 ?l1 ?q1 ?k1 ?a2 ?l2 ?q2 ?k2 ?a3 ?l3 ?q3 ?k3 ?a4 ?l4 ?q4 ?k4 ?a5 ?l5 ?q5 ?k5 ?a6 ?l6 ?q6 ?k6 ?a7 ?l7 ?q7 ?k7 ?a8 ?i8 ?l8 ?q8 ?k8 ?a9 ?l9 ?q9 ?k9 ?a10 ?l10 ?q10 ?k10 ?a11 ?l11 ?q11 ?k11 ?a12 ?l12 ?q12 ?k12 ?a13 ?l13 ?q13 ?k13 ?a14 ?l14 ?q14 ?k14 ?a15 ?l15 ?q15 ?k15 ?a16 ?l16 ?q16 ?k16 ?a17 ?l17 ?q17 ?k17 ?a18 ?l18 ?q18 ?k18 ?a19 ?l19 ?q19 ?k19 ?a20 ?l20 ?q20 ?k20 ?a21 ?l21 ?q21 ?k21 ?a22 ?l22 ?q22 ?k22 ?a23 ?l23 ?q23 ?k23 ?a24 ?l24 ?q24 ?k24 ?a25 ?i25 ?l25 ?q25 ?k25 ?a26 ?i26 ?l26 ?q26 ?k26 ?a27 ?i27 ?l27 ?q27 ?k27 ?a28 ?i28 ?l28 ?q28 ?k28 ?a29 ?l29 ?q29 ?k29 ?a30 ?l30 ?q30 ?k30 ?a31 ?l31 ?q31 ?k31 ?a32 ?l32 ?q32 ?k32 ?a33 ?l33 ?q33 ?k33 ?a34 ?l34 ?q34 ?k34 ?a35 ?i35 ?l35 ?q35 ?k35 ?a36 ?l36 ?q36 ?k36 ?a37 ?l37 ?q37 ?k37 ?a38 ?l38 ?q38 ?k38 ?a39 ?l39 ?q39 ?k39 ?a40 ?l40 ?q40 ?k40 ?a41 ?l41 ?q41 ?k41 ?a42 ?l42 ?q42 ?k42 ?a43 ?l43 ?q43 ?k43 ?a44 ?l44 ?q44 ?k44 ?a45 ?l45 ?q45 ?k45 ?a46 ?l46 ?q46 ?k46 ?a47 ?l47 ?q47 ?k47 ?a48 ?l48 ?q48 ?k48 ?mk_Outcome ?kc_Outcome ?pg_Outcome ?hd_Outcome ?po_Outcome ?sa_Outcome ?mk_Task ?kc_Task ?pg_Task ?hd_Task ?po_Task ?sa_Task ?mk_System ?kc_System ?pg_System ?hd_System ?po_System ?sa_System ?n_Outcome_ends ?n_Outcome_late ?n_Outcome_slots ?n_System_table ?n_System_tasks ?n_Task_kinds ?n_Task_name ?n_Task_ways ?b_abs ?b_all ?b_bool ?b_enumerate ?b_int ?b_isinstance ?b_len ?b_list ?b_max ?b_min ?b_range ?b_sorted ?b_tuple ?g_permutations ?v_MOST_CAPACITY ?v_MOST_COST ?v_MOST_DEADLINE ?v_MOST_DISTANCE ?v_MOST_KINDS ?v_MOST_NAME_CHARS ?v_MOST_SLOTS ?v_MOST_TASKS ?v_MOST_WAYS ?v_NAME_CHARS ?v_POLICIES ?w_POLICIES
    (case g_Outcome => k_is)
    (case g_Task => k_is)
    (case g_System => k_is)
    (case a0 => k_is)
    (case l0 => k_is)
    (case q0 => k_is)
    (case k0 => k_is)
    (case a1 => k_is)
    (case i1 => k_is)
    (case l1 => k_is)
    (case q1 => k_is)
    (case k1 => k_is)
    (case a2 => k_is)
    (case l2 => k_is)
    (case q2 => k_is)
    (case k2 => k_is)
    (case a3 => k_is)
    (case l3 => k_is)
    (case q3 => k_is)
    (case k3 => k_is)
    (case a4 => k_is)
    (case l4 => k_is)
    (case q4 => k_is)
    (case k4 => k_is)
    (case a5 => k_is)
    (case l5 => k_is)
    (case q5 => k_is)
    (case k5 => k_is)
    (case a6 => k_is)
    (case l6 => k_is)
    (case q6 => k_is)
    (case k6 => k_is)
    (case a7 => k_is)
    (case l7 => k_is)
    (case q7 => k_is)
    (case k7 => k_is)
    (case a8 => k_is)
    (case i8 => k_is)
    (case l8 => k_is)
    (case q8 => k_is)
    (case k8 => k_is)
    (case a9 => k_is)
    (case l9 => k_is)
    (case q9 => k_is)
    (case k9 => k_is)
    (case a10 => k_is)
    (case l10 => k_is)
    (case q10 => k_is)
    (case k10 => k_is)
    (case a11 => k_is)
    (case l11 => k_is)
    (case q11 => k_is)
    (case k11 => k_is)
    (case a12 => k_is)
    (case l12 => k_is)
    (case q12 => k_is)
    (case k12 => k_is)
    (case a13 => k_is)
    (case l13 => k_is)
    (case q13 => k_is)
    (case k13 => k_is)
    (case a14 => k_is)
    (case l14 => k_is)
    (case q14 => k_is)
    (case k14 => k_is)
    (case a15 => k_is)
    (case l15 => k_is)
    (case q15 => k_is)
    (case k15 => k_is)
    (case a16 => k_is)
    (case l16 => k_is)
    (case q16 => k_is)
    (case k16 => k_is)
    (case a17 => k_is)
    (case l17 => k_is)
    (case q17 => k_is)
    (case k17 => k_is)
    (case a18 => k_is)
    (case l18 => k_is)
    (case q18 => k_is)
    (case k18 => k_is)
    (case a19 => k_is)
    (case l19 => k_is)
    (case q19 => k_is)
    (case k19 => k_is)
    (case a20 => k_is)
    (case l20 => k_is)
    (case q20 => k_is)
    (case k20 => k_is)
    (case a21 => k_is)
    (case l21 => k_is)
    (case q21 => k_is)
    (case k21 => k_is)
    (case a22 => k_is)
    (case l22 => k_is)
    (case q22 => k_is)
    (case k22 => k_is)
    (case a23 => k_is)
    (case l23 => k_is)
    (case q23 => k_is)
    (case k23 => k_is)
    (case a24 => k_is)
    (case l24 => k_is)
    (case q24 => k_is)
    (case k24 => k_is)
    (case a25 => k_is)
    (case i25 => k_is)
    (case l25 => k_is)
    (case q25 => k_is)
    (case k25 => k_is)
    (case a26 => k_is)
    (case i26 => k_is)
    (case l26 => k_is)
    (case q26 => k_is)
    (case k26 => k_is)
    (case a27 => k_is)
    (case i27 => k_is)
    (case l27 => k_is)
    (case q27 => k_is)
    (case k27 => k_is)
    (case a28 => k_is)
    (case i28 => k_is)
    (case l28 => k_is)
    (case q28 => k_is)
    (case k28 => k_is)
    (case a29 => k_is)
    (case l29 => k_is)
    (case q29 => k_is)
    (case k29 => k_is)
    (case a30 => k_is)
    (case l30 => k_is)
    (case q30 => k_is)
    (case k30 => k_is)
    (case a31 => k_is)
    (case l31 => k_is)
    (case q31 => k_is)
    (case k31 => k_is)
    (case a32 => k_is)
    (case l32 => k_is)
    (case q32 => k_is)
    (case k32 => k_is)
    (case a33 => k_is)
    (case l33 => k_is)
    (case q33 => k_is)
    (case k33 => k_is)
    (case a34 => k_is)
    (case l34 => k_is)
    (case q34 => k_is)
    (case k34 => k_is)
    (case a35 => k_is)
    (case i35 => k_is)
    (case l35 => k_is)
    (case q35 => k_is)
    (case k35 => k_is)
    (case a36 => k_is)
    (case l36 => k_is)
    (case q36 => k_is)
    (case k36 => k_is)
    (case a37 => k_is)
    (case l37 => k_is)
    (case q37 => k_is)
    (case k37 => k_is)
    (case a38 => k_is)
    (case l38 => k_is)
    (case q38 => k_is)
    (case k38 => k_is)
    (case a39 => k_is)
    (case l39 => k_is)
    (case q39 => k_is)
    (case k39 => k_is)
    (case a40 => k_is)
    (case l40 => k_is)
    (case q40 => k_is)
    (case k40 => k_is)
    (case a41 => k_is)
    (case l41 => k_is)
    (case q41 => k_is)
    (case k41 => k_is)
    (case a42 => k_is)
    (case l42 => k_is)
    (case q42 => k_is)
    (case k42 => k_is)
    (case a43 => k_is)
    (case l43 => k_is)
    (case q43 => k_is)
    (case k43 => k_is)
    (case a44 => k_is)
    (case l44 => k_is)
    (case q44 => k_is)
    (case k44 => k_is)
    (case a45 => k_is)
    (case l45 => k_is)
    (case q45 => k_is)
    (case k45 => k_is)
    (case a46 => k_is)
    (case l46 => k_is)
    (case q46 => k_is)
    (case k46 => k_is)
    (case a47 => k_is)
    (case l47 => k_is)
    (case q47 => k_is)
    (case k47 => k_is)
    (case a48 => k_is)
    (case l48 => k_is)
    (case q48 => k_is)
    (case k48 => k_is)
    (case mk_Outcome => k_is)
    (case kc_Outcome => k_is)
    (case pg_Outcome => k_is)
    (case hd_Outcome => k_is)
    (case po_Outcome => k_is)
    (case sa_Outcome => k_is)
    (case mk_Task => k_is)
    (case kc_Task => k_is)
    (case pg_Task => k_is)
    (case hd_Task => k_is)
    (case po_Task => k_is)
    (case sa_Task => k_is)
    (case mk_System => k_is)
    (case kc_System => k_is)
    (case pg_System => k_is)
    (case hd_System => k_is)
    (case po_System => k_is)
    (case sa_System => k_is)
    (case n_Outcome_ends => k_is)
    (case n_Outcome_late => k_is)
    (case n_Outcome_slots => k_is)
    (case n_System_table => k_is)
    (case n_System_tasks => k_is)
    (case n_Task_kinds => k_is)
    (case n_Task_name => k_is)
    (case n_Task_ways => k_is)
    (case b_abs => k_is)
    (case b_all => k_is)
    (case b_bool => k_is)
    (case b_enumerate => k_is)
    (case b_int => k_is)
    (case b_isinstance => k_is)
    (case b_len => k_is)
    (case b_list => k_is)
    (case b_max => k_is)
    (case b_min => k_is)
    (case b_range => k_is)
    (case b_sorted => k_is)
    (case b_tuple => k_is)
    (case g_permutations => k_is)
    (case v_MOST_CAPACITY => k_is)
    (case v_MOST_COST => k_is)
    (case v_MOST_DEADLINE => k_is)
    (case v_MOST_DISTANCE => k_is)
    (case v_MOST_KINDS => k_is)
    (case v_MOST_NAME_CHARS => k_is)
    (case v_MOST_SLOTS => k_is)
    (case v_MOST_TASKS => k_is)
    (case v_MOST_WAYS => k_is)
    (case v_NAME_CHARS => k_is)
    (case v_POLICIES => k_is)
    (case w_POLICIES => k_is)
