import PyProof.Rows.All
import Wide.All
import OpenK.AllK
import Wide.FinOn
import HandS.ForMost
import HandS.Star
import HandS.Walk
import KE.GoesEnum
import HandS.Zip
import HandS.Style
import HandS.Defaults
import HandS.WordsExc
import HandS.TupAny
import HandS.Wide
import HandS.SetFor
import HandS.IsInst
import KE.DataMinMax
import PyProof.ReprRoads
import HandS.Conv
import HandS.Rev
import HandS.Comp
import HandS.Iter
import HandS.More
import HandS.Ends
import HandS.HeadHook3
import HandS.Head0
import HandS.Head1
import HandS.Head2
import HandS.HeadEnd
import HandS.HeadHook1
import HandS.HeadHook2
import HandS.Codes
import PyProof.ReprLen
import PySem.Challenge.RW_everyslipcaught_k62_whole_fairness_of_fi
set_option Elab.async false
set_option linter.all false
section
set_option maxRecDepth 100000
set_option maxHeartbeats 4000000
namespace Pv
open PySem PySem.Spec L2

/-! ### plain data -/
inductive D where
  | non | bl (b : Bool) | int (i : Int) | str (x : Str)
  | tup (xs : List D) | lst (xs : List D) | scr (xs : List D)
  | dk (kvs : List (Key × D)) | dt (kvs : List (List Key × D))
deriving Inhabited

abbrev Fr := PySem.W.Frag
/-- a part of a heap -/
abbrev Sub (F H : Hp) : Prop := ∀ b o, F b = some o → H b = some o
theorem Sub.refl (F : Hp) : Sub F F := fun _ _ e => e
theorem Sub.trans {F G H : Hp} (a : Sub F G) (b : Sub G H) : Sub F H := fun c o e => b c o (a c o e)
theorem Sub.none {F H : Hp} (a : Sub F H) {b : Addr} (h : H b = Option.none) : F b = Option.none := by
  cases e : F b with
  | none => rfl
  | some o => rw [a b o e] at h; cases h
theorem Sub.upd {H : Hp} {a : Addr} {o : HO} (h : H a = Option.none) : Sub H (upd H a o) := fun b x e => by
  rw [upd_ne (ne_of_none e h)]; exact e
theorem Sub.seqL {K : Fr} {F H : Hp} (s : Sub F H) {a : Addr} {xs : List V} (h : SqL K F a xs) : SqL K H a xs := by
  rcases h with (h | ⟨o, h⟩) | h
  · exact .inl (.inl (s _ _ h))
  · exact .inl (.inr ⟨o, s _ _ h⟩)
  · exact .inr h
theorem Sub.rd {F H : Hp} (s : Sub F H) {a : Addr} {u : HO} (h : L2.Rd F a u) : L2.Rd H a u := by
  rcases h with h | ⟨o, h⟩
  · exact .inl (s _ _ h)
  · exact .inr ⟨o, s _ _ h⟩
theorem Sub.seqT {K : Fr} {F H : Hp} (s : Sub F H) {a : Addr} {xs : List V} (h : SqT K F a xs) : SqT K H a xs := by
  rcases h with (h | ⟨o, h⟩) | h
  · exact .inl (.inl (s _ _ h))
  · exact .inl (.inr ⟨o, s _ _ h⟩)
  · exact .inr h

mutual
inductive Den (K : Fr) (F : Hp) : D → V → Prop
  | non : Den K F .non .non
  | bl (b : Bool) : Den K F (.bl b) (.bl b)
  | int (i : Int) : Den K F (.int i) (.int i)
  | str (x : Str) : Den K F (.str x) (.str x)
  | tup {a : Addr} {xs : List V} {ds : List D} : SqT K F a xs → Dens K F ds xs → Den K F (.tup ds) (.ref a)
  | lst {a : Addr} {xs : List V} {ds : List D} : L2.Rd F a (.lst xs) → Dens K F ds xs → Den K F (.lst ds) (.ref a)
  | scr {a : Addr} {xs : List V} {ds : List D} : SqL K F a xs → Dens K F ds xs → Den K F (.scr ds) (.ref a)
  | dk {a : Addr} {o : Obj} {es : List (Key × D)} {kvs : List (Key × V)} : F a = some (.frz o (.dK kvs)) → DenK K F es kvs → Den K F (.dk es) (.ref a)
  | dt {a : Addr} {o : Obj} {es : List (List Key × D)} {kvs : List (List Key × V)} : F a = some (.frz o (.dT kvs)) → DenT K F es kvs → Den K F (.dt es) (.ref a)
inductive Dens (K : Fr) (F : Hp) : List D → List V → Prop
  | nil : Dens K F [] []
  | cons {d : D} {ds : List D} {v : V} {vs : List V} : Den K F d v → Dens K F ds vs → Dens K F (d :: ds) (v :: vs)
inductive DenK (K : Fr) (F : Hp) : List (Key × D) → List (Key × V) → Prop
  | nil : DenK K F [] []
  | cons {k : Key} {d : D} {ds : List (Key × D)} {v : V} {vs : List (Key × V)} : Den K F d v → DenK K F ds vs → DenK K F ((k, d) :: ds) ((k, v) :: vs)
inductive DenT (K : Fr) (F : Hp) : List (List Key × D) → List (List Key × V) → Prop
  | nil : DenT K F [] []
  | cons {k : List Key} {d : D} {ds : List (List Key × D)} {v : V} {vs : List (List Key × V)} : Den K F d v → DenT K F ds vs → DenT K F ((k, d) :: ds) ((k, v) :: vs)
end

mutual
theorem Den.mono {K : Fr} {F G : Hp} (s : Sub F G) : ∀ {d : D} {v : V}, Den K F d v → Den K G d v
  | _, _, .non => .non
  | _, _, .bl b => .bl b
  | _, _, .int i => .int i
  | _, _, .str x => .str x
  | _, _, .tup h t => .tup (s.seqT h) (Dens.mono s t)
  | _, _, .lst h t => .lst (s.rd h) (Dens.mono s t)
  | _, _, .scr h t => .scr (s.seqL h) (Dens.mono s t)
  | _, _, .dk h t => .dk (s _ _ h) (DenK.mono s t)
  | _, _, .dt h t => .dt (s _ _ h) (DenT.mono s t)
theorem Dens.mono {K : Fr} {F G : Hp} (s : Sub F G) : ∀ {d : List D} {v : List V}, Dens K F d v → Dens K G d v
  | _, _, .nil => .nil
  | _, _, .cons h t => .cons (Den.mono s h) (Dens.mono s t)
theorem DenK.mono {K : Fr} {F G : Hp} (s : Sub F G) : ∀ {d : List (Key × D)} {v : List (Key × V)}, DenK K F d v → DenK K G d v
  | _, _, .nil => .nil
  | _, _, .cons h t => .cons (Den.mono s h) (DenK.mono s t)
theorem DenT.mono {K : Fr} {F G : Hp} (s : Sub F G) : ∀ {d : List (List Key × D)} {v : List (List Key × V)}, DenT K F d v → DenT K G d v
  | _, _, .nil => .nil
  | _, _, .cons h t => .cons (Den.mono s h) (DenT.mono s t)
end

section
variable {K : Fr} {F H : Hp}
theorem Dens.length : ∀ {ds : List D} {vs : List V}, Dens K F ds vs → vs.length = ds.length
  | _, _, .nil => rfl
  | _, _, .cons _ t => congrArg (· + 1) t.length
theorem Dens.get : ∀ {ds : List D} {vs : List V} {i : Nat} {d : D}, Dens K F ds vs → ds[i]? = some d → ∃ v, vs[i]? = some v ∧ Den K F d v
  | _, _, _, _, .nil, e => by simp at e
  | _, _, 0, _, .cons h _, e => by simp at e; subst e; exact ⟨_, rfl, h⟩
  | _, _, i + 1, d, .cons _ t, e => by
    obtain ⟨v, h1, h2⟩ := Dens.get (i := i) (d := d) t (by simpa using e)
    exact ⟨v, by simpa using h1, h2⟩
theorem Dens.get' : ∀ {ds : List D} {vs : List V} {i : Nat} {v : V}, Dens K F ds vs → vs[i]? = some v → ∃ d, ds[i]? = some d ∧ Den K F d v
  | _, _, _, _, .nil, e => by simp at e
  | _, _, 0, _, .cons h _, e => by simp at e; subst e; exact ⟨_, rfl, h⟩
  | _, _, i + 1, v, .cons _ t, e => by
    obtain ⟨d, h1, h2⟩ := Dens.get' (i := i) (v := v) t (by simpa using e)
    exact ⟨d, by simpa using h1, h2⟩
theorem Dens.append : ∀ {ds es : List D} {vs us : List V}, Dens K F ds vs → Dens K F es us → Dens K F (ds ++ es) (vs ++ us)
  | _, _, _, _, .nil, s => s
  | _, _, _, _, .cons h t, s => .cons h (t.append s)
theorem Dens.snoc {ds : List D} {d : D} {vs : List V} {v : V} (h : Dens K F ds vs) (g : Den K F d v) : Dens K F (ds ++ [d]) (vs ++ [v]) := h.append (.cons g .nil)
theorem Dens.take : ∀ {ds : List D} {vs : List V} (n : Nat), Dens K F ds vs → Dens K F (ds.take n) (vs.take n)
  | _, _, 0, _ => .nil
  | _, _, _ + 1, .nil => .nil
  | _, _, n + 1, .cons h t => .cons h (Dens.take n t)
theorem Dens.drop : ∀ {ds : List D} {vs : List V} (n : Nat), Dens K F ds vs → Dens K F (ds.drop n) (vs.drop n)
  | _, _, 0, h => h
  | _, _, _ + 1, .nil => .nil
  | _, _, n + 1, .cons _ t => Dens.drop n t
theorem Dens.set : ∀ {ds : List D} {vs : List V} {d : D} {v : V} (i : Nat), Den K F d v → Dens K F ds vs → Dens K F (ds.set i d) (vs.set i v)
  | _, _, _, _, _, _, .nil => .nil
  | _, _, _, _, 0, g, .cons _ t => .cons g t
  | _, _, _, _, i + 1, g, .cons h t => .cons h (Dens.set i g t)
theorem Dens.eraseIdx : ∀ {ds : List D} {vs : List V} (i : Nat), Dens K F ds vs → Dens K F (ds.eraseIdx i) (vs.eraseIdx i)
  | _, _, _, .nil => .nil
  | _, _, 0, .cons _ t => t
  | _, _, i + 1, .cons h t => .cons h (Dens.eraseIdx i t)
theorem Dens.dropLast {ds : List D} {vs : List V} (h : Dens K F ds vs) : Dens K F ds.dropLast vs.dropLast := by
  rw [List.dropLast_eq_take, List.dropLast_eq_take, h.length]; exact h.take _
theorem Dens.rev : ∀ {ds : List D} {vs : List V}, Dens K F ds vs → Dens K F ds.reverse vs.reverse
  | _, _, .nil => .nil
  | _, _, .cons h t => by rw [List.reverse_cons, List.reverse_cons]; exact (Dens.rev t).append (.cons h .nil)
theorem Dens.map {α : Type} {f : α → D} {g : α → V} : ∀ {xs : List α}, (∀ x ∈ xs, Den K F (f x) (g x)) → Dens K F (xs.map f) (xs.map g)
  | [], _ => .nil
  | x :: xs, h => .cons (h x List.mem_cons_self) (Dens.map fun y hy => h y (List.mem_cons_of_mem _ hy))
theorem Dens.ints : ∀ {ns : List Int} {vs : List V}, Dens K F (ns.map D.int) vs → vs = ns.map V.int
  | [], _, h => by cases h; rfl
  | n :: ns, _, h => by
    cases h with
    | cons h t => cases h; rw [List.map_cons, Dens.ints t]
theorem DenK.length : ∀ {ds : List (Key × D)} {vs : List (Key × V)}, DenK K F ds vs → vs.length = ds.length
  | _, _, .nil => rfl
  | _, _, .cons _ t => congrArg (· + 1) t.length

/-- what a value is, its own content read off H, its items off F -/
def View (K : Fr) (F H : Hp) : D → V → Prop
  | .non, v => v = .non
  | .bl b, v => v = .bl b
  | .int i, v => v = .int i
  | .str x, v => v = .str x
  | .tup ds, v => ∃ a xs, v = .ref a ∧ SqT K F a xs ∧ Dens K F ds xs
  | .lst ds, v => ∃ a xs, v = .ref a ∧ L2.Rd H a (.lst xs) ∧ Dens K F ds xs
  | .scr ds, v => ∃ a xs, v = .ref a ∧ SqL K H a xs ∧ Dens K F ds xs
  | .dk es, v => ∃ a kvs, v = .ref a ∧ Rd H a (.dK kvs) ∧ DenK K F es kvs
  | .dt es, v => ∃ a kvs, v = .ref a ∧ Rd H a (.dT kvs) ∧ DenT K F es kvs
theorem View.of {d : D} {v : V} (s : Sub F H) (h : Den K F d v) : View K F H d v := by
  cases h with
  | non => rfl
  | bl => rfl
  | int => rfl
  | str => rfl
  | tup h t => exact ⟨_, _, rfl, h, t⟩
  | lst h t => exact ⟨_, _, rfl, s.rd h, t⟩
  | scr h t => exact ⟨_, _, rfl, s.seqL h, t⟩
  | dk h t => exact ⟨_, _, rfl, .inr ⟨_, s _ _ h⟩, t⟩
  | dt h t => exact ⟨_, _, rfl, .inr ⟨_, s _ _ h⟩, t⟩
/-- a thing that may be changed stands at a -/
def Cont (K : Fr) (F H : Hp) (a : Addr) : D → Prop
  | .lst ds => ∃ xs, H a = some (.lst xs) ∧ Dens K F ds xs
  | .dk es => ∃ kvs, H a = some (.dK kvs) ∧ DenK K F es kvs
  | .dt es => ∃ kvs, H a = some (.dT kvs) ∧ DenT K F es kvs
  | _ => False
theorem Cont.view {d : D} {a : Addr} (h : Cont K F H a d) : View K F H d (.ref a) := by
  cases d with
  | lst ds => obtain ⟨xs, h, t⟩ := h; exact ⟨_, _, rfl, .inl h, t⟩
  | dk es => obtain ⟨xs, h, t⟩ := h; exact ⟨_, _, rfl, .inl h, t⟩
  | dt es => obtain ⟨xs, h, t⟩ := h; exact ⟨_, _, rfl, .inl h, t⟩
  | _ => exact h.elim
theorem Cont.some {d : D} {a : Addr} (h : Cont K F H a d) : ∃ o, H a = some o := by
  cases d with
  | lst ds => obtain ⟨xs, h, t⟩ := h; exact ⟨_, h⟩
  | dk es => obtain ⟨xs, h, t⟩ := h; exact ⟨_, h⟩
  | dt es => obtain ⟨xs, h, t⟩ := h; exact ⟨_, h⟩
  | _ => exact h.elim
theorem Cont.mono {F' H' : Hp} {d : D} {a : Addr} (s : Sub F F') (e : H' a = H a) (h : Cont K F H a d) : Cont K F' H' a d := by
  cases d with
  | lst ds => obtain ⟨xs, h, t⟩ := h; exact ⟨xs, e.trans h, t.mono s⟩
  | dk es => obtain ⟨xs, h, t⟩ := h; exact ⟨xs, e.trans h, t.mono s⟩
  | dt es => obtain ⟨xs, h, t⟩ := h; exact ⟨xs, e.trans h, t.mono s⟩
  | _ => exact h
end

/-! ### slots, values, states -/
inductive Slot where
  | em | fz (d : D) | own (d : D) | io (d : D)
deriving Inhabited
abbrev DEnv := List Slot
inductive Val where
  | fz (d : D) | own (d : D) | sl (i : Nat)
/-- the content of a slot that may be changed -/
def Slot.mut : Slot → Option D
  | .own d => some d
  | .io d => some d
  | _ => none
def mutAt (e : DEnv) (i : Nat) : Option D := (e[i]?).bind Slot.mut
/-- what a value is -/
def look (e : DEnv) : Val → Option D
  | .fz d => some d
  | .own d => some d
  | .sl i => mutAt e i

/-- a body's ground: the heap and the frozen part at its entry, the thing that it may change -/
structure Bs where
  H0 : Hp
  F0 : Hp
  io : Option Addr

def SlotOk (K : Fr) (B : Bs) (F H : Hp) : Slot → Option (Option V) → Prop
  | .em, _ => True
  | .fz d, x => ∃ v, x = some (some v) ∧ Den K F d v
  | .own d, x => ∃ a, x = some (some (.ref a)) ∧ F a = none ∧ B.H0 a = none ∧ Cont K F H a d
  | .io d, x => ∃ a, x = some (some (.ref a)) ∧ F a = none ∧ B.io = some a ∧ Cont K F H a d

/-- nothing stands there, or a tuple -/
def Lo (H : Hp) (b : Addr) : Prop := H b = none ∨ ∃ xs, H b = some (.tup xs)
theorem Lo.back {H H' : Hp} (s : Sub H H') {b : Addr} (h : Lo H' b) : Lo H b := by
  cases e : H b with
  | none => exact .inl e
  | some o =>
    rcases h with h | ⟨xs, h⟩
    · rw [s _ _ e] at h; cases h
    · rw [s _ _ e] at h; cases h; exact .inr ⟨xs, e⟩
theorem Cont.lo {K : Fr} {F H : Hp} {d : D} {a : Addr} (h : Cont K F H a d) : ¬ Lo H a := by
  cases d with
  | lst ds => obtain ⟨xs, h, t⟩ := h; rintro (z | ⟨ys, z⟩) <;> (rw [h] at z; cases z)
  | dk es => obtain ⟨xs, h, t⟩ := h; rintro (z | ⟨ys, z⟩) <;> (rw [h] at z; cases z)
  | dt es => obtain ⟨xs, h, t⟩ := h; rintro (z | ⟨ys, z⟩) <;> (rw [h] at z; cases z)
  | _ => exact h.elim

structure SR (K : Fr) (B : Bs) (F : Hp) (e : DEnv) (σ : St) (H : Hp) : Prop where
  len : e.length = σ.length
  sub : Sub F H
  old : ∀ b o, B.H0 b = some o → B.io ≠ some b → H b = some o
  inc : Sub B.F0 F
  new : ∀ b, B.F0 b = none → F b ≠ none → Lo B.H0 b
  iof : ∀ a, B.io = some a → F a = none ∧ ¬ Lo H a ∧ ¬ Lo B.H0 a
  slot : ∀ (i : Nat) (s : Slot), e[i]? = some s → SlotOk K B F H s (σ[i]?)
  apart : ∀ (i j : Nat) (a : Addr), i ≠ j → (mutAt e i).isSome → (mutAt e j).isSome → σ[i]? = some (some (.ref a)) → σ[j]? = some (some (.ref a)) → False

/-- a step that changes nothing that stands -/
structure Ext (F H F' H' : Hp) : Prop where
  f : Sub F F'
  h : Sub H H'
  s : Sub F' H'
  n : ∀ b, F b = none → F' b ≠ none → Lo H b
theorem Ext.refl {F H : Hp} (s : Sub F H) : Ext F H F H := ⟨.refl F, .refl H, s, fun _ h n => absurd h n⟩
theorem Ext.trans {F H F1 H1 F2 H2 : Hp} (a : Ext F H F1 H1) (b : Ext F1 H1 F2 H2) : Ext F H F2 H2 := by
  refine ⟨a.f.trans b.f, a.h.trans b.h, b.s, fun c h n => ?_⟩
  by_cases e : F1 c = none
  · exact Lo.back a.h (b.n c e n)
  · exact a.n c h e
/-- a new object that is not frozen -/
theorem Ext.new {F H : Hp} {a : Addr} {o : HO} (s : Sub F H) (h : H a = none) : Ext F H F (upd H a o) := ⟨.refl F, .upd h, s.trans (.upd h), fun _ h n => absurd h n⟩
/-- a new object, frozen at once -/
theorem Ext.newF {F H : Hp} {a : Addr} {o : HO} (s : Sub F H) (h : H a = none) : Ext F H (upd F a o) (upd H a o) := by
  refine ⟨.upd (s.none h), .upd h, fun b x e => ?_, fun b hb n => ?_⟩
  · by_cases z : b = a
    · subst z; rw [upd_same] at e ⊢; exact e
    · rw [upd_ne z] at e ⊢; exact s _ _ e
  · by_cases z : b = a
    · subst z; exact .inl h
    · rw [upd_ne z] at n; exact absurd hb n

section
variable {K : Fr} {B : Bs} {F H F' H' : Hp} {e : DEnv} {σ : St}
theorem mutAt_slot {i : Nat} {d : D} (h : mutAt e i = some d) : e[i]? = some (.own d) ∨ e[i]? = some (.io d) := by
  unfold mutAt at h
  cases q : e[i]? with
  | none => rw [q] at h; cases h
  | some s =>
    rw [q] at h
    cases s with
    | own d' => left; cases h; rfl
    | io d' => right; cases h; rfl
    | _ => cases h
theorem SR.mutC (R : SR K B F e σ H) {i : Nat} {d : D} (h : mutAt e i = some d) : ∃ a, σ[i]? = some (some (.ref a)) ∧ F a = none ∧ Cont K F H a d ∧ (B.H0 a = none ∨ B.io = some a) := by
  rcases mutAt_slot h with h | h
  · obtain ⟨a, h1, h2, h3, h4⟩ := R.slot i _ h; exact ⟨a, h1, h2, h4, .inl h3⟩
  · obtain ⟨a, h1, h2, h3, h4⟩ := R.slot i _ h; exact ⟨a, h1, h2, h4, .inr h3⟩
theorem SlotOk.ext (x : Ext F H F' H') {s : Slot} {v : Option (Option V)} (h : SlotOk K B F H s v) : SlotOk K B F' H' s v := by
  have key : ∀ {a : Addr} {d : D}, F a = none → Cont K F H a d → F' a = none ∧ Cont K F' H' a d := fun {a d} h1 h2 => by
    obtain ⟨o, ho⟩ := h2.some
    refine ⟨?_, h2.mono x.f ((x.h _ _ ho).trans ho.symm)⟩
    cases q : F' a with
    | none => rfl
    | some u => exact absurd (x.n a h1 (by rw [q]; simp)) h2.lo
  cases s with
  | em => trivial
  | fz d => obtain ⟨v, h1, h2⟩ := h; exact ⟨v, h1, h2.mono x.f⟩
  | own d => obtain ⟨a, h1, h2, h3, h4⟩ := h; exact ⟨a, h1, (key h2 h4).1, h3, (key h2 h4).2⟩
  | io d => obtain ⟨a, h1, h2, h3, h4⟩ := h; exact ⟨a, h1, (key h2 h4).1, h3, (key h2 h4).2⟩
theorem SR.ext (R : SR K B F e σ H) (x : Ext F H F' H') : SR K B F' e σ H' := by
  refine ⟨R.len, x.s, fun b o h n => x.h _ _ (R.old b o h n), R.inc.trans x.f, fun b h n => ?_, fun a h => ?_, fun i s h => (R.slot i s h).ext x, R.apart⟩
  · by_cases q : F b = none
    · have hb := x.n b q n
      by_cases w : B.io = some b
      · exact absurd hb (R.iof b w).2.1
      · cases z : B.H0 b with
        | none => exact .inl z
        | some o =>
          rcases hb with hb | ⟨xs, hb⟩
          · rw [R.old b o z w] at hb; cases hb
          · rw [R.old b o z w] at hb; cases hb; exact .inr ⟨xs, z⟩
    · exact R.new b h q
  · obtain ⟨h1, h2, h3⟩ := R.iof a h
    refine ⟨?_, ?_, h3⟩
    · cases q : F' a with
      | none => rfl
      | some u => exact absurd (x.n a h1 (by rw [q]; simp)) h2
    · exact fun z => h2 (Lo.back x.h z)
/-- a value, by the state -/
def VOk (K : Fr) (B : Bs) (F H : Hp) (e : DEnv) (σ : St) (v : V) : Val → Prop
  | .fz d => Den K F d v
  | .own d => ∃ a, v = .ref a ∧ F a = none ∧ B.H0 a = none ∧ Cont K F H a d ∧ ∀ i, (mutAt e i).isSome → σ[i]? ≠ some (some (.ref a))
  | .sl i => (mutAt e i).isSome ∧ σ[i]? = some (some v)
theorem VOk.view (R : SR K B F e σ H) {v : V} {x : Val} {d : D} (h : VOk K B F H e σ v x) (l : look e x = some d) : View K F H d v := by
  cases x with
  | fz d' => cases l; exact View.of R.sub h
  | own d' => cases l; obtain ⟨a, rfl, _, _, c, _⟩ := h; exact c.view
  | sl i =>
    obtain ⟨_, h2⟩ := h
    obtain ⟨a, h3, _, c, _⟩ := R.mutC (show mutAt e i = some d from l)
    rw [h2] at h3; cases h3
    exact c.view
end
end Pv
end

section
set_option maxRecDepth 100000
set_option maxHeartbeats 4000000
namespace Pv
open PySem PySem.Spec L2

/-! ### steps of the state -/
section
variable {K : Fr} {B : Bs} {F H F' H' : Hp} {e : DEnv} {σ : List (Option V)}
theorem upd_self {H : Hp} {a : Addr} {o : HO} (h : H a = some o) : upd H a o = H := by
  funext b; unfold upd; split
  · rename_i z; subst z; exact h.symm
  · rfl
theorem mutAt_set {i j : Nat} {s : Slot} : mutAt (e.set i s) j = if i = j ∧ i < e.length then s.mut else mutAt e j := by
  unfold mutAt
  rw [List.getElem?_set]
  by_cases h : i = j
  · subst h
    by_cases hl : i < e.length
    · rw [if_pos rfl, if_pos hl, if_pos ⟨rfl, hl⟩]; rfl
    · rw [if_pos rfl, if_neg hl, if_neg (fun z => hl z.2), List.getElem?_eq_none (by omega)]
  · rw [if_neg h, if_neg fun z => h z.1]
/-- a slot's word is changed, its value stays -/
theorem SR.word (R : SR K B F e σ H) {i : Nat} {s : Slot} (h : SlotOk K B F H s (σ[i]?)) (m : s.mut.isSome → (mutAt e i).isSome) : SR K B F (e.set i s) σ H := by
  refine ⟨by rw [List.length_set]; exact R.len, R.sub, R.old, R.inc, R.new, R.iof, fun j t ht => ?_, fun j k a hjk h1 h2 => ?_⟩
  · rw [List.getElem?_set] at ht
    by_cases z : i = j
    · subst z
      rw [if_pos rfl] at ht
      split at ht
      · cases ht; exact h
      · cases ht
    · rw [if_neg z] at ht; exact R.slot j t ht
  · have f : ∀ l, (mutAt (e.set i s) l).isSome → (mutAt e l).isSome := fun l hl => by
      rw [mutAt_set] at hl
      split at hl
      · rename_i z; rw [← z.1]; exact m hl
      · exact hl
    exact R.apart j k a hjk (f j h1) (f k h2)
/-- an object of no slot is frozen (and locked) -/
theorem SR.frz (R : SR K B F e σ H) {a : Addr} {o o' : HO} (hF : F a = none) (h0 : B.H0 a = none) (hH : H a = some o) (hf : ∀ i, (mutAt e i).isSome → σ[i]? ≠ some (some (.ref a))) : SR K B (upd F a o') e σ (upd H a o') := by
  have s1 : Sub F (upd F a o') := .upd hF
  have nio : B.io ≠ some a := fun z => (R.iof a z).2.2 (.inl h0)
  have nF : ∀ b o, F b = some o → b ≠ a := fun b o q z => by rw [z, hF] at q; cases q
  refine ⟨R.len, fun b x q => ?_, fun b x q n => ?_, R.inc.trans s1, fun b q n => ?_, fun b q => ?_, fun i s q => ?_, R.apart⟩
  · by_cases z : b = a
    · subst z; rw [upd_same] at q ⊢; exact q
    · rw [upd_ne z] at q ⊢; exact R.sub _ _ q
  · have z : b ≠ a := fun z => by rw [z, h0] at q; cases q
    rw [upd_ne z]; exact R.old b x q n
  · by_cases z : b = a
    · rw [z]; exact .inl h0
    · rw [upd_ne z] at n; exact R.new b q n
  · have z : b ≠ a := fun z => nio (z ▸ q)
    obtain ⟨h1, h2, h3⟩ := R.iof b q
    refine ⟨by rw [upd_ne z]; exact h1, ?_, h3⟩
    unfold Lo; rw [upd_ne z]; exact h2
  · have r := R.slot i s q
    have mv : ∀ {c : Addr} {d : D}, s.mut = some d → σ[i]? = some (some (.ref c)) → c ≠ a := fun {c d} hm hc z => hf i (by unfold mutAt; rw [q]; show s.mut.isSome = true; rw [hm]; rfl) (z ▸ hc)
    cases s with
    | em => trivial
    | fz d => obtain ⟨v, h1, h2⟩ := r; exact ⟨v, h1, h2.mono s1⟩
    | own d =>
      obtain ⟨c, h1, h2, h3, h4⟩ := r
      have z := mv rfl h1
      exact ⟨c, h1, by rw [upd_ne z]; exact h2, h3, h4.mono s1 (upd_ne z)⟩
    | io d =>
      obtain ⟨c, h1, h2, h3, h4⟩ := r
      have z := mv rfl h1
      exact ⟨c, h1, by rw [upd_ne z]; exact h2, h3, h4.mono s1 (upd_ne z)⟩
/-- a name is stored -/
theorem SR.store (R : SR K B F e σ H) {i : Nat} {s : Slot} {v : V} (hi : i < e.length) (h : SlotOk K B F H s (some (some v))) (m : s.mut.isSome → ∀ j, j ≠ i → (mutAt e j).isSome → σ[j]? ≠ some (some v)) :
    SR K B F (e.set i s) (σ.set i (some v)) H := by
  have hi' : i < σ.length := by rw [← R.len]; exact hi
  refine ⟨by rw [List.length_set, List.length_set]; exact R.len, R.sub, R.old, R.inc, R.new, R.iof, fun j t ht => ?_, fun j k a hjk h1 h2 e1 e2 => ?_⟩
  · rw [List.getElem?_set] at ht
    by_cases z : i = j
    · subst z
      rw [if_pos rfl, if_pos hi] at ht
      cases ht
      rw [List.getElem?_set, if_pos rfl, if_pos hi']; exact h
    · rw [if_neg z] at ht
      rw [List.getElem?_set, if_neg z]; exact R.slot j t ht
  · rw [mutAt_set] at h1 h2
    rw [List.getElem?_set] at e1 e2
    by_cases z1 : i = j
    · subst z1
      rw [if_pos ⟨rfl, hi⟩] at h1
      rw [if_pos rfl, if_pos hi'] at e1
      rw [if_neg (fun z => hjk z.1)] at h2
      rw [if_neg hjk] at e2
      cases e1
      exact m h1 k (Ne.symm hjk) h2 e2
    · rw [if_neg (fun z => z1 z.1)] at h1
      rw [if_neg z1] at e1
      by_cases z2 : i = k
      · subst z2
        rw [if_pos ⟨rfl, hi⟩] at h2
        rw [if_pos rfl, if_pos hi'] at e2
        cases e2
        exact m h2 j hjk h1 e1
      · rw [if_neg (fun z => z2 z.1)] at h2
        rw [if_neg z2] at e2
        exact R.apart j k a hjk h1 h2 e1 e2
def setC (e : DEnv) (i : Nat) (d : D) : DEnv := match e[i]? with
  | some (.own _) => e.set i (.own d)
  | some (.io _) => e.set i (.io d)
  | _ => e
/-- the thing of a slot is changed -/
theorem SR.mutate (R : SR K B F e σ H) {i : Nat} {d d' : D} {a : Addr} {o' : HO} (hm : mutAt e i = some d) (ha : σ[i]? = some (some (.ref a))) (c : Cont K F (upd H a o') a d') : SR K B F (setC e i d') σ (upd H a o') := by
  obtain ⟨a', h1, h2, h3, h4⟩ := R.mutC hm
  rw [ha] at h1; cases h1
  have base : ∀ (s : Slot), s.mut.isSome → SlotOk K B F (upd H a o') s (some (some (.ref a))) → SR K B F (e.set i s) σ (upd H a o') := fun s ms hs => by
    refine ⟨by rw [List.length_set]; exact R.len, fun b x q => ?_, fun b x q n => ?_, R.inc, R.new, fun b q => ?_, fun j t ht => ?_, fun j k b hjk h1 h2 => ?_⟩
    · rw [upd_ne (fun z => by rw [z, h2] at q; cases q)]; exact R.sub _ _ q
    · have z : b ≠ a := fun z => by
        rcases h4 with w | w
        · rw [z, w] at q; cases q
        · exact n (by rw [w, z])
      rw [upd_ne z]; exact R.old b x q n
    · obtain ⟨q1, q2, q3⟩ := R.iof b q
      refine ⟨q1, ?_, q3⟩
      by_cases z : b = a
      · rw [z]; exact c.lo
      · unfold Lo; rw [upd_ne z]; exact q2
    · rw [List.getElem?_set] at ht
      by_cases z : i = j
      · subst z
        rw [if_pos rfl] at ht
        split at ht
        · cases ht; rw [ha]; exact hs
        · cases ht
      · rw [if_neg z] at ht
        have r := R.slot j t ht
        have mv : ∀ {c : Addr} {d : D}, t.mut = some d → σ[j]? = some (some (.ref c)) → c ≠ a := fun {c d} hm' hc w => by
          refine R.apart i j a z (by rw [hm]; rfl) ?_ ha (w ▸ hc)
          unfold mutAt; rw [ht]; show t.mut.isSome = true; rw [hm']; rfl
        cases t with
        | em => trivial
        | fz d => obtain ⟨v, h1, h2⟩ := r; exact ⟨v, h1, h2⟩
        | own d => obtain ⟨c, h1, h2, h3, h4⟩ := r; exact ⟨c, h1, h2, h3, h4.mono (.refl F) (upd_ne (mv rfl h1))⟩
        | io d => obtain ⟨c, h1, h2, h3, h4⟩ := r; exact ⟨c, h1, h2, h3, h4.mono (.refl F) (upd_ne (mv rfl h1))⟩
    · have f : ∀ l, (mutAt (e.set i s) l).isSome → (mutAt e l).isSome := fun l hl => by
        rw [mutAt_set] at hl
        split at hl
        · rename_i z; rw [← z.1, hm]; rfl
        · exact hl
      exact R.apart j k b hjk (f j h1) (f k h2)
  unfold setC
  rcases mutAt_slot hm with q | q
  · rw [q]
    obtain ⟨b, q1, q2, q3, q4⟩ := R.slot i _ q
    rw [ha] at q1; cases q1
    exact base _ rfl ⟨a, rfl, h2, q3, c⟩
  · rw [q]
    obtain ⟨b, q1, q2, q3, q4⟩ := R.slot i _ q
    rw [ha] at q1; cases q1
    exact base _ rfl ⟨a, rfl, h2, q3, c⟩
end

/-! ### what a value is when it is kept while others are made; when it is put away -/
def hold : Val → Option Val
  | .fz d => some (.fz d)
  | .own (.lst ds) => some (.fz (.lst ds))
  | .own _ => none
  | .sl i => some (.sl i)
section
variable {K : Fr} {B : Bs} {F H F' H' : Hp} {e : DEnv} {σ : List (Option V)} {v : V}
theorem hold_ok {x y : Val} (R : SR K B F e σ H) (h : VOk K B F H e σ v x) (q : hold x = some y) : ∃ F', Sub F F' ∧ SR K B F' e σ H ∧ VOk K B F' H e σ v y := by
  cases x with
  | fz d => cases q; exact ⟨F, .refl F, R, h⟩
  | sl i => cases q; exact ⟨F, .refl F, R, h⟩
  | own d =>
    cases d with
    | lst ds =>
      cases q
      obtain ⟨a, rfl, h1, h2, ⟨xs, h3, h4⟩, h5⟩ := h
      have r := R.frz (o' := .lst xs) h1 h2 h3 h5
      rw [upd_self h3] at r
      exact ⟨_, .upd h1, r, .lst (.inl upd_same) (h4.mono (.upd h1))⟩
    | _ => cases q
theorem VOk.held {x y : Val} {e1 : DEnv} {F1 H1 : Hp} (s : Sub F F1) (h : VOk K B F H e σ v y) (hy : hold x = some y) {d : D} (l : look e1 y = some d) (R1 : SR K B F1 e1 σ H1) : View K F1 H1 d v := by
  cases y with
  | fz d' => cases l; exact View.of R1.sub (h.mono s)
  | sl i =>
    obtain ⟨_, h2⟩ := h
    obtain ⟨a, h3, _, c, _⟩ := R1.mutC (show mutAt e1 i = some d from l)
    rw [h2] at h3; cases h3
    exact c.view
  | own d' => cases x with
    | own d => cases d <;> cases hy
    | fz d => cases hy
    | sl i => cases hy
/-- a result that is new or stands -/
def R0 (K : Fr) (F H F' H' : Hp) (v : V) : Val → Prop
  | .fz d => Den K F' d v
  | .own d => ∃ a, v = .ref a ∧ H a = none ∧ F' a = none ∧ Cont K F' H' a d
  | .sl _ => False
theorem R0.vok {x : Val} (R : SR K B F e σ H) (s : Ext F H F' H') (h : R0 K F H F' H' v x) : VOk K B F' H' e σ v x := by
  cases x with
  | fz d => exact h
  | sl i => exact h.elim
  | own d =>
    obtain ⟨a, rfl, h1, h2, h3⟩ := h
    refine ⟨a, rfl, h2, ?_, h3, fun i hi q => ?_⟩
    · cases z : B.H0 a with
      | none => rfl
      | some o =>
        by_cases w : B.io = some a
        · exact absurd (.inl h1) (R.iof a w).2.1
        · rw [R.old a o z w] at h1; cases h1
    · obtain ⟨d', hd⟩ := Option.isSome_iff_exists.mp hi
      obtain ⟨b, q1, _, q3, _⟩ := R.mutC hd
      rw [q] at q1; cases q1
      obtain ⟨o, ho⟩ := q3.some
      rw [h1] at ho; cases ho
theorem R0.scal {d : D} (h : ∀ G, Den K G d v) : R0 K F H F' H' v (.fz d) := h F'
end

/-! ### readings -/
abbrev Ev := DEnv → Option (Val × DEnv)
def RdE (K : Fr) (f : Ev) : TE := fun σ H Q => ∃ (B : Bs) (F : Hp) (e : DEnv) (x : Val) (e' : DEnv), SR K B F e σ H ∧ f e = some (x, e') ∧
  ∀ v F' H', Sub F F' → SR K B F' e' σ H' → VOk K B F' H' e' σ v x → Q v H'
theorem pe_weak {X : Cx} {c : Expr} {t t' : TE} (h : PE X c t) (w : ∀ σ H Q, t' σ H Q → t σ H Q) : PE X c t' := ⟨fun pins s σ H Q I q => h.run pins s σ H Q I (w σ H Q q)⟩
theorem pt_weak {X : Cx} {c : Expr} {t t' : TT} (h : PT X c t) (w : ∀ σ H Q, t' σ H Q → t σ H Q) : PT X c t' := ⟨fun pins s σ H Q I q => h.run pins s σ H Q I (w σ H Q q)⟩
theorem pw_weak {X : Cx} {c : Expr} {t t' : TT} (h : PW X c t) (w : ∀ σ H Q, t' σ H Q → t σ H Q) : PW X c t' := ⟨fun wh pins s σ H Q I q => h.run wh pins s σ H Q I (w σ H Q q)⟩
theorem pa_weak {X : Cx} {c : List Expr} {t t' : TA} (h : PA X c t) (w : ∀ σ H Q, t' σ H Q → t σ H Q) : PA X c t' := ⟨fun pos pins s σ H Q I q => h.run pos pins s σ H Q I (w σ H Q q)⟩
theorem ps_weak {X : Cx} {c : Stmt} {t t' : TS} (h : PS X c t) (w : ∀ D σ H, t' D σ H → t D σ H) : PS X c t' := ⟨fun pins s σ H D I q => h.run pins s σ H D I (w D σ H q)⟩
theorem pss_weak {X : Cx} {c : List Stmt} {t t' : TS} (h : PSs X c t) (w : ∀ D σ H, t' D σ H → t D σ H) : PSs X c t' := ⟨fun pins s σ H D I q => h.run pins s σ H D I (w D σ H q)⟩

def mFz (d : D) : Ev := fun e => some (.fz d, e)
def mVar (i : Nat) : Ev := fun e => match e[i]? with
  | some (.fz d) => some (.fz d, e)
  | some (.own _) => some (.sl i, e)
  | some (.io _) => some (.sl i, e)
  | _ => none
section
variable {X : Cx} {a b c : Expr} {fa fb fc : Ev} {pos : Pos}
theorem s_fz {d : D} {v : V} (h : PE X c (tC v)) (hd : ∀ F, Den X.K F d v) : PE X c (RdE X.K (mFz d)) := pe_weak h fun σ H Q ⟨B, F, e, x, e', R, q, k⟩ => by
  cases q; exact k v F H (.refl F) R (hd F)
theorem s_var {i : Nat} (h : PE X c (tVar i)) : PE X c (RdE X.K (mVar i)) := pe_weak h fun σ H Q ⟨B, F, e, x, e', R, q, k⟩ => by
  unfold mVar at q
  cases z : e[i]? with
  | none => rw [z] at q; cases q
  | some s =>
    rw [z] at q
    have r := R.slot i s z
    cases s with
    | em => cases q
    | fz d => cases q; obtain ⟨v, h1, h2⟩ := r; exact ⟨v, h1, k v F H (.refl F) R h2⟩
    | own d => cases q; obtain ⟨a, h1, h2, h3, h4⟩ := r; exact ⟨_, h1, k _ F H (.refl F) R ⟨by unfold mutAt; rw [z]; rfl, h1⟩⟩
    | io d => cases q; obtain ⟨a, h1, h2, h3, h4⟩ := r; exact ⟨_, h1, k _ F H (.refl F) R ⟨by unfold mutAt; rw [z]; rfl, h1⟩⟩

/-- an operation of two values, by data -/
def R2D (K : Fr) (r : R2) (g : D → D → Option Val) : Prop := ∀ {x y : V} {F H : Hp} {da db : D} {z : Val} {Q : VK}, Sub F H → View K F H da x → View K F H db y → g da db = some z →
  (∀ v F' H', Ext F H F' H' → R0 K F H F' H' v z → Q v H') → r x y H Q
def mBin (g : D → D → Option Val) (fa fb : Ev) : Ev := fun e => do
  let (va, e1) ← fa e
  let va' ← hold va
  let (vb, e2) ← fb e1
  let da ← look e2 va'
  let db ← look e2 vb
  let z ← g da db
  some (z, e2)
theorem bindS {α β : Type} {o : Option α} {f : α → Option β} {y : β} (h : (o >>= f) = some y) : ∃ x, o = some x ∧ f x = some y := Option.bind_eq_some_iff.mp h
theorem rd_bin {r : R2} {g : D → D → Option Val} (hr : R2D X.K r g) {σ : List (Option V)} {H : Hp} {Q : VK} (h : RdE X.K (mBin g fa fb) σ H Q) : tOp r (RdE X.K fa) (RdE X.K fb) σ H Q := by
  obtain ⟨B, F, e, x, e', R, q, k⟩ := h
  obtain ⟨⟨va, e1⟩, q1, q⟩ := bindS q
  obtain ⟨va', q2, q⟩ := bindS q
  obtain ⟨⟨vb, e2⟩, q3, q⟩ := bindS q
  obtain ⟨da, q4, q⟩ := bindS q
  obtain ⟨db, q5, q⟩ := bindS q
  obtain ⟨z, q6, q⟩ := bindS q
  cases q
  refine ⟨B, F, e, va, e1, R, q1, fun x F1 H1 s1 R1 V1 => ?_⟩
  obtain ⟨F1', s1', R1', V1'⟩ := hold_ok R1 V1 q2
  refine ⟨B, F1', e1, vb, _, R1', q3, fun y F2 H2 s2 R2 V2 => ?_⟩
  refine hr R2.sub (V1'.held s2 q2 q4 R2) (V2.view R2 q5) q6 fun v F' H' x0 r0 => ?_
  exact k v F' H' (((s1.trans s1').trans s2).trans x0.f) (R2.ext x0) (r0.vok R2 x0)
theorem s_bin {op : Operator} {r : R2} {g : D → D → Option Val} (ho : OpR X (binaryOp op) r) (hr : R2D X.K r g) (ha : PE X a (RdE X.K fa)) (hb : PE X b (RdE X.K fb)) : PE X (.BinOp a op b pos) (RdE X.K (mBin g fa fb)) :=
  pe_weak (pe_op ho ha hb) fun _ _ _ h => rd_bin hr h
theorem s_cmp {op : CmpOp} {r : R2} {g : D → D → Option Val} (ho : OpR X (compareOp op) r) (hr : R2D X.K r g) (ha : PE X a (RdE X.K fa)) (hb : PE X b (RdE X.K fb)) (hm : behindInMarks op b = false) : PE X (.Compare a [op] [b] pos) (RdE X.K (mBin g fa fb)) :=
  pe_weak (pe_cmpR ho ha hb hm) fun _ _ _ h => rd_bin hr h
theorem s_ix {r : R2} {g : D → D → Option Val} (ho : IxR X r) (hr : R2D X.K r g) (ha : PE X a (RdE X.K fa)) (hb : PE X b (RdE X.K fb)) (hs : PlainIx b) : PE X (.Subscript a b pos) (RdE X.K (mBin g fa fb)) :=
  pe_weak (pe_ix ho ha hb hs) fun _ _ _ h => rd_bin hr h

/-- a op b op' c -/
def mChain (g g' : D → D → Option Val) (fa fb fc : Ev) : Ev := fun e => do
  let (va, e1) ← fa e
  let va' ← hold va
  let (vb, e2) ← fb e1
  let vb' ← hold vb
  let da ← look e2 va'
  let db ← look e2 vb'
  match ← g da db with
  | .fz (.bl true) => do
    let (vc, e3) ← fc e2
    let db' ← look e3 vb'
    let dc ← look e3 vc
    let z ← g' db' dc
    some (z, e3)
  | .fz (.bl false) => some (.fz (.bl false), e2)
  | _ => none
theorem s_chain {op op' : CmpOp} {r r' : R2} {g g' : D → D → Option Val} (ho : OpR X (compareOp op) r) (hr : R2D X.K r g) (ho' : OpR X (compareOp op') r') (hr' : R2D X.K r' g') (ha : PE X a (RdE X.K fa)) (hb : PE X b (RdE X.K fb))
    (hc : PE X c (RdE X.K fc)) (h1 : ∀ b, behindInMarks op b = false) (h2 : behindInMarks op' c = false) (ch : PE X (.Compare a [op, op'] [b, c] pos) (tChain r r' (RdE X.K fa) (RdE X.K fb) (RdE X.K fc))) : PE X (.Compare a [op, op'] [b, c] pos) (RdE X.K (mChain g g' fa fb fc)) := by
  refine pe_weak ch fun σ H Q h => ?_
  obtain ⟨B, F, e, x, e', R, q, k⟩ := h
  obtain ⟨⟨va, e1⟩, q1, q⟩ := bindS q
  obtain ⟨va', q2, q⟩ := bindS q
  obtain ⟨⟨vb, e2⟩, q3, q⟩ := bindS q
  obtain ⟨vb', q2', q⟩ := bindS q
  obtain ⟨da, q4, q⟩ := bindS q
  obtain ⟨db, q5, q⟩ := bindS q
  obtain ⟨z, q6, q⟩ := bindS q
  refine ⟨B, F, e, va, e1, R, q1, fun x F1 H1 s1 R1 V1 => ?_⟩
  obtain ⟨F1', s1', R1', V1'⟩ := hold_ok R1 V1 q2
  refine ⟨B, F1', e1, vb, _, R1', q3, fun y F2 H2 s2 R2 V2 => ?_⟩
  obtain ⟨F2', s2', R2', V2'⟩ := hold_ok R2 V2 q2'
  refine hr R2'.sub (V1'.held (s2.trans s2') q2 q4 R2') (V2'.held (.refl _) q2' q5 R2') q6 fun v F' H' x0 r0 => ?_
  have R3 := R2'.ext x0
  have up : Sub F F' := (((s1.trans s1').trans s2).trans s2').trans x0.f
  cases z with
  | own d => cases q
  | sl i => cases q
  | fz d =>
    cases d with
    | bl t =>
      cases t with
      | true =>
        cases (show Den X.K F' (.bl true) v from r0)
        refine ⟨true, rfl, ?_⟩
        rw [if_pos rfl]
        obtain ⟨⟨vc, e3⟩, q7, q⟩ := bindS q
        obtain ⟨db', q8, q⟩ := bindS q
        obtain ⟨dc, q9, q⟩ := bindS q
        obtain ⟨z, q10, q⟩ := bindS q
        cases q
        refine ⟨B, F', e2, vc, _, R3, q7, fun w F4 H4 s4 R4 V4 => ?_⟩
        refine hr' R4.sub (V2'.held (x0.f.trans s4) q2' q8 R4) (V4.view R4 q9) q10 fun u F5 H5 x5 r5 => ?_
        exact k u F5 H5 ((up.trans s4).trans x5.f) (R4.ext x5) (r5.vok R4 x5)
      | false =>
        cases (show Den X.K F' (.bl false) v from r0)
        cases q
        refine ⟨false, rfl, ?_⟩
        rw [if_neg Bool.false_ne_true]
        exact k _ F' H' up R3 (.bl false)
    | _ => cases q
end
end Pv
end

section
set_option maxRecDepth 100000
set_option maxHeartbeats 4000000
namespace Pv
open PySem PySem.Spec L2

/-! ### a value is put away: frozen, a dict locked -/
def retV : Val → DEnv → Option (Val × DEnv)
  | .fz d, e => some (.fz d, e)
  | .own d, e => some (.fz d, e)
  | .sl i, e => match e[i]? with
    | some (.own d) => some (.fz d, e.set i (.fz d))
    | _ => none
def argV : Val → DEnv → Option (Val × DEnv)
  | .fz d, e => some (.fz d, e)
  | .own d, e => some (.fz d, e)
  | .sl i, e => match mutAt e i with
    | some (.lst _) => some (.sl i, e)
    | _ => retV (.sl i) e
theorem retV_sl {i : Nat} {e : DEnv} : retV (.sl i) e = match e[i]? with
    | some (.own d) => some (.fz d, e.set i (.fz d))
    | _ => none := rfl
theorem argV_sl {i : Nat} {e : DEnv} : argV (.sl i) e = match mutAt e i with
    | some (.lst _) => some (.sl i, e)
    | _ => retV (.sl i) e := rfl
def mRet (f : Ev) : Ev := fun e => do
  let (v, e1) ← f e
  retV v e1
def mArg (f : Ev) : Ev := fun e => do
  let (v, e1) ← f e
  argV v e1
section
variable {X : Cx} {pins : List (Addr × Obj)} {s : Shared} {K : Fr} {B : Bs} {F H : Hp} {e : DEnv} {σ : List (Option V)}
theorem freeze {a : Addr} {d : D} (I : Inv X pins σ H s) (R : SR K B F e σ H) (hF : F a = none) (h0 : B.H0 a = none) (c : Cont K F H a d) (hf : ∀ i, (mutAt e i).isSome → σ[i]? ≠ some (some (.ref a))) :
    ∃ H2 F2, Inv X pins σ H2 s ∧ Sub F F2 ∧ SR K B F2 e σ H2 ∧ Den K F2 d (.ref a) := by
  cases d with
  | lst ds =>
    obtain ⟨xs, h3, h4⟩ := c
    have r := R.frz (o' := .lst xs) hF h0 h3 hf
    rw [upd_self h3] at r
    exact ⟨H, _, I, .upd hF, r, .lst (.inl upd_same) (h4.mono (.upd hF))⟩
  | dk es =>
    obtain ⟨kvs, h3, h4⟩ := c
    obtain ⟨od, I2⟩ := I.lock h3 trivial
    exact ⟨_, _, I2, .upd hF, R.frz hF h0 h3 hf, .dk upd_same (h4.mono (.upd hF))⟩
  | dt es =>
    obtain ⟨kvs, h3, h4⟩ := c
    obtain ⟨od, I2⟩ := I.lock h3 trivial
    exact ⟨_, _, I2, .upd hF, R.frz hF h0 h3 hf, .dt upd_same (h4.mono (.upd hF))⟩
  | _ => exact c.elim
theorem freezeV {x y : Val} {e' : DEnv} {v : V} (I : Inv X pins σ H s) (R : SR K B F e σ H) (V1 : VOk K B F H e σ v x) (q : retV x e = some (y, e')) :
    ∃ H2 F2, Inv X pins σ H2 s ∧ Sub F F2 ∧ SR K B F2 e' σ H2 ∧ ∃ d, y = .fz d ∧ Den K F2 d v := by
  cases x with
  | fz d => cases q; exact ⟨H, F, I, .refl F, R, d, rfl, V1⟩
  | own d =>
    cases q
    obtain ⟨a, rfl, h1, h2, h3, h4⟩ := V1
    obtain ⟨H2, F2, I2, s2, R2, d2⟩ := freeze I R h1 h2 h3 h4
    exact ⟨H2, F2, I2, s2, R2, d, rfl, d2⟩
  | sl i =>
    rw [retV_sl] at q
    split at q
    · rename_i d hd
      cases q
      obtain ⟨a, h1, h2, h3, h4⟩ := R.slot i _ hd
      obtain ⟨_, w⟩ := V1
      rw [h1] at w; cases w
      have hil : i < e.length := (List.getElem?_eq_some_iff.mp hd).1
      have R1 := R.word (i := i) (s := .em) trivial (fun z => nomatch z)
      have nf : ∀ j, (mutAt (e.set i .em) j).isSome → σ[j]? ≠ some (some (.ref a)) := fun j hj z => by
        rw [mutAt_set] at hj
        split at hj
        · cases hj
        · rename_i n
          have nij : i ≠ j := fun w => n ⟨w, hil⟩
          exact R.apart i j a nij (by unfold mutAt; rw [hd]; rfl) hj h1 z
      obtain ⟨H2, F2, I2, s2, R2, d2⟩ := freeze I R1 h2 h3 h4 nf
      refine ⟨H2, F2, I2, s2, ?_, d, rfl, d2⟩
      have R3 := R2.word (i := i) (s := .fz d) ⟨_, h1, d2⟩ (fun z => nomatch z)
      rw [List.set_set] at R3
      exact R3
    · cases q
end
section
variable {X : Cx} {c : Expr} {f : Ev}
theorem s_post {g : Ev} {p : Val → DEnv → Option (Val × DEnv)} (hp : ∀ {pins : List (Addr × Obj)} {s : Shared} {B : Bs} {F H : Hp} {e : DEnv} {σ : List (Option V)} {v : V} {x y : Val} {e' : DEnv}, Inv X pins σ H s → SR X.K B F e σ H → VOk X.K B F H e σ v x → p x e = some (y, e') →
    ∃ H2 F2, Inv X pins σ H2 s ∧ Sub F F2 ∧ SR X.K B F2 e' σ H2 ∧ VOk X.K B F2 H2 e' σ v y) (hg : ∀ e, g e = (f e).bind fun z => p z.1 z.2) (h : PE X c (RdE X.K f)) : PE X c (RdE X.K g) := by
  refine ⟨fun pins s σ H Q I hq => ?_⟩
  obtain ⟨B, F, e, x, e', R, q, k⟩ := hq
  rw [hg] at q
  obtain ⟨⟨va, e1⟩, q1, q2⟩ := Option.bind_eq_some_iff.mp q
  refine thn (h.run pins s σ H (fun v H1 => ∃ F1, Sub F F1 ∧ SR X.K B F1 e1 σ H1 ∧ VOk X.K B F1 H1 e1 σ v va) I ⟨B, F, e, va, e1, R, q1, fun v F' H' s1 R1 V1 => ⟨F', s1, R1, V1⟩⟩) fun u s1 ⟨v, H1, I1, rv, F1, sF, R1, V1⟩ => ?_
  obtain ⟨H2, F2, I2, s2, R2, V2⟩ := hp I1 R1 V1 q2
  exact ⟨v, H2, I2, rv, k v F2 H2 (sF.trans s2) R2 V2⟩
theorem s_ret (h : PE X c (RdE X.K f)) : PE X c (RdE X.K (mRet f)) := s_post (p := retV) (fun I R V q => by
  obtain ⟨H2, F2, I2, s2, R2, d, rfl, hd⟩ := freezeV I R V q
  exact ⟨H2, F2, I2, s2, R2, hd⟩) (fun e => rfl) h
theorem s_arg (h : PE X c (RdE X.K f)) : PE X c (RdE X.K (mArg f)) := s_post (p := argV) (fun {pins s B F H e σ v x y e'} I R V q => by
  have go : retV x e = some (y, e') → ∃ H2 F2, Inv X pins σ H2 s ∧ Sub F F2 ∧ SR X.K B F2 e' σ H2 ∧ VOk X.K B F2 H2 e' σ v y := fun q => by
    obtain ⟨H2, F2, I2, s2, R2, d, rfl, hd⟩ := freezeV I R V q
    exact ⟨H2, F2, I2, s2, R2, hd⟩
  cases x with
  | fz d => exact go q
  | own d => exact go q
  | sl i =>
    rw [argV_sl] at q
    split at q
    · rename_i hd; cases q; exact ⟨H, F, I, .refl F, R, V⟩
    · exact go q) (fun e => rfl) h
theorem mRet_fz {e e' : DEnv} {x : Val} (h : mRet f e = some (x, e')) : ∃ d, x = .fz d := by
  obtain ⟨⟨v, e1⟩, _, q⟩ := bindS h
  cases v with
  | fz d => cases q; exact ⟨_, rfl⟩
  | own d => cases q; exact ⟨_, rfl⟩
  | sl i =>
    have q : retV (.sl i) e1 = some (x, e') := q
    rw [retV_sl] at q
    split at q
    · cases q; exact ⟨_, rfl⟩
    · cases q
end

/-! ### arguments -/
/-- a value that waits -/
def VH (K : Fr) (F : Hp) (σ : List (Option V)) (v : V) : Val → Prop
  | .fz d => Den K F d v
  | .own _ => False
  | .sl i => σ[i]? = some (some v)
theorem VH.mono {K : Fr} {F G : Hp} {σ : List (Option V)} {v : V} {x : Val} (s : Sub F G) (h : VH K F σ v x) : VH K G σ v x := by
  cases x with
  | fz d => exact Den.mono s h
  | own d => exact h
  | sl i => exact h
theorem VH.view {K : Fr} {B : Bs} {F H : Hp} {e : DEnv} {σ : List (Option V)} {v : V} {x : Val} {d : D} (R : SR K B F e σ H) (h : VH K F σ v x) (l : look e x = some d) : View K F H d v := by
  cases x with
  | fz d' => cases l; exact View.of R.sub h
  | own d' => exact h.elim
  | sl i =>
    obtain ⟨a, h3, _, c, _⟩ := R.mutC (show mutAt e i = some d from l)
    rw [(show σ[i]? = some (some v) from h)] at h3; cases h3
    exact c.view
inductive VHs (K : Fr) (F : Hp) (σ : List (Option V)) : List V → List Val → Prop
  | nil : VHs K F σ [] []
  | cons {v : V} {vs : List V} {x : Val} {xs : List Val} : VH K F σ v x → VHs K F σ vs xs → VHs K F σ (v :: vs) (x :: xs)
inductive Views (K : Fr) (F H : Hp) : List D → List V → Prop
  | nil : Views K F H [] []
  | cons {d : D} {ds : List D} {v : V} {vs : List V} : View K F H d v → Views K F H ds vs → Views K F H (d :: ds) (v :: vs)
def lookAll (e : DEnv) : List Val → Option (List D)
  | [] => some []
  | x :: xs => do
    let d ← look e x
    let ds ← lookAll e xs
    some (d :: ds)
theorem VHs.views {K : Fr} {B : Bs} {F H : Hp} {e : DEnv} {σ : List (Option V)} (R : SR K B F e σ H) : ∀ {vs : List V} {xs : List Val} {ds : List D}, VHs K F σ vs xs → lookAll e xs = some ds → Views K F H ds vs
  | _, _, _, .nil, q => by cases q; exact .nil
  | _, _, _, .cons h t, q => by
    obtain ⟨d, q1, q⟩ := bindS q
    obtain ⟨ds, q2, q⟩ := bindS q
    cases q
    exact .cons (h.view R q1) (t.views R q2)
abbrev EvA := DEnv → Option (List Val × DEnv)
abbrev EvD := DEnv → Option (List D × DEnv)
def RdA (K : Fr) (f : EvA) : TA := fun σ H Q => ∃ (B : Bs) (F : Hp) (e : DEnv) (xs : List Val) (e' : DEnv), SR K B F e σ H ∧ f e = some (xs, e') ∧
  ∀ vs F' H', Sub F F' → SR K B F' e' σ H' → VHs K F' σ vs xs → Q vs H'
def RdD (K : Fr) (f : EvD) : TA := fun σ H Q => ∃ (B : Bs) (F : Hp) (e : DEnv) (ds : List D) (e' : DEnv), SR K B F e σ H ∧ f e = some (ds, e') ∧
  ∀ vs F' H', Sub F F' → SR K B F' e' σ H' → Dens K F' ds vs → Q vs H'
def mNilA : EvA := fun e => some ([], e)
def mConsA (f : Ev) (r : EvA) : EvA := fun e => do
  let (x, e1) ← mArg f e
  let (xs, e2) ← r e1
  some (x :: xs, e2)
def mNilD : EvD := fun e => some ([], e)
def mConsD (f : Ev) (r : EvD) : EvD := fun e => do
  let (x, e1) ← mRet f e
  let (ds, e2) ← r e1
  match x with
  | .fz d => some (d :: ds, e2)
  | _ => none
def items : D → Option (List D)
  | .tup ds => some ds
  | .lst ds => some ds
  | _ => none
def mStarD (f : Ev) (r : EvD) : EvD := fun e => do
  let (x, e1) ← f e
  let d ← look e1 x
  let ds ← items d
  let (es, e2) ← r e1
  some (ds ++ es, e2)
section
variable {X : Cx} {c : Expr} {es : List Expr} {f : Ev} {fr : EvA} {fd : EvD} {p : Pos}
theorem mArg_vh {K : Fr} {B : Bs} {F H : Hp} {e e' : DEnv} {σ : List (Option V)} {v : V} {x : Val} (h : mArg f e = some (x, e')) (V1 : VOk K B F H e' σ v x) : VH K F σ v x := by
  cases x with
  | fz d => exact V1
  | sl i => exact V1.2
  | own d =>
    obtain ⟨⟨w, e1⟩, _, q⟩ := bindS h
    have q : argV w e1 = some (.own d, e') := q
    cases w with
    | fz d => cases q
    | own d => cases q
    | sl i =>
      rw [argV_sl] at q
      split at q
      · cases q
      · rw [retV_sl] at q
        split at q <;> cases q
theorem sa_nil : PA X [] (RdA X.K mNilA) := pa_weak pa_nil fun σ H Q ⟨B, F, e, x, e', R, q, k⟩ => by
  cases q; exact k [] F H (.refl F) R .nil
theorem sa_cons (ha : PE X c (RdE X.K f)) (hr : PA X es (RdA X.K fr)) (hs : starEach (c :: es) X.env = (false, eval c X.env) :: starEach es X.env) : PA X (c :: es) (RdA X.K (mConsA f fr)) :=
  pa_weak (pa_cons (s_arg ha) hr hs) fun σ H Q ⟨B, F, e, x, e', R, q, k⟩ => by
    obtain ⟨⟨va, e1⟩, q1, q⟩ := bindS q
    obtain ⟨⟨xs, e2⟩, q2, q⟩ := bindS q
    cases q
    refine ⟨B, F, e, va, e1, R, q1, fun v F1 H1 s1 R1 V1 => ?_⟩
    refine ⟨B, F1, e1, xs, _, R1, q2, fun vs F2 H2 s2 R2 V2 => ?_⟩
    exact k _ F2 H2 (s1.trans s2) R2 (.cons ((mArg_vh q1 V1).mono s2) V2)
theorem sd_nil : PA X [] (RdD X.K mNilD) := pa_weak pa_nil fun σ H Q ⟨B, F, e, x, e', R, q, k⟩ => by
  cases q; exact k [] F H (.refl F) R .nil
theorem sd_cons (ha : PE X c (RdE X.K f)) (hr : PA X es (RdD X.K fd)) (hs : starEach (c :: es) X.env = (false, eval c X.env) :: starEach es X.env) : PA X (c :: es) (RdD X.K (mConsD f fd)) :=
  pa_weak (pa_cons (s_ret ha) hr hs) fun σ H Q ⟨B, F, e, x, e', R, q, k⟩ => by
    obtain ⟨⟨va, e1⟩, q1, q⟩ := bindS q
    obtain ⟨⟨xs, e2⟩, q2, q⟩ := bindS q
    obtain ⟨d, rfl⟩ := mRet_fz q1
    cases q
    refine ⟨B, F, e, _, e1, R, q1, fun v F1 H1 s1 R1 V1 => ?_⟩
    refine ⟨B, F1, e1, xs, _, R1, q2, fun vs F2 H2 s2 R2 V2 => ?_⟩
    exact k _ F2 H2 (s1.trans s2) R2 (.cons (Den.mono s2 V1) V2)
theorem items_seq {K : Fr} {F H : Hp} {d : D} {ds : List D} {v : V} (s : Sub F H) (h : View K F H d v) (q : items d = some ds) : ∃ a xs, v = .ref a ∧ (SqT K H a xs ∨ SqL K H a xs) ∧ Dens K F ds xs := by
  cases d with
  | tup es => cases q; obtain ⟨a, xs, h1, h2, h3⟩ := h; exact ⟨a, xs, h1, .inl (s.seqT h2), h3⟩
  | lst es => cases q; obtain ⟨a, xs, h1, h2, h3⟩ := h; exact ⟨a, xs, h1, .inr (.inl h2), h3⟩
  | _ => cases q
theorem sd_star (ha : PE X c (RdE X.K f)) (hr : PA X es (RdD X.K fd)) : PA X (.Starred c p :: es) (RdD X.K (mStarD f fd)) :=
  pa_weak (StX.pa_star ha hr) fun σ H Q ⟨B, F, e, x, e', R, q, k⟩ => by
    obtain ⟨⟨va, e1⟩, q1, q⟩ := bindS q
    obtain ⟨d, q2, q⟩ := bindS q
    obtain ⟨ds, q3, q⟩ := bindS q
    obtain ⟨⟨xs, e2⟩, q4, q⟩ := bindS q
    cases q
    refine ⟨B, F, e, _, e1, R, q1, fun v F1 H1 s1 R1 V1 => ?_⟩
    obtain ⟨a, ys, rfl, h2, h3⟩ := items_seq R1.sub (V1.view R1 q2) q3
    refine ⟨a, ys, rfl, h2, B, F1, e1, xs, _, R1, q4, fun vs F2 H2 s2 R2 V2 => ?_⟩
    exact k _ F2 H2 (s1.trans s2) R2 ((h3.mono s2).append V2)
end

/-! ### displays of tuples and lists -/
def LINE : Nat := 16777216
theorem line_eq : LINE = sizeLine := sizeLine_eq.symm
def mTup (f : EvD) : Ev := fun e => do
  let (ds, e1) ← f e
  if ds.length ≤ LINE then some (.fz (.tup ds), e1) else none
def mLst (f : EvD) : Ev := fun e => do
  let (ds, e1) ← f e
  if ds.length ≤ LINE then some (.own (.lst ds), e1) else none
theorem R0.newL {K : Fr} {F H : Hp} {a : Addr} {xs : List V} {ds : List D} (s : Sub F H) (h : H a = none) (t : Dens K F ds xs) : R0 K F H F (upd H a (.lst xs)) (.ref a) (.own (.lst ds)) :=
  ⟨a, rfl, h, s.none h, xs, upd_same, t⟩
theorem R0.newT {K : Fr} {F H : Hp} {a : Addr} {xs : List V} {ds : List D} (s : Sub F H) (h : H a = none) (t : Dens K F ds xs) : R0 K F H (upd F a (.tup xs)) (upd H a (.tup xs)) (.ref a) (.fz (.tup ds)) :=
  .tup (.inl (.inl upd_same)) (t.mono (.upd (s.none h)))
section
variable {X : Cx} {es : List Expr} {fd : EvD} {pos : Pos}
theorem s_tup {k : Nat} (h : PA X es (RdD X.K fd)) : PE X (.Tuple es k pos) (RdE X.K (mTup fd)) := pe_weak (pe_tup h) fun σ H Q ⟨B, F, e, x, e', R, q, k⟩ => by
  obtain ⟨⟨ds, e1⟩, q1, q⟩ := bindS q
  dsimp only at q
  split at q
  · rename_i hl
    cases q
    refine ⟨B, F, e, ds, _, R, q1, fun vs F1 H1 s1 R1 V1 => ⟨by rw [V1.length, ← line_eq]; exact hl, fun p hp => ?_⟩⟩
    have x := Ext.newF (o := .tup vs) R1.sub hp
    exact k _ _ _ (s1.trans x.f) (R1.ext x) ((R0.newT R1.sub hp V1).vok R1 x)
  · cases q
theorem s_lst (h : PA X es (RdD X.K fd)) : PE X (.List es pos) (RdE X.K (mLst fd)) := pe_weak (pe_lst h) fun σ H Q ⟨B, F, e, x, e', R, q, k⟩ => by
  obtain ⟨⟨ds, e1⟩, q1, q⟩ := bindS q
  dsimp only at q
  split at q
  · rename_i hl
    cases q
    refine ⟨B, F, e, ds, _, R, q1, fun vs F1 H1 s1 R1 V1 => ⟨by rw [V1.length, ← line_eq]; exact hl, fun p hp => ?_⟩⟩
    have x := Ext.new (o := .lst vs) R1.sub hp
    exact k _ _ _ (s1.trans x.f) (R1.ext x) ((R0.newL R1.sub hp V1).vok R1 x)
  · cases q
end

/-! ### calls of what is built in -/
def CallD (K : Fr) (r : List V → Hp → VK → Prop) (g : List D → Option Val) : Prop := ∀ {vs : List V} {F H : Hp} {ds : List D} {z : Val} {Q : VK}, Sub F H → Views K F H ds vs → g ds = some z →
  (∀ v F' H', Ext F H F' H' → R0 K F H F' H' v z → Q v H') → r vs H Q
def mCall (g : List D → Option Val) (f : EvA) : Ev := fun e => do
  let (xs, e1) ← f e
  let ds ← lookAll e1 xs
  let z ← g ds
  some (z, e1)
section
variable {X : Cx} {c : Expr} {es : List Expr} {fa : EvA} {p pos : Pos} {x : Str} {id T : String} {r : List V → Hp → VK → Prop} {g : List D → Option Val}
theorem rd_call (hr : CallD X.K r g) {σ : List (Option V)} {H : Hp} {Q : VK} (h : RdE X.K (mCall g fa) σ H Q) : tCB r (RdA X.K fa) σ H Q := by
  obtain ⟨B, F, e, x, e', R, q, k⟩ := h
  obtain ⟨⟨xs, e1⟩, q1, q⟩ := bindS q
  obtain ⟨ds, q2, q⟩ := bindS q
  obtain ⟨z, q3, q⟩ := bindS q
  cases q
  refine ⟨B, F, e, xs, _, R, q1, fun vs F1 H1 s1 R1 V1 => ?_⟩
  refine hr R1.sub (V1.views R1 q2) q3 fun v F' H' x0 r0 => ?_
  exact k v F' H' (s1.trans x0.f) (R1.ext x0) (r0.vok R1 x0)
theorem s_callB (hc : CallR X (.builtin id) r) (hr : CallD X.K r g) (hg : Gl X x) (hm : X.mg x = none) (hv : bootBuiltins x = some (.builtin id)) (ha : PA X (c :: es) (RdA X.K fa)) (hn : x ≠ "__name__") (hdb : (x == ("__debug__" : Str)) = false)
    (he : starEach (c :: es) X.env = (false, eval c X.env) :: starEach es X.env) (hpl : (backTo pos (starEach es X.env)).any (·.1) = false) : PE X (.Call (.Name x p) (c :: es) [] pos) (RdE X.K (mCall g fa)) :=
  pe_weak (pe_callB hc hg hm hv ha hn hdb he hpl) fun _ _ _ h => rd_call hr h
theorem s_callTy (hc : CallR X (.type T) r) (hr : CallD X.K r g) (hg : Gl X x) (hm : X.mg x = none) (hv : bootBuiltins x = some (.type T)) (ha : PA X (c :: es) (RdA X.K fa)) (hn : x ≠ "__name__") (hdb : (x == ("__debug__" : Str)) = false)
    (he : starEach (c :: es) X.env = (false, eval c X.env) :: starEach es X.env) (hpl : (backTo pos (starEach es X.env)).any (·.1) = false) : PE X (.Call (.Name x p) (c :: es) [] pos) (RdE X.K (mCall g fa)) :=
  pe_weak (pe_callTy hc hg hm hv ha hn hdb he hpl) fun _ _ _ h => rd_call hr h
end

/-! ### unary operators, tests, and, or, if -/
def truth : D → Option Bool
  | .non => some false
  | .bl b => some b
  | .int i => some (i != 0)
  | .str x => if x.length ≤ LINE then some (x.length != 0) else none
  | .lst ds => some (!ds.isEmpty)
  | .tup ds => some (!ds.isEmpty)
  | .dk _ => none
  | .dt _ => none
  | .scr _ => none
abbrev EvT := DEnv → Option (Bool × DEnv)
def RdT (K : Fr) (f : EvT) : TT := fun σ H Q => ∃ (B : Bs) (F : Hp) (e : DEnv) (b : Bool) (e' : DEnv), SR K B F e σ H ∧ f e = some (b, e') ∧
  ∀ F' H', Sub F F' → SR K B F' e' σ H' → Q b H'
def mTruth (f : Ev) : EvT := fun e => do
  let (x, e1) ← f e
  let d ← look e1 x
  let b ← truth d
  some (b, e1)
def mAndT (f g : EvT) : EvT := fun e => do
  let (b, e1) ← f e
  if b then g e1 else some (false, e1)
def mOrT (f g : EvT) : EvT := fun e => do
  let (b, e1) ← f e
  if b then some (true, e1) else g e1
def mNotT (f : EvT) : EvT := fun e => do
  let (b, e1) ← f e
  some (!b, e1)
def mIf (t : EvT) (f g : Ev) : Ev := fun e => do
  let (b, e1) ← t e
  if b then f e1 else g e1
def mUn (g : D → Option Val) (f : Ev) : Ev := fun e => do
  let (x, e1) ← f e
  let d ← look e1 x
  let z ← g d
  some (z, e1)
def UnD (K : Fr) (r : V → Hp → VK → Prop) (g : D → Option Val) : Prop := ∀ {x : V} {F H : Hp} {d : D} {z : Val} {Q : VK}, Sub F H → View K F H d x → g d = some z →
  (∀ v F' H', Ext F H F' H' → R0 K F H F' H' v z → Q v H') → r x H Q
/-- and, or of truths as values -/
def mAndV (f g : Ev) : Ev := fun e => do
  let (x, e1) ← f e
  match x with
  | .fz (.bl true) => g e1
  | .fz (.bl false) => some (.fz (.bl false), e1)
  | _ => none
def mOrV (f g : Ev) : Ev := fun e => do
  let (x, e1) ← f e
  match x with
  | .fz (.bl false) => g e1
  | .fz (.bl true) => some (.fz (.bl true), e1)
  | _ => none
def mNotV (t : EvT) : Ev := fun e => do
  let (b, e1) ← t e
  some (.fz (.bl (!b)), e1)
theorem truth_view {K : Fr} {F H : Hp} {d : D} {v : V} {b : Bool} (s : Sub F H) (h : View K F H d v) (q : truth d = some b) : TruV K v H b := by
  cases d with
  | non => cases q; rw [(show v = .non from h)]; rfl
  | bl k => cases q; rw [(show v = .bl _ from h)]; rfl
  | int i => cases q; rw [(show v = .int i from h)]; rfl
  | str x =>
    have q : (if x.length ≤ LINE then some (x.length != 0) else none) = some b := q
    split at q
    · rename_i hl
      cases q
      rw [(show v = .str x from h)]
      refine ⟨by rw [← line_eq]; exact hl, ?_⟩
      cases x.length with
      | zero => rfl
      | succ n => exact (bne_iff_ne.mpr (by omega)).symm
    · cases q
  | lst ds => cases q; obtain ⟨a, xs, rfl, h2, h3⟩ := h; exact .inl ⟨xs, .inl h2, by cases h3 <;> rfl⟩
  | tup ds => cases q; obtain ⟨a, xs, rfl, h2, h3⟩ := h; exact .inr (.inl ⟨xs, s.seqT h2, by cases h3 <;> rfl⟩)
  | dk es => cases q
  | dt es => cases q
  | scr es => cases q
end Pv
end

section
set_option maxRecDepth 100000
set_option maxHeartbeats 4000000
namespace Pv
open PySem PySem.Spec PySem.W L2

/-! ### tests -/
def mTestB (f : Ev) : EvT := fun e => do
  let (x, e1) ← f e
  match x with
  | .fz (.bl b) => some (b, e1)
  | _ => none
section
variable {X : Cx} {a b c : Expr} {es : List Expr} {f g fa fb fc : Ev} {t u : EvT} {pos : Pos}
theorem rd_testB {σ : List (Option V)} {H : Hp} {Q : Bool → Hp → Prop} (h : RdT X.K (mTestB f) σ H Q) : RdE X.K f σ H (fun x H' => ∃ k, x = .bl k ∧ Q k H') := by
  obtain ⟨B, F, e, x, e', R, q, k⟩ := h
  obtain ⟨⟨va, e1⟩, q1, q⟩ := bindS q
  dsimp only at q
  split at q
  · cases q
    refine ⟨B, F, e, _, _, R, q1, fun v F' H' s R' V' => ?_⟩
    cases (show Den X.K F' (.bl _) v from V')
    exact ⟨_, rfl, k F' H' s R'⟩
  · cases q
theorem st_cmp {op : CmpOp} {r : R2} {gg : D → D → Option Val} (ho : OpR X (compareOp op) r) (hr : R2D X.K r gg) (ha : PE X a (RdE X.K fa)) (hb : PE X b (RdE X.K fb)) (hm : behindInMarks op b = false) : PT X (.Compare a [op] [b] pos) (RdT X.K (mTestB (mBin gg fa fb))) :=
  pt_weak (pt_cmpR ho ha hb hm) fun _ _ _ h => rd_bin hr (rd_testB h)
theorem st_truth (h : PE X c (RdE X.K f)) (he : ∀ whole, isTrue c X.env whole = (do let v ← whole; standAt c.pos; holding [v] (truthy v))) : PT X c (RdT X.K (mTruth f)) :=
  pt_weak (pt_truth h he) fun σ H Q ⟨B, F, e, b, e', R, q, k⟩ => by
    obtain ⟨⟨va, e1⟩, q1, q⟩ := bindS q
    obtain ⟨d, q2, q⟩ := bindS q
    obtain ⟨b', q3, q⟩ := bindS q
    cases q
    exact ⟨B, F, e, _, _, R, q1, fun v F' H' s R' V' => ⟨_, truth_view R'.sub (V'.view R' q2) q3, k F' H' s R'⟩⟩
theorem st_not (h : PT X a (RdT X.K t)) : PT X (.UnaryOp .Not a pos) (RdT X.K (mNotT t)) := pt_weak (pt_not h) fun σ H Q ⟨B, F, e, b, e', R, q, k⟩ => by
  obtain ⟨⟨va, e1⟩, q1, q⟩ := bindS q
  cases q
  exact ⟨B, F, e, _, _, R, q1, fun F' H' s R' => k F' H' s R'⟩
theorem sw_and1 (h : PT X a (RdT X.K t)) : PW X (.BoolOp .And [a] pos) (RdT X.K t) := pw_and1 h
theorem sw_or1 (h : PT X a (RdT X.K t)) : PW X (.BoolOp .Or [a] pos) (RdT X.K t) := pw_or1 h
theorem sw_and (h : PT X a (RdT X.K t)) (h2 : PW X (.BoolOp .And (b :: es) pos) (RdT X.K u)) : PW X (.BoolOp .And (a :: b :: es) pos) (RdT X.K (mAndT t u)) :=
  pw_weak (pw_and h h2) fun σ H Q ⟨B, F, e, x, e', R, q, k⟩ => by
    obtain ⟨⟨va, e1⟩, q1, q⟩ := bindS q
    refine ⟨B, F, e, _, _, R, q1, fun F' H' s R' => ?_⟩
    cases va with
    | true => rw [if_pos rfl]; exact ⟨B, F', e1, x, e', R', q, fun F2 H2 s2 R2 => k F2 H2 (s.trans s2) R2⟩
    | false => rw [if_neg Bool.false_ne_true]; cases q; exact k F' H' s R'
theorem sw_or (h : PT X a (RdT X.K t)) (h2 : PW X (.BoolOp .Or (b :: es) pos) (RdT X.K u)) : PW X (.BoolOp .Or (a :: b :: es) pos) (RdT X.K (mOrT t u)) :=
  pw_weak (pw_or h h2) fun σ H Q ⟨B, F, e, x, e', R, q, k⟩ => by
    obtain ⟨⟨va, e1⟩, q1, q⟩ := bindS q
    refine ⟨B, F, e, _, _, R, q1, fun F' H' s R' => ?_⟩
    cases va with
    | true => rw [if_pos rfl]; cases q; exact k F' H' s R'
    | false => rw [if_neg Bool.false_ne_true]; exact ⟨B, F', e1, x, e', R', q, fun F2 H2 s2 R2 => k F2 H2 (s.trans s2) R2⟩

/-! ### the same as values -/
def mNotB (f : Ev) : Ev := fun e => do
  let (x, e1) ← f e
  match x with
  | .fz (.bl b) => some (.fz (.bl (!b)), e1)
  | _ => none
theorem s_not (h : PE X a (RdE X.K f)) : PE X (.UnaryOp .Not a pos) (RdE X.K (mNotB f)) := pe_weak (pe_not h) fun σ H Q ⟨B, F, e, x, e', R, q, k⟩ => by
  obtain ⟨⟨va, e1⟩, q1, q⟩ := bindS q
  dsimp only at q
  split at q
  · cases q
    refine ⟨B, F, e, _, _, R, q1, fun v F' H' s R' V' => ?_⟩
    cases (show Den X.K F' (.bl _) v from V')
    exact ⟨_, rfl, k _ F' H' s R' (.bl _)⟩
  · cases q
theorem s_and (h : PE X a (RdE X.K f)) (h2 : PE X (.BoolOp .And (b :: es) pos) (RdE X.K g)) : PE X (.BoolOp .And (a :: b :: es) pos) (RdE X.K (mAndV f g)) := pe_weak (pe_and h h2) fun σ H Q ⟨B, F, e, x, e', R, q, k⟩ => by
  obtain ⟨⟨va, e1⟩, q1, q⟩ := bindS q
  dsimp only at q
  split at q
  · refine ⟨B, F, e, _, _, R, q1, fun v F' H' s R' V' => ?_⟩
    cases (show Den X.K F' (.bl _) v from V')
    refine ⟨true, rfl, ?_⟩
    rw [if_pos rfl]
    exact ⟨B, F', _, x, e', R', q, fun v F2 H2 s2 R2 V2 => k v F2 H2 (s.trans s2) R2 V2⟩
  · cases q
    refine ⟨B, F, e, _, _, R, q1, fun v F' H' s R' V' => ?_⟩
    cases (show Den X.K F' (.bl _) v from V')
    refine ⟨false, rfl, ?_⟩
    rw [if_neg Bool.false_ne_true]
    exact k _ F' H' s R' (.bl _)
  · cases q
theorem s_or (h : PE X a (RdE X.K f)) (h2 : PE X (.BoolOp .Or (b :: es) pos) (RdE X.K g)) : PE X (.BoolOp .Or (a :: b :: es) pos) (RdE X.K (mOrV f g)) := pe_weak (pe_or h h2) fun σ H Q ⟨B, F, e, x, e', R, q, k⟩ => by
  obtain ⟨⟨va, e1⟩, q1, q⟩ := bindS q
  dsimp only at q
  split at q
  · refine ⟨B, F, e, _, _, R, q1, fun v F' H' s R' V' => ?_⟩
    cases (show Den X.K F' (.bl _) v from V')
    refine ⟨false, rfl, ?_⟩
    rw [if_neg Bool.false_ne_true]
    exact ⟨B, F', _, x, e', R', q, fun v F2 H2 s2 R2 V2 => k v F2 H2 (s.trans s2) R2 V2⟩
  · cases q
    refine ⟨B, F, e, _, _, R, q1, fun v F' H' s R' V' => ?_⟩
    cases (show Den X.K F' (.bl _) v from V')
    refine ⟨true, rfl, ?_⟩
    rw [if_pos rfl]
    exact k _ F' H' s R' (.bl _)
  · cases q
theorem s_one {op : BoolOp} (h : PE X a (RdE X.K f)) : PE X (.BoolOp op [a] pos) (RdE X.K f) := pe_one h
theorem s_ite (hc : PT X c (RdT X.K t)) (ha : PE X a (RdE X.K f)) (hb : PE X b (RdE X.K g)) : PE X (.IfExp c a b pos) (RdE X.K (mIf t f g)) := pe_weak (pe_ifExp hc ha hb) fun σ H Q ⟨B, F, e, x, e', R, q, k⟩ => by
  obtain ⟨⟨va, e1⟩, q1, q⟩ := bindS q
  refine ⟨B, F, e, _, _, R, q1, fun F' H' s R' => ?_⟩
  cases va with
  | true => rw [if_pos rfl]; exact ⟨B, F', e1, x, e', R', q, fun v F2 H2 s2 R2 V2 => k v F2 H2 (s.trans s2) R2 V2⟩
  | false => rw [if_neg Bool.false_ne_true]; exact ⟨B, F', e1, x, e', R', q, fun v F2 H2 s2 R2 V2 => k v F2 H2 (s.trans s2) R2 V2⟩
theorem s_un {op : UnaryOp} {r : V → Hp → VK → Prop} {gg : D → Option Val} (ho : UnR X (unaryOp op) r) (hr : UnD X.K r gg) (ha : PE X a (RdE X.K f)) : PE X (.UnaryOp op a pos) (RdE X.K (mUn gg f)) := pe_weak (pe_un ho ha) fun σ H Q ⟨B, F, e, x, e', R, q, k⟩ => by
  obtain ⟨⟨va, e1⟩, q1, q⟩ := bindS q
  obtain ⟨d, q2, q⟩ := bindS q
  obtain ⟨z, q3, q⟩ := bindS q
  cases q
  refine ⟨B, F, e, _, _, R, q1, fun v F1 H1 s1 R1 V1 => ?_⟩
  exact hr R1.sub (V1.view R1 q2) q3 fun v F' H' x0 r0 => k v F' H' (s1.trans x0.f) (R1.ext x0) (r0.vok R1 x0)

/-! ### slices -/
abbrev EvO := DEnv → Option (Option Int × DEnv)
def RdO (K : Fr) (f : EvO) : TO := fun σ H Q => ∃ (B : Bs) (F : Hp) (e : DEnv) (o : Option Int) (e' : DEnv), SR K B F e σ H ∧ f e = some (o, e') ∧ ∀ F' H', Sub F F' → SR K B F' e' σ H' → Q o H'
def mNoO : EvO := fun e => some (none, e)
def mSomeO (f : Ev) : EvO := fun e => do
  let (x, e1) ← f e
  match x with
  | .fz (.int i) => some (some i, e1)
  | _ => none
theorem po_weak {o : Option Expr} {t t' : TO} (h : PO X o t) (w : ∀ σ H Q, t' σ H Q → t σ H Q) : PO X o t' := ⟨fun pins s σ H Q I q => h.run pins s σ H Q I (w σ H Q q)⟩
theorem so_none : PO X none (RdO X.K mNoO) := po_weak po_none fun σ H Q ⟨B, F, e, x, e', R, q, k⟩ => by cases q; exact k F H (.refl F) R
theorem so_some (h : PE X a (RdE X.K f)) : PO X (some a) (RdO X.K (mSomeO f)) := po_weak (po_some h) fun σ H Q ⟨B, F, e, x, e', R, q, k⟩ => by
  obtain ⟨⟨va, e1⟩, q1, q⟩ := bindS q
  dsimp only at q
  split at q
  · cases q
    refine ⟨B, F, e, _, _, R, q1, fun v F' H' s R' V' => ?_⟩
    cases (show Den X.K F' (.int _) v from V')
    exact ⟨_, rfl, k F' H' s R'⟩
  · cases q
def SlD (K : Fr) (r : V → Option Int → Option Int → Hp → VK → Prop) (g : D → Option Int → Option Int → Option Val) : Prop := ∀ {x : V} {F H : Hp} {d : D} {lo hi : Option Int} {z : Val} {Q : VK}, Sub F H → View K F H d x → g d lo hi = some z →
  (∀ v F' H', Ext F H F' H' → R0 K F H F' H' v z → Q v H') → r x lo hi H Q
def mSlice (g : D → Option Int → Option Int → Option Val) (f : Ev) (fl fh : EvO) : Ev := fun e => do
  let (x, e1) ← f e
  let x' ← hold x
  let (lo, e2) ← fl e1
  let (hi, e3) ← fh e2
  let d ← look e3 x'
  let z ← g d lo hi
  some (z, e3)
theorem s_slice {r : V → Option Int → Option Int → Hp → VK → Prop} {gg : D → Option Int → Option Int → Option Val} {lo hi : Option Expr} {fl fh : EvO} {p2 : Pos} (hs : SlR X r) (hr : SlD X.K r gg) (ha : PE X a (RdE X.K f)) (hl : PO X lo (RdO X.K fl)) (hh : PO X hi (RdO X.K fh)) :
    PE X (.Subscript a (.Slice lo hi none p2) pos) (RdE X.K (mSlice gg f fl fh)) := pe_weak (pe_slice hs ha hl hh) fun σ H Q ⟨B, F, e, x, e', R, q, k⟩ => by
  obtain ⟨⟨va, e1⟩, q1, q⟩ := bindS q
  obtain ⟨va', q2, q⟩ := bindS q
  obtain ⟨⟨lo', e2⟩, q3, q⟩ := bindS q
  obtain ⟨⟨hi', e3⟩, q4, q⟩ := bindS q
  obtain ⟨d, q5, q⟩ := bindS q
  obtain ⟨z, q6, q⟩ := bindS q
  cases q
  refine ⟨B, F, e, va, e1, R, q1, fun x F1 H1 s1 R1 V1 => ?_⟩
  obtain ⟨F1', s1', R1', V1'⟩ := hold_ok R1 V1 q2
  refine ⟨B, F1', e1, lo', e2, R1', q3, fun F2 H2 s2 R2 => ⟨B, F2, e2, hi', _, R2, q4, fun F3 H3 s3 R3 => ?_⟩⟩
  refine hr R3.sub (V1'.held (s2.trans s3) q2 q5 R3) q6 fun v F' H' x0 r0 => ?_
  exact k v F' H' ((((s1.trans s1').trans s2).trans s3).trans x0.f) (R3.ext x0) (r0.vok R3 x0)
end

/-! ### methods of built-in things -/
structure MFact (X : Cx) (T : String) (name : Str) (id : String) (r : V → List V → Hp → VK → Prop) : Prop where
  pa : PlainAttrs T
  slot : PySem.Slot T name id
  hty : typeOf (.builtin id) = pure (.type "method_descriptor")
  hm : MtR X id r
def TyC (X : Cx) (x : V) (T : String) (H : Hp) : Prop := ∀ (pins : List (Addr × Obj)) (s : Shared) (σ : List (Option V)) (v : Value), Inv X pins σ H s → RelV x v → s.TypeIs v T ∧ ∀ a, v = .ref a → ∃ ob, s.heap.get? a = some ob ∧ ob.dict = none
def tyOf : D → Nat
  | .lst _ => 1
  | .dk _ => 2
  | .dt _ => 2
  | .str _ => 3
  | _ => 0
def tyName : Nat → String
  | 1 => "list"
  | 2 => "dict"
  | 3 => "str"
  | _ => ""
theorem tyc_view {X : Cx} {F H : Hp} {d : D} {x : V} {n : Nat} (h : View X.K F H d x) (e : tyOf d = n) (n0 : n ≠ 0) : TyC X x (tyName n) H := by
  intro pins s σ v I r
  cases d with
  | lst ds =>
    obtain ⟨a, xs, rfl, h2, _⟩ := h
    cases e
    cases r
    obtain ⟨its, _, pl, _⟩ := I.list (.inl h2)
    refine ⟨pl.isList.typeIs, fun a e => ?_⟩
    cases e
    obtain ⟨o, n, e, c, hd, _⟩ := pl
    exact ⟨o, e, hd⟩
  | dk es =>
    obtain ⟨a, xs, rfl, h2, _⟩ := h
    cases e
    cases r
    obtain ⟨t1, t2, _⟩ := isD_at I (.inl ⟨xs, h2⟩)
    exact ⟨t1, t2⟩
  | dt es =>
    obtain ⟨a, xs, rfl, h2, _⟩ := h
    cases e
    cases r
    obtain ⟨t1, t2, _⟩ := isD_at I (.inr ⟨xs, h2⟩)
    exact ⟨t1, t2⟩
  | str z =>
    rw [(show x = .str z from h)] at r
    cases e
    obtain ⟨t, rfl⟩ := r
    exact ⟨typeIs_str s z t, fun _ e => nomatch e⟩
  | _ => exact absurd e.symm n0
def tMth (X : Cx) (name : Str) (to : TE) (t : TA) : TE := fun σ H Q => to σ H fun x H1 => ∃ T id r, MFact X T name id r ∧ TyC X x T H1 ∧ t σ H1 fun xs H2 => r x xs H2 Q
section
variable {X : Cx} {o e : Expr} {es : List Expr} {to : TE} {t : TA} {name : Str} {apos cpos : Pos}
theorem pe_mth0 (ho : PE X o to) (hbase : attributeBase o name X.env (eval o X.env) = eval o X.env) (hline : (apos.endLine == cpos.line) = true) : PE X (.Call (.Attribute o name apos) [] [] cpos) (tMth X name to tNil) := by
  refine ⟨fun pins s σ H Q I h => ?_⟩
  refine wpAny_Call_method0_late hbase hline (thn (ho.run pins s σ H _ I h) fun v s1 ⟨x, H1, I1, r1, T, id, r, M, ty, q1⟩ => ?_)
  obtain ⟨h1, h2⟩ := ty pins s1 σ v I1 r1
  exact ⟨T, id, M.pa, M.slot, M.hty, h1, h2, Calls.callWith_builtin rfl (PySem.evalArgs_none (M.hm pins s1 σ H1 x [] v [] Q I1 r1 .nil q1))⟩
theorem pe_mth (ho : PE X o to) (ha : PA X (e :: es) t) (hbase : attributeBase o name X.env (eval o X.env) = eval o X.env)
    (hfew : ((backTo cpos (starEach (e :: es) X.env)).all (fun x => !x.1) && (backToKw cpos (keywordEach [] X.env)).all (fun x => x.1.isSome)
      && decide ((e :: es).length + ([] : List Keyword).length + (if ([] : List Keyword).isEmpty then 0 else 1) < 30)) = true)
    (hline : (apos.endLine == cpos.line) = true) (hs : starEach (e :: es) X.env = (false, eval e X.env) :: starEach es X.env) (hplain : (backTo cpos (starEach es X.env)).any (·.1) = false) :
    PE X (.Call (.Attribute o name apos) (e :: es) [] cpos) (tMth X name to t) := by
  refine ⟨fun pins s σ H Q I h => ?_⟩
  refine wpAny_Call_method_late hbase hfew hline rfl (thn (ho.run pins s σ H _ I h) fun v s1 ⟨x, H1, I1, r1, T, id, r, M, ty, q1⟩ => ?_)
  obtain ⟨h1, h2⟩ := ty pins s1 σ v I1 r1
  refine ⟨T, id, M.pa, M.slot, M.hty, h1, h2, ?_⟩
  have hA := ha.run cpos pins s1 σ H1 _ I1 q1
  rw [hs] at hA ⊢
  refine Calls.callWith_builtin (by show (false || (backTo cpos (starEach es X.env)).any (·.1)) = false; rw [hplain] <;> rfl) (Calls.evalArgs_plain ?_)
  exact thn hA fun us s2 ⟨vs, H2, I2, r2, q2⟩ => M.hm pins s2 σ H2 x vs v us Q I2 r1 r2 q2
end
/-- a method that changes nothing -/
def MthD (X : Cx) (name : Str) (g : D → List D → Option Val) : Prop := ∀ (d : D) (ds : List D) (z : Val), g d ds = some z → ∃ (id : String) (r : V → List V → Hp → VK → Prop), tyOf d ≠ 0 ∧ MFact X (tyName (tyOf d)) name id r ∧
  ∀ {x : V} {vs : List V} {F H : Hp} {Q : VK}, Sub F H → View X.K F H d x → Views X.K F H ds vs → (∀ v F' H', Ext F H F' H' → R0 X.K F H F' H' v z → Q v H') → r x vs H Q
def mMth (g : D → List D → Option Val) (f : Ev) (fa : EvA) : Ev := fun e => do
  let (x, e1) ← f e
  let x' ← hold x
  let d1 ← look e1 x'
  let (xs, e2) ← fa e1
  let d ← look e2 x'
  let ds ← lookAll e2 xs
  let z ← g d ds
  if tyOf d1 = tyOf d then some (z, e2) else none
/-- a method that changes the thing of a name -/
def MutD (X : Cx) (name : Str) (g : D → List D → Option (D × D)) : Prop := ∀ (d : D) (ds : List D) (z d' : D), g d ds = some (z, d') → ∃ (id : String) (r : V → List V → Hp → VK → Prop), tyOf d ≠ 0 ∧ MFact X (tyName (tyOf d)) name id r ∧
  ∀ {a : Addr} {vs : List V} {F H : Hp} {Q : VK}, Sub F H → F a = none → Cont X.K F H a d → Dens X.K F ds vs → (∀ v o', Cont X.K F (upd H a o') a d' → Den X.K F z v → Q v (upd H a o')) → r (.ref a) vs H Q
def mMut (g : D → List D → Option (D × D)) (i : Nat) (fd : EvD) : Ev := fun e => do
  let d1 ← mutAt e i
  let (ds, e1) ← fd e
  let d ← mutAt e1 i
  let (z, d') ← g d ds
  if tyOf d1 = tyOf d then some (.fz z, setC e1 i d') else none
section
variable {X : Cx} {o c : Expr} {es : List Expr} {f : Ev} {fa : EvA} {fd : EvD} {name : Str} {apos cpos : Pos}
theorem rd_mth {g : D → List D → Option Val} (hg : MthD X name g) {σ : List (Option V)} {H : Hp} {Q : VK} (h : RdE X.K (mMth g f fa) σ H Q) : tMth X name (RdE X.K f) (RdA X.K fa) σ H Q := by
  obtain ⟨B, F, e, x, e', R, q, k⟩ := h
  obtain ⟨⟨va, e1⟩, q1, q⟩ := bindS q
  obtain ⟨va', q2, q⟩ := bindS q
  obtain ⟨d1, q3, q⟩ := bindS q
  obtain ⟨⟨xs, e2⟩, q4, q⟩ := bindS q
  obtain ⟨d, q5, q⟩ := bindS q
  obtain ⟨ds, q6, q⟩ := bindS q
  obtain ⟨z, q7, q⟩ := bindS q
  split at q
  · rename_i ht
    cases q
    obtain ⟨id, r, n0, M, call⟩ := hg d ds _ q7
    refine ⟨B, F, e, va, e1, R, q1, fun x F1 H1 s1 R1 V1 => ?_⟩
    obtain ⟨F1', s1', R1', V1'⟩ := hold_ok R1 V1 q2
    refine ⟨_, id, r, M, tyc_view (V1'.held (.refl _) q2 q3 R1') ht n0, B, F1', e1, xs, _, R1', q4, fun vs F2 H2 s2 R2 V2 => ?_⟩
    refine call R2.sub (V1'.held s2 q2 q5 R2) (V2.views R2 q6) fun v F' H' x0 r0 => ?_
    exact k v F' H' (((s1.trans s1').trans s2).trans x0.f) (R2.ext x0) (r0.vok R2 x0)
  · cases q
theorem s_mth0 {g : D → List D → Option Val} (hg : MthD X name g) (ho : PE X o (RdE X.K f)) (hbase : attributeBase o name X.env (eval o X.env) = eval o X.env) (hline : (apos.endLine == cpos.line) = true) : PE X (.Call (.Attribute o name apos) [] [] cpos) (RdE X.K (mMth g f mNilA)) :=
  pe_weak (pe_mth0 ho hbase hline) fun σ H Q h => by
    obtain ⟨B, F, e, va, e1, R, q1, k⟩ := rd_mth hg h
    refine ⟨B, F, e, va, e1, R, q1, fun v F' H' s R' V' => ?_⟩
    obtain ⟨T, id, r, M, ty, B2, F2, e2, xs, e3, R2, q2, k2⟩ := k v F' H' s R' V'
    cases q2
    exact ⟨T, id, r, M, ty, k2 [] F2 H' (.refl _) R2 .nil⟩
theorem s_mth {g : D → List D → Option Val} (hg : MthD X name g) (ho : PE X o (RdE X.K f)) (ha : PA X (c :: es) (RdA X.K fa)) (hbase : attributeBase o name X.env (eval o X.env) = eval o X.env)
    (hfew : ((backTo cpos (starEach (c :: es) X.env)).all (fun x => !x.1) && (backToKw cpos (keywordEach [] X.env)).all (fun x => x.1.isSome)
      && decide ((c :: es).length + ([] : List Keyword).length + (if ([] : List Keyword).isEmpty then 0 else 1) < 30)) = true)
    (hline : (apos.endLine == cpos.line) = true) (hs : starEach (c :: es) X.env = (false, eval c X.env) :: starEach es X.env) (hplain : (backTo cpos (starEach es X.env)).any (·.1) = false) : PE X (.Call (.Attribute o name apos) (c :: es) [] cpos) (RdE X.K (mMth g f fa)) :=
  pe_weak (pe_mth ho ha hbase hfew hline hs hplain) fun _ _ _ h => rd_mth hg h
theorem rd_mut {g : D → List D → Option (D × D)} {i : Nat} (hg : MutD X name g) {σ : List (Option V)} {H : Hp} {Q : VK} (h : RdE X.K (mMut g i fd) σ H Q) : tMth X name (tVar i) (RdD X.K fd) σ H Q := by
  obtain ⟨B, F, e, x, e', R, q, k⟩ := h
  obtain ⟨d1, q1, q⟩ := bindS q
  obtain ⟨⟨ds, e1⟩, q2, q⟩ := bindS q
  obtain ⟨d, q3, q⟩ := bindS q
  obtain ⟨⟨z, d'⟩, q4, q⟩ := bindS q
  dsimp only at q
  split at q
  · rename_i ht
    cases q
    obtain ⟨id, r, n0, M, call⟩ := hg d ds z d' q4
    obtain ⟨a, h1, h2, h3, _⟩ := R.mutC q1
    refine ⟨_, h1, _, id, r, M, tyc_view h3.view ht n0, B, F, e, ds, e1, R, q2, fun vs F1 H1 s1 R1 V1 => ?_⟩
    obtain ⟨a', h1', h2', h3', _⟩ := R1.mutC q3
    rw [h1] at h1'; cases h1'
    refine call R1.sub h2' h3' V1 fun v o' c dz => ?_
    exact k v F1 _ s1 (R1.mutate q3 h1 c) dz
  · cases q
theorem s_mut {g : D → List D → Option (D × D)} {i : Nat} (hg : MutD X name g) (ho : PE X o (tVar i)) (ha : PA X (c :: es) (RdD X.K fd)) (hbase : attributeBase o name X.env (eval o X.env) = eval o X.env)
    (hfew : ((backTo cpos (starEach (c :: es) X.env)).all (fun x => !x.1) && (backToKw cpos (keywordEach [] X.env)).all (fun x => x.1.isSome)
      && decide ((c :: es).length + ([] : List Keyword).length + (if ([] : List Keyword).isEmpty then 0 else 1) < 30)) = true)
    (hline : (apos.endLine == cpos.line) = true) (hs : starEach (c :: es) X.env = (false, eval c X.env) :: starEach es X.env) (hplain : (backTo cpos (starEach es X.env)).any (·.1) = false) : PE X (.Call (.Attribute o name apos) (c :: es) [] cpos) (RdE X.K (mMut g i fd)) :=
  pe_weak (pe_mth ho ha hbase hfew hline hs hplain) fun _ _ _ h => rd_mut hg h
theorem s_mut0 {g : D → List D → Option (D × D)} {i : Nat} (hg : MutD X name g) (ho : PE X o (tVar i)) (hbase : attributeBase o name X.env (eval o X.env) = eval o X.env) (hline : (apos.endLine == cpos.line) = true) : PE X (.Call (.Attribute o name apos) [] [] cpos) (RdE X.K (mMut g i mNilD)) :=
  pe_weak (pe_mth0 ho hbase hline) fun σ H Q h => by
    obtain ⟨v, h1, T, id, r, M, ty, B2, F2, e2, xs, e3, R2, q2, k2⟩ := rd_mut hg h
    cases q2
    exact ⟨v, h1, T, id, r, M, ty, k2 [] F2 H (.refl _) R2 .nil⟩
end
end Pv
end

section
set_option maxRecDepth 100000
set_option maxHeartbeats 4000000
namespace Pv
open PySem PySem.Spec PySem.W L2

/-! ### statements -/
inductive SOut where
  | nx (e : DEnv) | rt (v : Val) (e : DEnv) | bk (e : DEnv) | ct (e : DEnv)
abbrev ExS := DEnv → Option SOut
def SEnd (K : Fr) (B : Bs) (F : Hp) (D : Ends) : SOut → Prop
  | .nx e' => ∀ σ' F' H', Sub F F' → SR K B F' e' σ' H' → D.nx σ' H'
  | .rt x e' => ∀ v σ' F' H', Sub F F' → SR K B F' e' σ' H' → VOk K B F' H' e' σ' v x → D.rt v H'
  | .bk e' => ∀ σ' F' H', Sub F F' → SR K B F' e' σ' H' → D.bk σ' H'
  | .ct e' => ∀ σ' F' H', Sub F F' → SR K B F' e' σ' H' → D.ct σ' H'
theorem SEnd.mono {K : Fr} {B : Bs} {F G : Hp} {D : Ends} {o : SOut} (s : Sub F G) (h : SEnd K B F D o) : SEnd K B G D o := by
  cases o with
  | nx e => exact fun σ' F' H' s' => h σ' F' H' (s.trans s')
  | rt v e => exact fun v σ' F' H' s' => h v σ' F' H' (s.trans s')
  | bk e => exact fun σ' F' H' s' => h σ' F' H' (s.trans s')
  | ct e => exact fun σ' F' H' s' => h σ' F' H' (s.trans s')
def RdS (K : Fr) (x : ExS) : TS := fun D σ H => ∃ (B : Bs) (F : Hp) (e : DEnv) (o : SOut), SR K B F e σ H ∧ x e = some o ∧ SEnd K B F D o
def xNil : ExS := fun e => some (.nx e)
def xSeq (f g : ExS) : ExS := fun e => match f e with
  | some (.nx e1) => g e1
  | o => o
def xDrop (f : Ev) : ExS := fun e => do
  let (_, e1) ← f e
  some (.nx e1)
def xRet (f : Ev) : ExS := fun e => do
  let (v, e1) ← f e
  some (.rt v e1)
def xRetN : ExS := fun e => some (.rt (.fz .non) e)
def xIf (t : EvT) (f g : ExS) : ExS := fun e => do
  let (b, e1) ← t e
  if b then f e1 else g e1
def xBk : ExS := fun e => some (.bk e)
def xCt : ExS := fun e => some (.ct e)
def xNo : ExS := fun _ => none
section
variable {X : Cx} {c a b : Expr} {st : Stmt} {sts rest : List Stmt} {f g : ExS} {fe : Ev} {t : EvT} {pos : Pos}
theorem ss_nil : PSs X [] (RdS X.K xNil) := pss_weak pss_nil fun D σ H ⟨B, F, e, o, R, q, k⟩ => by cases q; exact k σ F H (.refl F) R
theorem ss_cons (h1 : PS X st (RdS X.K f)) (h2 : PSs X rest (RdS X.K g)) : PSs X (st :: rest) (RdS X.K (xSeq f g)) := pss_weak (pss_cons h1 h2) fun D σ H ⟨B, F, e, o, R, q, k⟩ => by
  unfold xSeq at q
  split at q
  · rename_i e1 q1
    exact ⟨B, F, e, _, R, q1, fun σ' F' H' s R' => ⟨B, F', e1, o, R', q, k.mono s⟩⟩
  · rename_i hn
    refine ⟨B, F, e, o, R, q, ?_⟩
    cases o with
    | nx e1 => exact absurd q (hn e1)
    | rt v e1 => exact k
    | bk e1 => exact k
    | ct e1 => exact k
theorem ss_one (h1 : PS X st (RdS X.K f)) : PSs X [st] (RdS X.K f) := pss_weak (pss_one h1) fun D σ H h => h
theorem s_drop (h : PE X c (RdE X.K fe)) (hs : swapsWith c none pos.line X.env = pure false) : PS X (.Expr c pos) (RdS X.K (xDrop fe)) := ps_weak (ps_expr h hs) fun D σ H ⟨B, F, e, o, R, q, k⟩ => by
  obtain ⟨⟨va, e1⟩, q1, q⟩ := bindS q
  cases q
  exact ⟨B, F, e, _, _, R, q1, fun v F' H' s R' V' => k σ F' H' s R'⟩
theorem s_return (h : PE X c (RdE X.K fe)) : PS X (.Return (some c) pos) (RdS X.K (xRet fe)) := ps_weak (ps_ret h) fun D σ H ⟨B, F, e, o, R, q, k⟩ => by
  obtain ⟨⟨va, e1⟩, q1, q⟩ := bindS q
  cases q
  exact ⟨B, F, e, _, _, R, q1, fun v F' H' s R' V' => k v σ F' H' s R' V'⟩
theorem s_returnN : PS X (.Return none pos) (RdS X.K xRetN) := ps_weak ps_retN fun D σ H ⟨B, F, e, o, R, q, k⟩ => by
  cases q
  exact k .non σ F H (.refl F) R .non
theorem s_if {sa sb : List Stmt} (hc : PT X c (RdT X.K t)) (ha : PSs X sa (RdS X.K f)) (hb : PSs X sb (RdS X.K g)) : PS X (.If c sa sb pos) (RdS X.K (xIf t f g)) := ps_weak (ps_if hc ha hb) fun D σ H ⟨B, F, e, o, R, q, k⟩ => by
  obtain ⟨⟨va, e1⟩, q1, q⟩ := bindS q
  refine ⟨B, F, e, _, _, R, q1, fun F' H' s R' => ?_⟩
  cases va with
  | true => rw [if_pos rfl]; exact ⟨B, F', e1, o, R', q, k.mono s⟩
  | false => rw [if_neg Bool.false_ne_true]; exact ⟨B, F', e1, o, R', q, k.mono s⟩
theorem s_pass : PS X (.Pass pos) (RdS X.K xNil) := ps_weak ps_pass fun D σ H ⟨B, F, e, o, R, q, k⟩ => by cases q; exact k σ F H (.refl F) R
theorem s_break : PS X (.Break pos) (RdS X.K xBk) := ps_weak ps_break fun D σ H ⟨B, F, e, o, R, q, k⟩ => by cases q; exact k σ F H (.refl F) R
theorem s_continue : PS X (.Continue pos) (RdS X.K xCt) := ps_weak ps_continue fun D σ H ⟨B, F, e, o, R, q, k⟩ => by cases q; exact k σ F H (.refl F) R
theorem s_no : PS X st (RdS X.K xNo) := ps_weak ps_never fun D σ H ⟨B, F, e, o, R, q, k⟩ => nomatch q
end

/-! ### a name is stored -/
def putV (i : Nat) (x : Val) (e : DEnv) : Option DEnv := if i < e.length then (match x with
  | .fz d => some (e.set i (.fz d))
  | .own d => some (e.set i (.own d))
  | .sl j => match e[j]? with
    | some (.own d) => some ((e.set j .em).set i (.own d))
    | _ => none) else none
def xSet (i : Nat) (f : Ev) : ExS := fun e => do
  let (x, e1) ← f e
  let e2 ← putV i x e1
  some (.nx e2)
section
variable {K : Fr} {B : Bs} {F H : Hp} {e e' : DEnv} {σ : List (Option V)} {v : V} {x : Val} {i : Nat}
theorem SR.put (R : SR K B F e σ H) (V1 : VOk K B F H e σ v x) (q : putV i x e = some e') : SR K B F e' (σ.set i (some v)) H := by
  unfold putV at q
  split at q
  · rename_i hi
    cases x with
    | fz d => cases q; exact R.store hi ⟨v, rfl, V1⟩ (fun z => nomatch z)
    | own d =>
      cases q
      obtain ⟨a, rfl, h1, h2, h3, h4⟩ := V1
      exact R.store hi ⟨a, rfl, h1, h2, h3⟩ fun _ j _ hj => h4 j hj
    | sl j =>
      dsimp only at q
      split at q
      · rename_i d hd
        cases q
        obtain ⟨a, h1, h2, h3, h4⟩ := R.slot j _ hd
        obtain ⟨_, w⟩ := V1
        rw [h1] at w; cases w
        have hjl : j < e.length := (List.getElem?_eq_some_iff.mp hd).1
        have R1 := R.word (i := j) (s := .em) trivial (fun z => nomatch z)
        refine R1.store (by rw [List.length_set]; exact hi) ⟨a, rfl, h2, h3, h4⟩ fun _ l _ hl z => ?_
        rw [mutAt_set] at hl
        split at hl
        · cases hl
        · rename_i n
          have njl : j ≠ l := fun w => n ⟨w, hjl⟩
          exact R.apart j l a njl (by unfold mutAt; rw [hd]; rfl) hl h1 z
      · cases q
  · cases q
end
section
variable {X : Cx} {c : Expr} {st : Stmt} {fe : Ev} {i : Nat}
theorem s_set {te : TE} (h : PS X st (tAsg te (gName i))) (w : ∀ σ H Q, RdE X.K fe σ H Q → te σ H Q) : PS X st (RdS X.K (xSet i fe)) := ps_weak h fun D σ H ⟨B, F, e, o, R, q, k⟩ => by
  obtain ⟨⟨va, e1⟩, q1, q⟩ := bindS q
  obtain ⟨e2, q2, q⟩ := bindS q
  cases q
  exact w σ H _ ⟨B, F, e, _, _, R, q1, fun v F' H' s R' V' => k _ F' H' s (R'.put V' q2)⟩
end

/-! ### targets -/
abbrev Bd := D → DEnv → Option DEnv
abbrev Bds := List D → DEnv → Option DEnv
def Apart (vs : List Nat) (σ σ' : List (Option V)) : Prop := σ'.length = σ.length ∧ ∀ j, j ∉ vs → σ'[j]? = σ[j]?
def RdG (K : Fr) (b : Bd) (vs : List Nat) : TG := fun v σ H Q => ∃ (B : Bs) (F : Hp) (e : DEnv) (d : D) (e' : DEnv), SR K B F e σ H ∧ Den K F d v ∧ b d e = some e' ∧ ∀ σ', SR K B F e' σ' H → Apart vs σ σ' → Q σ' H
def RdGs (K : Fr) (b : Bds) (vs : List Nat) : TGs := fun v σ H Q => ∃ (B : Bs) (F : Hp) (e : DEnv) (d : List D) (e' : DEnv), SR K B F e σ H ∧ Dens K F d v ∧ b d e = some e' ∧ ∀ σ', SR K B F e' σ' H → Apart vs σ σ' → Q σ' H
def bName (i : Nat) : Bd := fun d e => if i < e.length then some (e.set i (.fz d)) else none
def bNil : Bds := fun ds e => match ds with
  | [] => some e
  | _ => none
def bCons (b : Bd) (bs : Bds) : Bds := fun ds e => match ds with
  | [] => none
  | d :: ds => do
    let e1 ← b d e
    bs ds e1
def bTup (n : Nat) (bs : Bds) : Bd := fun d e => match d with
  | .tup ds => if ds.length = n then bs ds e else none
  | _ => none
section
variable {X : Cx} {t : Expr} {ts : List Expr} {b : Bd} {bs : Bds} {vs us : List Nat} {pos : Pos}
theorem pg_weak {g g' : TG} (h : PG X t g) (w : ∀ v σ H Q, g' v σ H Q → g v σ H Q) : PG X t g' := ⟨fun pins s σ H v u Q I r q => h.run pins s σ H v u Q I r (w v σ H Q q)⟩
theorem pgs_weak {g g' : TGs} (h : PGs X ts g) (w : ∀ v σ H Q, g' v σ H Q → g v σ H Q) : PGs X ts g' := ⟨fun pins s σ H v u Q I r q => h.run pins s σ H v u Q I r (w v σ H Q q)⟩
theorem sg_name {i : Nat} {x : Str} (hN : X.N.Nodup) (hi : X.N[i]? = some x) (hx : Loc X.env.scope x) (hf : X.fn x = true ∨ X.env.scope.names.lookup x = some .local) : PG X (.Name x pos) (RdG X.K (bName i) [i]) :=
  pg_weak (pg_name hN hi hx hf) fun v σ H Q ⟨B, F, e, d, e', R, hd, q, k⟩ => by
    unfold bName at q
    split at q
    · rename_i hl
      cases q
      refine k _ (R.store hl ⟨v, rfl, hd⟩ (fun z => nomatch z)) ⟨by rw [List.length_set], fun j hj => ?_⟩
      rw [List.getElem?_set_ne (fun z => hj (by simp [z]))]
    · cases q
theorem sgs_nil : PGs X [] (RdGs X.K bNil []) := pgs_weak pgs_nil fun v σ H Q ⟨B, F, e, d, e', R, hd, q, k⟩ => by
  cases hd with
  | nil => cases q; exact ⟨rfl, k σ R ⟨rfl, fun _ _ => rfl⟩⟩
  | cons _ _ => cases q
theorem sgs_cons (h1 : PG X t (RdG X.K b vs)) (h2 : PGs X ts (RdGs X.K bs us)) (hs : (assignEach (t :: ts) X.env).map (·.2) = assign t X.env :: (assignEach ts X.env).map (·.2)) : PGs X (t :: ts) (RdGs X.K (bCons b bs) (vs ++ us)) :=
  pgs_weak (pgs_cons h1 h2 hs) fun v σ H Q ⟨B, F, e, d, e', R, hd, q, k⟩ => by
    cases hd with
    | nil => cases q
    | cons h t =>
      obtain ⟨e1, q1, q⟩ := bindS q
      refine ⟨_, _, rfl, B, F, e, _, e1, R, h, q1, fun σ1 R1 ap => ⟨B, F, e1, _, e', R1, t, q, fun σ2 R2 ap2 => k σ2 R2 ⟨ap2.1.trans ap.1, fun j hj => ?_⟩⟩⟩
      rw [List.mem_append, not_or] at hj
      exact (ap2.2 j hj.2).trans (ap.2 j hj.1)
theorem sg_tup {n k : Nat} (hc : X.calm = true) (h : PGs X ts (RdGs X.K bs vs)) (hn : (assignEach ts X.env).length = n) (hst : (assignEach ts X.env).findIdx? (·.1) = none) : PG X (.Tuple ts k pos) (RdG X.K (bTup n bs) vs) :=
  pg_weak (pg_tup hc h hn hst) fun v σ H Q ⟨B, F, e, d, e', R, hd, q, k⟩ => by
    cases hd with
    | tup h1 h2 =>
      unfold bTup at q
      dsimp only at q
      split at q
      · rename_i hl
        exact ⟨_, _, rfl, R.sub.seqT h1, h2.length.trans hl, B, F, e, _, e', R, h2, q, k⟩
      · cases q
    | _ => cases q
end
/-- a target of a statement -/
def xBind (b : Bd) (f : Ev) : ExS := fun e => do
  let (x, e1) ← mRet f e
  match x with
  | .fz d => do
    let e2 ← b d e1
    some (.nx e2)
  | _ => none
theorem s_bind {X : Cx} {tg c : Expr} {f : Ev} {b : Bd} {vs : List Nat} {pos : Pos} (he : PE X c (RdE X.K f)) (hg : PG X tg (RdG X.K b vs)) (hs : swapsWithSole [tg] c pos.line X.env = pure false) (hw : swappedStores [tg] c X.env = pure none)
    (h1 : (assignEach [tg] X.env).map (·.2) = [assign tg X.env]) : PS X (.Assign [tg] c pos) (RdS X.K (xBind b f)) := ps_weak (ps_asg (s_ret he) hg hs hw h1) fun D σ H ⟨B, F, e, o, R, q, k⟩ => by
  obtain ⟨⟨va, e1⟩, q1, q⟩ := bindS q
  obtain ⟨d, rfl⟩ := mRet_fz q1
  obtain ⟨e2, q2, q⟩ := bindS q
  cases q
  exact ⟨B, F, e, _, _, R, q1, fun v F' H' s R' V' => ⟨B, F', e1, d, _, R', V', q2, fun σ' R2 _ => k σ' F' H' s R2⟩⟩

/-! ### x[i] = v -/
def SetD (K : Fr) (t : TSet) (g : D → D → D → Option D) : Prop := ∀ {a : Addr} {y w : V} {F H : Hp} {d dy dw d' : D} {Q : Hp → Prop}, Sub F H → F a = none → Cont K F H a d → View K F H dy y → Den K F dw w → g d dy dw = some d' →
  (∀ o', Cont K F (upd H a o') a d' → Q (upd H a o')) → t (.ref a) y w H Q
def xPut (g : D → D → D → Option D) (i : Nat) (fi fv : Ev) : ExS := fun e => do
  let (w, e1) ← mRet fv e
  match w with
  | .fz dw => do
    let (y, e2) ← fi e1
    let dy ← look e2 y
    let d ← mutAt e2 i
    let d' ← g d dy dw
    if (mutAt e1 i).isSome then some (.nx (setC e2 i d')) else none
  | _ => none
theorem s_put {X : Cx} {o ix c : Expr} {fi fv : Ev} {t : TSet} {g : D → D → D → Option D} {i : Nat} {pos pos' : Pos} (hset : PSet X t) (hg : SetD X.K t g) (ho : PE X o (tVar i)) (hi : PE X ix (RdE X.K fi)) (hv : PE X c (RdE X.K fv))
    (hs : swapsWithSole [.Subscript o ix pos'] c pos.line X.env = pure false) (hw : swappedStores [.Subscript o ix pos'] c X.env = pure none)
    (hsub : ∀ v, assign (.Subscript o ix pos') X.env v = (do
      let ov ← holding [v] (eval o X.env)
      let iv ← holding [v, ov] (eval ix X.env)
      standAt pos'
      holding [v, ov, iv] (setItem ov iv v)
      release [v, ov, iv] [])) (h1 : (assignEach [.Subscript o ix pos'] X.env).map (·.2) = [assign (.Subscript o ix pos') X.env]) : PS X (.Assign [.Subscript o ix pos'] c pos) (RdS X.K (xPut g i fi fv)) :=
  ps_weak (ps_asg (s_ret hv) (pg_sub ho hi hset hsub) hs hw h1) fun D σ H ⟨B, F, e, out, R, q, k⟩ => by
    obtain ⟨⟨va, e1⟩, q1, q⟩ := bindS q
    obtain ⟨dw, rfl⟩ := mRet_fz q1
    obtain ⟨⟨y, e2⟩, q2, q⟩ := bindS q
    obtain ⟨dy, q3, q⟩ := bindS q
    obtain ⟨d, q4, q⟩ := bindS q
    obtain ⟨d', q5, q⟩ := bindS q
    split at q
    · rename_i hm
      cases q
      obtain ⟨d0, hd0⟩ := Option.isSome_iff_exists.mp hm
      refine ⟨B, F, e, _, _, R, q1, fun w F1 H1 s1 R1 V1 => ?_⟩
      obtain ⟨a, h1, _, _, _⟩ := R1.mutC hd0
      refine ⟨_, h1, B, F1, e1, y, e2, R1, q2, fun v F2 H2 s2 R2 V2 => ?_⟩
      obtain ⟨a', h1', h2', h3', _⟩ := R2.mutC q4
      rw [h1] at h1'; cases h1'
      exact hg R2.sub h2' h3' (V2.view R2 q3) (Den.mono s2 V1) q5 fun o' c => k σ F2 _ (s1.trans s2) (R2.mutate q4 h1 c)
    · cases q

/-! ### for -/
def ItD (K : Fr) (F0 : Hp) (J : It) (ds : List D) : Prop := (∀ i H, i < ds.length → Sub F0 H → J.go i H) ∧ (∀ H, Sub F0 H → J.stop ds.length H) ∧
  ∀ i F H x H', i < ds.length → Sub F0 F → Sub F H → J.yld i H x H' → ∃ F' d, Ext F H F' H' ∧ ds[i]? = some d ∧ Den K F' d x
abbrev EvI := DEnv → Option (List D × DEnv)
def RdI (K : Fr) (f : EvI) : TI := fun σ H R => ∃ (B : Bs) (F : Hp) (e : DEnv) (ds : List D) (e' : DEnv), SR K B F e σ H ∧ f e = some (ds, e') ∧ ∀ J F' H', Sub F F' → SR K B F' e' σ H' → ItD K F' J ds → R J H'
def loopF (b : Bd) (x : ExS) : List D → DEnv → Option SOut
  | [], e => some (.nx e)
  | d :: ds, e => match b d e with
    | none => none
    | some e1 => match x e1 with
      | none => none
      | some (.nx e2) => loopF b x ds e2
      | some (.ct e2) => loopF b x ds e2
      | some (.bk e2) => some (.nx e2)
      | some (.rt v e2) => some (.rt v e2)
def xFor (f : EvI) (b : Bd) (x : ExS) : ExS := fun e => do
  let (ds, e1) ← f e
  loopF b x ds e1
theorem s_for {X : Cx} {tg iter : Expr} {body : List Stmt} {f : EvI} {b : Bd} {vs : List Nat} {x : ExS} {pos : Pos} (hp : PassesOwn (model X.prog X.w) X.A X.env X.xe) (hc : X.calm = true) (hi : PI X tg iter (RdI X.K f)) (hg : PG X tg (RdG X.K b vs)) (hb : PSs X body (RdS X.K x))
    (hs : ∀ x, foldedSetIterable iter X.env x = pure x) : PS X (.For tg iter body [] pos) (RdS X.K (xFor f b x)) := ps_weak (ps_for hp hc hi hg hb hs) fun D σ H ⟨B, F, e, out, R, q, k⟩ => by
  obtain ⟨⟨ds, e1⟩, q1, q⟩ := bindS q
  refine ⟨B, F, e, ds, e1, R, q1, fun J F1 H1 s1 R1 ⟨go, stop, yld⟩ => ?_⟩
  refine ⟨fun i m σ H => m = ds.length - i ∧ i ≤ ds.length ∧ ∃ F e, Sub F1 F ∧ SR X.K B F e σ H ∧ loopF b x (ds.drop i) e = some out, ⟨_, rfl, Nat.zero_le _, F1, e1, .refl F1, R1, q⟩, ?_⟩
  rintro i m σ2 H2 ⟨rfl, hi, F2, e2, s2, R2, q2⟩
  by_cases hlt : i < ds.length
  · right
    refine ⟨go i H2 hlt (s2.trans R2.sub), fun σ' H' => i + 1 ≤ ds.length ∧ ∃ F e, Sub F1 F ∧ SR X.K B F e σ' H' ∧ loopF b x (ds.drop (i + 1)) e = some out, fun σ' H' h => ⟨ds.length - (i + 1), by omega, rfl, h⟩, fun v H' hy => ?_⟩
    obtain ⟨F3, d, x3, hd, den⟩ := yld i F2 H2 v H' hlt s2 R2.sub hy
    have R3 := R2.ext x3
    rw [List.drop_eq_getElem_cons hlt] at q2
    have ed : ds[i] = d := by rw [List.getElem?_eq_getElem hlt] at hd; exact Option.some.inj hd
    rw [ed] at q2
    unfold loopF at q2
    split at q2
    · cases q2
    · rename_i e3 q3
      refine ⟨B, F3, e2, d, e3, R3, den, q3, fun σ4 R4 _ => ?_⟩
      have up := s2.trans x3.f
      split at q2
      · cases q2
      · rename_i e4 q4
        exact ⟨B, F3, e3, _, R4, q4, fun σ' F' H' s R' => ⟨hlt, F', e4, up.trans s, R', q2⟩⟩
      · rename_i e4 q4
        exact ⟨B, F3, e3, _, R4, q4, fun σ' F' H' s R' => ⟨hlt, F', e4, up.trans s, R', q2⟩⟩
      · rename_i e4 q4
        cases q2
        exact ⟨B, F3, e3, _, R4, q4, fun σ' F' H' s R' => k σ' F' H' (s1.trans (up.trans s)) R'⟩
      · rename_i w e4 q4
        cases q2
        exact ⟨B, F3, e3, _, R4, q4, fun v σ' F' H' s R' V' => k v σ' F' H' (s1.trans (up.trans s)) R' V'⟩
  · left
    have ei : i = ds.length := by omega
    subst ei
    rw [List.drop_length] at q2
    cases q2
    exact ⟨stop H2 (s2.trans R2.sub), k σ2 F2 H2 (s1.trans s2) R2⟩

/-! ### while -/
def loopW (t : EvT) (x : ExS) : Nat → DEnv → Option SOut
  | 0, _ => none
  | n + 1, e => match t e with
    | none => none
    | some (false, e1) => some (.nx e1)
    | some (true, e1) => match x e1 with
      | none => none
      | some (.nx e2) => loopW t x n e2
      | some (.ct e2) => loopW t x n e2
      | some (.bk e2) => some (.nx e2)
      | some (.rt v e2) => some (.rt v e2)
def xWhile (n : Nat) (t : EvT) (x : ExS) : ExS := fun e => loopW t x n e
theorem s_while {X : Cx} {c : Expr} {body : List Stmt} {t : EvT} {x : ExS} {n : Nat} {pos : Pos} (hp : PassesOwn (model X.prog X.w) X.A X.env X.xe) (hc : PT X c (RdT X.K t)) (hb : PSs X body (RdS X.K x)) : PS X (.While c body [] pos) (RdS X.K (xWhile n t x)) :=
  ps_weak (ps_while hp hc hb) fun D σ H ⟨B, F, e, out, R, q, k⟩ => by
    refine ⟨fun m σ H => ∃ F2 e, Sub F F2 ∧ SR X.K B F2 e σ H ∧ loopW t x m e = some out, ⟨n, F, e, .refl F, R, q⟩, ?_⟩
    rintro m σ2 H2 ⟨F2, e2, s2, R2, q2⟩
    cases m with
    | zero => cases q2
    | succ m =>
      unfold loopW at q2
      split at q2
      · cases q2
      · rename_i e3 q3
        cases q2
        exact ⟨B, F2, e2, _, _, R2, q3, fun F3 H3 s3 R3 => iteF (k σ2 F3 H3 (s2.trans s3) R3)⟩
      · rename_i e3 q3
        refine ⟨B, F2, e2, _, _, R2, q3, fun F3 H3 s3 R3 => ?_⟩
        refine iteT ?_
        refine ⟨fun σ' H' => ∃ F2 e, Sub F F2 ∧ SR X.K B F2 e σ' H' ∧ loopW t x m e = some out, fun σ' H' h => ⟨m, Nat.lt_succ_self m, h⟩, ?_⟩
        have up := s2.trans s3
        split at q2
        · cases q2
        · rename_i e4 q4
          exact ⟨B, F3, e3, _, R3, q4, fun σ' F' H' s R' => ⟨F', e4, up.trans s, R', q2⟩⟩
        · rename_i e4 q4
          exact ⟨B, F3, e3, _, R3, q4, fun σ' F' H' s R' => ⟨F', e4, up.trans s, R', q2⟩⟩
        · rename_i e4 q4
          cases q2
          exact ⟨B, F3, e3, _, R3, q4, fun σ' F' H' s R' => k σ' F' H' (up.trans s) R'⟩
        · rename_i w e4 q4
          cases q2
          exact ⟨B, F3, e3, _, R3, q4, fun v σ' F' H' s R' V' => k v σ' F' H' (up.trans s) R' V'⟩
end Pv
end

section
set_option maxRecDepth 100000
set_option maxHeartbeats 4000000
namespace Pv
open PySem PySem.Spec PyProof.Rows L2

/-! ### enumerate of a tuple -/
def IteT (K : Fr) (a : Addr) : It :=
  ⟨fun i H => ∃ (xs : List V) (x : V), SqT K H a xs ∧ xs[i]? = some x, fun i H v H' => ∃ T x, v = .ref T ∧ H T = none ∧ H' = upd H T (.tup [.int (i : Nat), x]) ∧ ∀ xs, SqT K H a xs → xs[i]? = some x, fun i H => ∃ xs : List V, SqT K H a xs ∧ xs.length = i⟩
theorem tupleIter_ne {h : Heap} {it a : Addr} {i : Nat} {items : Array Value} (h1 : h.IsTupleIter it a i) (h2 : h.IsTuple a items) : a ≠ it := by
  intro z
  obtain ⟨o, e1, c1, _⟩ := h1
  obtain ⟨o2, e2, c2, _⟩ := h2
  rw [z, e1] at e2; cases e2
  rw [c1] at c2
  exact absurd c2 (by decide)
theorem turn_enumT {P : Program} {w : World} {K : Fr} {elts : List Expr} {kk : Nat} {tpos : Pos} (a e it : Addr) :
    Turn P w K (.Tuple elts kk tpos) (IteT K a) [e, it] e (fun i h => (∃ old, IsEnum h e it ((i : Nat) : Int) old) ∧ h.IsTupleIter it a i ∧ e ≠ it ∧ e ≠ a) where
  mem := by simp
  obj := fun i h st b hb => by
    obtain ⟨⟨old, he⟩, ⟨o, ho, hc, hd⟩, _⟩ := st
    have e' : b = e ∨ b = it := by simpa using hb
    rcases e' with z | z
    · rw [z]; exact ⟨_, he, fun v q => nomatch q⟩
    · rw [z]; exact ⟨o, ho, fun v q => by rw [hd] at q; cases q⟩
  keep := fun i h h' st k => let ⟨⟨old, he⟩, hi, hne⟩ := st; ⟨⟨old, k e (by simp) _ he⟩, hi.at fun o q => k it (by simp) o q, hne⟩
  item := by
    intro X hP hw hK hc i pins s σ H E I hf st hg
    subst hP hw hK
    obtain ⟨⟨old, he⟩, hit, hne, hea⟩ := st
    obtain ⟨xs, x, hq, hx⟩ := hg
    obtain ⟨its, rv, p, hz⟩ := I.tuple hq
    have p' : s.heap.IsTuple a its.toArray := p
    obtain ⟨u, hu, ru⟩ := rv.get hx
    have hel : e < s.heap.objs.size := Heap.lt_size he
    have hil : it < s.heap.objs.size := by obtain ⟨_, q, _⟩ := hit; exact Heap.lt_size q
    have nai := tupleIter_ne hit p'
    have hlt : i < its.toArray.size := by
      have q := (List.getElem?_eq_some_iff.mp hu).1
      simpa using q
    refine wpAny_pyNext_enum_itemC (Draws.tuple (prog := X.prog) (w := X.w) (A := X.A.in1) (I.ok.hd hc) it a nai its.toArray) he ⟨hit, p'⟩ hlt hne (by simp; exact ⟨hne, hea⟩) fun y h' tk hy ho hit' hT hsz hk => ?_
    have ey : y = u := by
      have q : its.toArray[i]? = some y := hy
      rw [List.getElem?_toArray, hu] at q
      exact (Option.some.inj q).symm
    subst ey
    refine ⟨_, rfl, wpAny_letOwnedTupleGo_enum (s := { s with heap := h', toks := tk + 1 }) ho fun h'' he' sb => ?_⟩
    have hT2 : h''.get? s.heap.objs.size = some { cls := .type "tuple", data := .seq #[.int i tk, y] } := (sb.2 _ (Nat.ne_of_gt hel)).trans hT
    have new : ObjOk X.prog X.w (upd H s.heap.objs.size (.tup [.int (i : Nat), x])) h'' s.heap.objs.size (.tup [.int (i : Nat), x]) :=
      ⟨by show 2 ≤ sizeLine; decide, [.int i tk, y], .cons ⟨_, rfl⟩ (.cons ru .nil), ⟨_, hT2, rfl, _, rfl⟩⟩
    have I1 : Inv X pins σ (upd H s.heap.objs.size (.tup [.int (i : Nat), x])) { s with heap := h'', toks := tk + 1 } :=
      I.turnedNew (ch := [e, it]) (fun b ob hb q => (sb.2 b (fun z => hb (by simp [z]))).trans (hk b ob (fun z => hb (by simp [z])) (fun z => hb (by simp [z])) q)) hf (Nat.le_refl _) new
    refine ⟨.ref s.heap.objs.size, _, I1, rfl, ⟨_, x, rfl, I.hok.fresh (Nat.le_refl _), rfl, fun ys hy => by rw [I.tuple_inj hy hq]; exact hx⟩, ⟨⟨y, ?_⟩, hit'.1.at fun o q => (sb.2 it (Ne.symm hne)).trans q, hne, hea⟩, fun b hb => ?_⟩
    · have e1 : ((i + 1 : Nat) : Int) = (i : Int) + 1 := by omega
      rw [e1]; exact he'
    · have hb' : b < s.heap.objs.size := by
        have e' : b = e ∨ b = it := by simpa using hb
        rcases e' with z | z
        · rw [z]; exact hel
        · rw [z]; exact hil
      rw [upd_ne (Nat.ne_of_lt hb')]
      exact (hf b hb).1
  done := by
    intro X hP hw hK hc i pins s σ H E I hf st hg
    subst hP hw hK
    obtain ⟨⟨old, he⟩, hit, hne, hea⟩ := st
    obtain ⟨xs, hq, hx⟩ := hg
    obtain ⟨its, rv, p, hz⟩ := I.tuple hq
    have p' : s.heap.IsTuple a its.toArray := p
    obtain ⟨f0, f1, f2, f3, f4, f5⟩ := hf it (by simp)
    have hl := rv.length
    have nai := tupleIter_ne hit p'
    have en : its.toArray.size = i := by simp; omega
    refine wpAny_pyNext_enum_endD (Draws.tuple (prog := X.prog) (w := X.w) (A := X.A.in1) (I.ok.hd hc) it a nai its.toArray) he (by rw [en]; exact ⟨hit, p'⟩) fun h' eb => ⟨rfl, I.turned (t' := s.toks) (fun b o hb q => eb b o hb q) f0 f1 f3 f4 f5⟩
  self := fun A i s Q E st h => let ⟨⟨_, he⟩, _⟩ := st; wpAny_pyIter_enum he h

theorem meets_enumerate_new1 {v : Value} {o : Obj} {H : Heap → Prop} (B : Begins v o H) :
    Meets (Builtin.«enumerate.__new__» ⟨[.type "enumerate", v], []⟩) (fun _ R s => H s.heap ∧
      R (.ok (.ret (.ref (s.heap.push o).objs.size))) { s with heap := (s.heap.push o).push { cls := .type "enumerate", data := .fields #[.none, .bool false, .ref s.heap.objs.size, rawInt 0, .none, .none] } }) :=
  .of_wp fun prog w A R s h => by
    obtain ⟨hp, g, d, tk, os⟩ := s; obtain ⟨h1, h⟩ := h
    have hsub := sub_enumerate
    have q1 : ∀ {A' : Around} {E : Value → Shared → Prop} {Q : Value → Shared → Prop}, Q (.ref hp.objs.size) ⟨hp.push o, g, d, tk, os⟩ → wpAny (model prog w) A' (pyIter v) Q E ⟨hp, g, d, tk, os⟩ :=
      fun q => B.iter prog w _ _ ⟨hp, g, d, tk, os⟩ _ h1 q
    wp_walk using q1
    refine wpAny_stack_any fun st => wpAny_pure ?_
    split
    · rename_i c _ _ _ _ _
      cases (c == Value.type "enumerate")
      · wp_walk using q1
        exact ⟨_, rfl, h⟩
      · wp_walk using q1
        exact ⟨_, rfl, h⟩
    · wp_walk using q1
      exact ⟨_, rfl, h⟩
theorem enum_begins1 {prog : Program} {w : World} {A : Around} {E : Value → Shared → Prop} {s : Shared} {v : Value} {o : Obj} {H : Heap → Prop} {Q : Value → Shared → Prop} (B : Begins v o H) (h1 : H s.heap) (hf : ∀ obj, argsOk "object.__init__" ⟨[obj, v], []⟩)
    (hc1 : checkTypeCall "enumerate" ⟨[v], []⟩ = pure ()) (hc2 : checkBuiltinCall "enumerate.__new__" ⟨[.type "enumerate", v], []⟩ = pure ())
    (h : ∀ h', IsEnum h' (s.heap.objs.size + 1) s.heap.objs.size 0 .none → h'.get? s.heap.objs.size = some o → h'.objs.size = s.heap.objs.size + 2 →
      (∀ b o, s.heap.get? b = some o → h'.get? b = some o) → Q (.ref (s.heap.objs.size + 1)) { s with heap := h' }) :
    wpAny (model prog w) A (call (.type "enumerate") [v]) Q E s := by
  refine callType_new F.called_enumerate (by decide) hc1 hc2 hf F.entry_enumerate_new
    (meets_enumerate_new1 B) ⟨h1, ?_⟩
  have hz : (s.heap.push o).objs.size = s.heap.objs.size + 1 := Heap.size_push ..
  show _ ∧ _
  rw [hz]
  have he : IsEnum ((s.heap.push o).push { cls := .type "enumerate", data := .fields #[.none, .bool false, .ref s.heap.objs.size, rawInt 0, .none, .none] }) (s.heap.objs.size + 1) s.heap.objs.size 0 .none := by
    have := Heap.get?_push_size (s.heap.push o) (o := { cls := .type "enumerate", data := .fields #[.none, .bool false, .ref s.heap.objs.size, rawInt 0, .none, .none] }) rfl
    rw [hz] at this; exact this
  refine ⟨⟨_, he, rfl⟩, h _ he (Heap.get?_push_of_some _ (Heap.get?_push_size _ B.free)) (by rw [Heap.size_push, hz]) fun b o x => Heap.get?_push_of_some _ (Heap.get?_push_of_some _ x)⟩

def iEnumT (K : Fr) (ta : TA) : TI := fun σ H R => ta σ H fun vs H1 => ∃ a xs, vs = [.ref a] ∧ SqT K H1 a xs ∧ R (IteT K a) H1
theorem pi_enumT {X : Cx} {e : Expr} {ta : TA} {p pos tpos : Pos} {elts : List Expr} {kk : Nat} (hg : Gl X "enumerate") (hm : X.mg "enumerate" = none) (ha : PA X [e] ta) (hs : starEach [e] X.env = [(false, eval e X.env)]) :
    PI X (.Tuple elts kk tpos) (.Call (.Name "enumerate" p) [e] [] pos) (iEnumT X.K ta) := by
  refine ⟨fun pins s σ H R I h => ?_⟩
  refine Call_ (ld_blt I hg hm boot_enumerate (PyProof.Rows.callWith_type1 (thn (ha.run pos pins s σ H _ I h) fun us s1 ⟨vs, H1, I1, r1, q1⟩ => ?_) hs rfl))
  obtain ⟨a, xs, ex, hq, q⟩ := q1
  subst ex
  cases r1 with
  | cons r rr =>
    cases rr
    cases r
    obtain ⟨its, rv, p', hz⟩ := I1.tuple hq
    have hal : a < s1.heap.objs.size := by obtain ⟨_, q, _⟩ := p'; exact Heap.lt_size q
    refine enum_begins1 (begins_tuple a its.toArray) (show s1.heap.IsTuple a its.toArray from p') (fun obj => F.args_object_init_2 obj _) (F.typeCall_enumerate_1 _) (F.newCall_enumerate_1 _) fun h' he hit hsz hk => wpAny_pyIter_enum he ?_
    have I2 : Inv X pins σ H1 { s1 with heap := h' } := I1.kept (t' := s1.toks) hk
    refine ⟨s1.heap.objs.size + 1, [s1.heap.objs.size + 1, s1.heap.objs.size], _, _, H1, rfl, I2, turn_enumT a (s1.heap.objs.size + 1) s1.heap.objs.size, ⟨⟨.none, he⟩, ⟨_, hit, rfl, rfl⟩, Nat.succ_ne_self _, Nat.ne_of_gt (Nat.lt_succ_of_lt hal)⟩, fun b hb => ?_, q⟩
    have e' : b = s1.heap.objs.size + 1 ∨ b = s1.heap.objs.size := by simpa using hb
    have hle : s1.heap.objs.size ≤ b := by
      rcases e' with z | z
      · rw [z]; exact Nat.le_add_right _ _
      · rw [z]; exact Nat.le_refl _
    exact I1.fpOk hle (I1.hok.fresh hle)
end Pv
end

section
set_option maxRecDepth 100000
set_option maxHeartbeats 4000000
namespace Pv
open PySem PySem.Spec L2

/-! ### what is walked -/
theorem pi_weak {X : Cx} {tg iter : Expr} {w w' : TI} (h : PI X tg iter w) (k : ∀ σ H R, w' σ H R → w σ H R) : PI X tg iter w' := ⟨fun pins s σ H R I q => h.run pins s σ H R I (k σ H R q)⟩
theorem pi_or {X : Cx} {tg iter : Expr} {w w' : TI} (h : PI X tg iter w) (h' : PI X tg iter w') : PI X tg iter (fun σ H R => w σ H R ∨ w' σ H R) := ⟨fun pins s σ H R I q => q.elim (h.run pins s σ H R I) (h'.run pins s σ H R I)⟩
def keyD : Key → D
  | .inl i => .int i
  | .inr x => .str x
theorem keyD_den {K : Fr} {F : Hp} (k : Key) : Den K F (keyD k) (kV k) := by
  cases k with
  | inl i => exact .int i
  | inr x => exact .str x
theorem keysD_den {K : Fr} {F : Hp} : ∀ ks : List Key, Dens K F (ks.map keyD) (ks.map kV)
  | [] => .nil
  | k :: ks => .cons (keyD_den k) (keysD_den ks)
theorem get_of {α : Type} {l : List α} {i : Nat} (h : i < l.length) : ∃ x, l[i]? = some x := ⟨_, List.getElem?_eq_getElem h⟩
section
variable {K : Fr} {F0 : Hp} {a b : Addr} {xs ys : List V} {ds es : List D}
theorem itd_list (h : SqL K F0 a xs) (t : Dens K F0 ds xs) : ItD K F0 (Itl K a) ds := by
  refine ⟨fun i H hi s => ?_, fun H s => ⟨xs, s.seqL h, by rw [t.length]; exact Nat.le_refl _⟩, fun i F H x H' hi s0 s y => ?_⟩
  · obtain ⟨d, hd⟩ := get_of hi
    obtain ⟨v, hv, _⟩ := t.get hd
    exact ⟨xs, v, s.seqL h, hv⟩
  · obtain ⟨rfl, y⟩ := y
    obtain ⟨d, hd, dn⟩ := t.get' (y xs ((s0.trans s).seqL h))
    exact ⟨F, d, .refl s, hd, dn.mono s0⟩
theorem itd_tup (h : SqT K F0 a xs) (t : Dens K F0 ds xs) : ItD K F0 (Itt K a) ds := by
  refine ⟨fun i H hi s => ?_, fun H s => ⟨xs, s.seqT h, by rw [t.length]; exact Nat.le_refl _⟩, fun i F H x H' hi s0 s y => ?_⟩
  · obtain ⟨d, hd⟩ := get_of hi
    obtain ⟨v, hv, _⟩ := t.get hd
    exact ⟨xs, v, s.seqT h, hv⟩
  · obtain ⟨rfl, y⟩ := y
    obtain ⟨d, hd, dn⟩ := t.get' (y xs ((s0.trans s).seqT h))
    exact ⟨F, d, .refl s, hd, dn.mono s0⟩
def rangeD (lo c : Int) (n : Nat) : List D := (List.range n).map fun (i : Nat) => D.int (lo + (i : Int) * c)
theorem rangeD_get {lo c : Int} {n i : Nat} (h : i < n) : (rangeD lo c n)[i]? = some (.int (lo + (i : Int) * c)) := by
  unfold rangeD; rw [List.getElem?_map, List.getElem?_range h]; rfl
theorem rangeD_len {lo c : Int} {n : Nat} : (rangeD lo c n).length = n := by unfold rangeD; rw [List.length_map, List.length_range]
theorem itd_range {lo : Int} {n : Nat} : ItD K F0 (Itr lo n) (rangeD lo 1 n) := by
  refine ⟨fun i H hi s => by rw [rangeD_len] at hi; exact hi, fun H s => by rw [rangeD_len]; exact Nat.le_refl n, fun i F H x H' hi s0 s y => ?_⟩
  rw [rangeD_len] at hi
  obtain ⟨rfl, rfl⟩ := y
  refine ⟨F, _, .refl s, rangeD_get hi, ?_⟩
  rw [Int.mul_one]; exact .int _
theorem itd_rangeC {lo c : Int} {n : Nat} : ItD K F0 (Itc lo c n) (rangeD lo c n) := by
  refine ⟨fun i H hi s => by rw [rangeD_len] at hi; exact hi, fun H s => by rw [rangeD_len]; exact Nat.le_refl n, fun i F H x H' hi s0 s y => ?_⟩
  rw [rangeD_len] at hi
  obtain ⟨rfl, rfl⟩ := y
  exact ⟨F, _, .refl s, rangeD_get hi, .int _⟩
def signsD (z : Str) : List D := z.cps.toList.map fun c => D.str ⟨#[c]⟩
theorem itd_str {z : Str} : ItD K F0 (Its z) (signsD z) := by
  have hl : (signsD z).length = z.cps.size := by unfold signsD; rw [List.length_map, Array.length_toList]
  refine ⟨fun i H hi s => by rw [hl] at hi; exact hi, fun H s => by rw [hl]; exact Nat.le_refl _, fun i F H x H' hi s0 s y => ?_⟩
  obtain ⟨rfl, c, hc, rfl⟩ := y
  refine ⟨F, .str ⟨#[c]⟩, .refl s, ?_, .str _⟩
  unfold signsD
  rw [List.getElem?_map, Array.getElem?_toList, hc]; rfl
def enumD : Nat → List D → List D
  | _, [] => []
  | i, d :: ds => .tup [.int (i : Nat), d] :: enumD (i + 1) ds
theorem enumD_len : ∀ (k : Nat) (ds : List D), (enumD k ds).length = ds.length
  | _, [] => rfl
  | k, d :: ds => congrArg (· + 1) (enumD_len (k + 1) ds)
theorem enumD_get : ∀ (k : Nat) {ds : List D} {i : Nat} {d : D}, ds[i]? = some d → (enumD k ds)[i]? = some (.tup [.int ((k + i : Nat) : Int), d])
  | _, [], _, _, h => by simp at h
  | k, x :: ds, 0, d, h => by simp at h; subst h; rfl
  | k, x :: ds, i + 1, d, h => by
    have := enumD_get (k + 1) (ds := ds) (i := i) (d := d) (by simpa using h)
    show (enumD (k + 1) ds)[i]? = _
    rw [this, show k + 1 + i = k + (i + 1) by omega]
theorem pair_den {F H : Hp} {T : Addr} {x y : V} {d e : D} (s : Sub F H) (hT : H T = none) (h1 : Den K F d x) (h2 : Den K F e y) : Ext F H (upd F T (.tup [x, y])) (upd H T (.tup [x, y])) ∧ Den K (upd F T (.tup [x, y])) (.tup [d, e]) (.ref T) :=
  ⟨.newF s hT, .tup (.inl (.inl upd_same)) (.cons (h1.mono (.upd (s.none hT))) (.cons (h2.mono (.upd (s.none hT))) .nil))⟩
theorem itd_enum (h : SqL K F0 a xs) (t : Dens K F0 ds xs) : ItD K F0 (Ite K a) (enumD 0 ds) := by
  refine ⟨fun i H hi s => ?_, fun H s => ⟨xs, s.seqL h, by rw [t.length, enumD_len]; exact Nat.le_refl _⟩, fun i F H x H' hi s0 s y => ?_⟩
  · rw [enumD_len] at hi
    obtain ⟨d, hd⟩ := get_of hi
    obtain ⟨v, hv, _⟩ := t.get hd
    exact ⟨xs, v, s.seqL h, hv⟩
  · obtain ⟨T, z, rfl, hT, rfl, y⟩ := y
    obtain ⟨d, hd, dn⟩ := t.get' (y xs ((s0.trans s).seqL h))
    obtain ⟨x1, d1⟩ := pair_den s hT (.int (i : Nat)) (dn.mono s0)
    refine ⟨_, _, x1, enumD_get 0 hd, ?_⟩
    rw [Nat.zero_add]; exact d1
theorem itd_enumT (h : SqT K F0 a xs) (t : Dens K F0 ds xs) : ItD K F0 (IteT K a) (enumD 0 ds) := by
  refine ⟨fun i H hi s => ?_, fun H s => ⟨xs, s.seqT h, by rw [t.length, enumD_len]⟩, fun i F H x H' hi s0 s y => ?_⟩
  · rw [enumD_len] at hi
    obtain ⟨d, hd⟩ := get_of hi
    obtain ⟨v, hv, _⟩ := t.get hd
    exact ⟨xs, v, s.seqT h, hv⟩
  · obtain ⟨T, z, rfl, hT, rfl, y⟩ := y
    obtain ⟨d, hd, dn⟩ := t.get' (y xs ((s0.trans s).seqT h))
    obtain ⟨x1, d1⟩ := pair_den s hT (.int (i : Nat)) (dn.mono s0)
    refine ⟨_, _, x1, enumD_get 0 hd, ?_⟩
    rw [Nat.zero_add]; exact d1
def zipD : List D → List D → List D
  | d :: ds, e :: es => .tup [d, e] :: zipD ds es
  | _, _ => []
theorem zipD_len : ∀ ds es : List D, (zipD ds es).length = min ds.length es.length
  | [], _ => by simp [zipD]
  | _ :: _, [] => by simp [zipD]
  | d :: ds, e :: es => by simp only [zipD, List.length_cons, zipD_len ds es]; omega
theorem zipD_get : ∀ {ds es : List D} {i : Nat} {d e : D}, ds[i]? = some d → es[i]? = some e → (zipD ds es)[i]? = some (.tup [d, e])
  | [], _, _, _, _, h, _ => by simp at h
  | _ :: _, [], _, _, _, _, h => by simp at h
  | x :: ds, y :: es, 0, d, e, h, h' => by simp at h h'; rw [← h, ← h']; rfl
  | x :: ds, y :: es, i + 1, d, e, h, h' => by
    show (zipD ds es)[i]? = _
    exact zipD_get (by simpa using h) (by simpa using h')
theorem itd_zip (h : SqL K F0 a xs) (t : Dens K F0 ds xs) (h' : SqL K F0 b ys) (t' : Dens K F0 es ys) : ItD K F0 (Itz K a b) (zipD ds es) := by
  refine ⟨fun i H hi s => ?_, fun H s => ⟨xs, ys, s.seqL h, s.seqL h', by rw [t.length, t'.length, zipD_len]; omega⟩, fun i F H x H' hi s0 s y => ?_⟩
  · rw [zipD_len] at hi
    obtain ⟨d, hd⟩ := get_of (l := ds) (i := i) (by omega)
    obtain ⟨v, hv, _⟩ := t.get hd
    obtain ⟨d', hd'⟩ := get_of (l := es) (i := i) (by omega)
    obtain ⟨v', hv', _⟩ := t'.get hd'
    exact ⟨xs, ys, v, v', s.seqL h, s.seqL h', hv, hv'⟩
  · obtain ⟨T, z, z', rfl, hT, rfl, y, y'⟩ := y
    obtain ⟨d, hd, dn⟩ := t.get' (y xs ((s0.trans s).seqL h))
    obtain ⟨d', hd', dn'⟩ := t'.get' (y' ys ((s0.trans s).seqL h'))
    obtain ⟨x1, d1⟩ := pair_den s hT (dn.mono s0) (dn'.mono s0)
    exact ⟨_, _, x1, zipD_get hd hd', d1⟩
theorem itd_zipT (h : SqT K F0 a xs) (t : Dens K F0 ds xs) (h' : SqT K F0 b ys) (t' : Dens K F0 es ys) : ItD K F0 (RZ.ItzT K a b) (zipD ds es) := by
  refine ⟨fun i H hi s => ?_, fun H s => ⟨xs, ys, s.seqT h, s.seqT h', by rw [t.length, t'.length, zipD_len]; omega⟩, fun i F H x H' hi s0 s y => ?_⟩
  · rw [zipD_len] at hi
    obtain ⟨d, hd⟩ := get_of (l := ds) (i := i) (by omega)
    obtain ⟨v, hv, _⟩ := t.get hd
    obtain ⟨d', hd'⟩ := get_of (l := es) (i := i) (by omega)
    obtain ⟨v', hv', _⟩ := t'.get hd'
    exact ⟨xs, ys, v, v', s.seqT h, s.seqT h', hv, hv'⟩
  · obtain ⟨T, z, z', rfl, hT, rfl, y, y'⟩ := y
    obtain ⟨d, hd, dn⟩ := t.get' (y xs ((s0.trans s).seqT h))
    obtain ⟨d', hd', dn'⟩ := t'.get' (y' ys ((s0.trans s).seqT h'))
    obtain ⟨x1, d1⟩ := pair_den s hT (dn.mono s0) (dn'.mono s0)
    exact ⟨_, _, x1, zipD_get hd hd', d1⟩
theorem DenK.get : ∀ {es : List (Key × D)} {kvs : List (Key × V)} {i : Nat} {k : Key} {d : D}, DenK K F0 es kvs → es[i]? = some (k, d) → ∃ v, kvs[i]? = some (k, v) ∧ Den K F0 d v
  | _, _, _, _, _, .nil, e => by simp at e
  | _, _, 0, _, _, .cons h _, e => by simp at e; obtain ⟨rfl, rfl⟩ := e; exact ⟨_, rfl, h⟩
  | _, _, i + 1, k, d, .cons _ t, e => by
    obtain ⟨v, h1, h2⟩ := DenK.get (i := i) (k := k) (d := d) t (by simpa using e)
    exact ⟨v, by simpa using h1, h2⟩
theorem DenK.get' : ∀ {es : List (Key × D)} {kvs : List (Key × V)} {i : Nat} {k : Key} {v : V}, DenK K F0 es kvs → kvs[i]? = some (k, v) → ∃ d, es[i]? = some (k, d) ∧ Den K F0 d v
  | _, _, _, _, _, .nil, e => by simp at e
  | _, _, 0, _, _, .cons h _, e => by simp at e; obtain ⟨rfl, rfl⟩ := e; exact ⟨_, rfl, h⟩
  | _, _, i + 1, k, v, .cons _ t, e => by
    obtain ⟨d, h1, h2⟩ := DenK.get' (i := i) (k := k) (v := v) t (by simpa using e)
    exact ⟨d, by simpa using h1, h2⟩
theorem DenT.length : ∀ {ds : List (List Key × D)} {vs : List (List Key × V)}, DenT K F0 ds vs → vs.length = ds.length
  | _, _, .nil => rfl
  | _, _, .cons _ t => congrArg (· + 1) t.length
theorem DenT.get' : ∀ {es : List (List Key × D)} {kvs : List (List Key × V)} {i : Nat} {k : List Key} {v : V}, DenT K F0 es kvs → kvs[i]? = some (k, v) → ∃ d, es[i]? = some (k, d) ∧ Den K F0 d v
  | _, _, _, _, _, .nil, e => by simp at e
  | _, _, 0, _, _, .cons h _, e => by simp at e; obtain ⟨rfl, rfl⟩ := e; exact ⟨_, rfl, h⟩
  | _, _, i + 1, k, v, .cons _ t, e => by
    obtain ⟨d, h1, h2⟩ := DenT.get' (i := i) (k := k) (v := v) t (by simpa using e)
    exact ⟨d, by simpa using h1, h2⟩
variable {o : Obj} {ks : List (Key × D)} {kvs : List (Key × V)} {kt : List (List Key × D)} {kvt : List (List Key × V)}
theorem itd_keys (h : F0 a = some (.frz o (.dK kvs))) (t : DenK K F0 ks kvs) : ItD K F0 (Itk a o kvs) (ks.map fun p => keyD p.1) := by
  refine ⟨fun i H hi s => ⟨s _ _ h, by rw [t.length]; rw [List.length_map] at hi; exact hi⟩, fun H s => ⟨s _ _ h, by rw [t.length, List.length_map]; exact Nat.le_refl _⟩, fun i F H x H' hi s0 s y => ?_⟩
  obtain ⟨rfl, k, v, hk, rfl⟩ := y
  obtain ⟨d, hd, _⟩ := t.get' hk
  exact ⟨F, keyD k, .refl s, by rw [List.getElem?_map, hd]; rfl, keyD_den k⟩
theorem itd_values (h : F0 a = some (.frz o (.dK kvs))) (t : DenK K F0 ks kvs) : ItD K F0 (Itd a o kvs) (ks.map fun p => p.2) := by
  refine ⟨fun i H hi s => ⟨s _ _ h, by rw [t.length]; rw [List.length_map] at hi; exact hi⟩, fun H s => ⟨s _ _ h, by rw [t.length, List.length_map]; exact Nat.le_refl _⟩, fun i F H x H' hi s0 s y => ?_⟩
  obtain ⟨rfl, k, hk⟩ := y
  obtain ⟨d, hd, dn⟩ := t.get' hk
  exact ⟨F, d, .refl s, by rw [List.getElem?_map, hd]; rfl, dn.mono s0⟩
theorem itd_items (h : F0 a = some (.frz o (.dK kvs))) (t : DenK K F0 ks kvs) : ItD K F0 (Iti a o kvs) (ks.map fun p => D.tup [keyD p.1, p.2]) := by
  refine ⟨fun i H hi s => ⟨s _ _ h, by rw [t.length]; rw [List.length_map] at hi; exact hi⟩, fun H s => ⟨s _ _ h, by rw [t.length, List.length_map]; exact Nat.le_refl _⟩, fun i F H x H' hi s0 s y => ?_⟩
  obtain ⟨T, k, v, hk, rfl, hT, rfl⟩ := y
  obtain ⟨d, hd, dn⟩ := t.get' hk
  obtain ⟨x1, d1⟩ := pair_den s hT (keyD_den k) (dn.mono s0)
  exact ⟨_, _, x1, by rw [List.getElem?_map, hd]; rfl, d1⟩
theorem itd_keysT (h : F0 a = some (.frz o (.dT kvt))) (t : DenT K F0 kt kvt) : ItD K F0 (Itkt a o kvt) (kt.map fun p => D.tup (p.1.map keyD)) := by
  refine ⟨fun i H hi s => ⟨s _ _ h, by rw [t.length]; rw [List.length_map] at hi; exact hi⟩, fun H s => ⟨s _ _ h, by rw [t.length, List.length_map]; exact Nat.le_refl _⟩, fun i F H x H' hi s0 s y => ?_⟩
  obtain ⟨rfl, k, v, q, hk, rfl, hq⟩ := y
  obtain ⟨d, hd, _⟩ := t.get' hk
  by_cases hF : F q = none
  · have x1 : Ext F H' (upd F q (.tup (k.map kV))) H' := ⟨.upd hF, .refl _, fun b o e => by
      by_cases z : b = q
      · rw [z, upd_same] at e; rw [z, hq]; exact e
      · rw [upd_ne z] at e; exact s _ _ e, fun b hb n => by
      by_cases z : b = q
      · exact .inr ⟨_, by rw [z]; exact hq⟩
      · rw [upd_ne z] at n; exact absurd hb n⟩
    exact ⟨_, _, x1, by rw [List.getElem?_map, hd]; rfl, .tup (.inl (.inl upd_same)) (keysD_den k)⟩
  · obtain ⟨u, hu⟩ := Option.ne_none_iff_exists'.mp hF
    have := s _ _ hu
    rw [hq] at this; cases this
    exact ⟨F, _, .refl s, by rw [List.getElem?_map, hd]; rfl, .tup (.inl (.inl hu)) (keysD_den k)⟩
end
end Pv
end

section
set_option maxRecDepth 100000
set_option maxHeartbeats 4000000
namespace Pv
open PySem PySem.Spec L2

/-! ### the sources of a loop -/
def iSeq (f : Ev) : EvI := fun e => do
  let (x, e1) ← mRet f e
  match x with
  | .fz (.lst ds) => some (ds, e1)
  | .fz (.tup ds) => some (ds, e1)
  | .fz (.str z) => some (signsD z, e1)
  | .fz (.dk es) => some (es.map fun p => keyD p.1, e1)
  | .fz (.dt es) => some (es.map fun p => D.tup (p.1.map keyD), e1)
  | _ => none
def B62 (i : Int) : Bool := Nat.ble i.natAbs 4611686018427387903
theorem b62_ok {i : Int} (h : B62 i = true) : -(2 ^ 62) ≤ i ∧ i < 2 ^ 62 := by
  have h := Nat.le_of_ble_eq_true h
  omega
def iRange1 (f : EvD) : EvI := fun e => do
  let (ds, e1) ← f e
  match ds with
  | [.int j] => if B62 j then some (rangeD 0 1 j.toNat, e1) else none
  | _ => none
def iRange2 (f : EvD) : EvI := fun e => do
  let (ds, e1) ← f e
  match ds with
  | [.int i, .int j] => if B62 i && B62 j then some (rangeD i 1 (j - i).toNat, e1) else none
  | _ => none
def iRangeN (f : EvD) : EvI := fun e => do
  let (ds, e1) ← f e
  match ds with
  | [.int i, .int j, .int (-1)] => if B62 i && B62 j then some (rangeD i (-1) (i - j).toNat, e1) else none
  | _ => none
def iEnumD (f : EvD) : EvI := fun e => do
  let (ds, e1) ← f e
  match ds with
  | [.lst ds] => some (enumD 0 ds, e1)
  | [.tup ds] => some (enumD 0 ds, e1)
  | _ => none
def iZipD (f : EvD) : EvI := fun e => do
  let (ds, e1) ← f e
  match ds with
  | [.lst ds, .lst es] => some (zipD ds es, e1)
  | [.tup ds, .tup es] => some (zipD ds es, e1)
  | _ => none
def iItemsD (f : Ev) : EvI := fun e => do
  let (x, e1) ← mRet f e
  match x with
  | .fz (.dk es) => some (es.map fun p => D.tup [keyD p.1, p.2], e1)
  | _ => none
def iValuesD (f : Ev) : EvI := fun e => do
  let (x, e1) ← mRet f e
  match x with
  | .fz (.dk es) => some (es.map fun p => p.2, e1)
  | _ => none
section
variable {X : Cx} {tg c c2 : Expr} {f : Ev} {fd : EvD} {p pos tpos apos cpos : Pos} {elts : List Expr} {kk : Nat}
theorem si_seq (h : PE X c (RdE X.K f)) : PI X tg c (RdI X.K (iSeq f)) :=
  pi_weak (pi_or (pi_list (s_ret h)) (pi_or (pi_tup (s_ret h)) (pi_or (pi_str (s_ret h)) (pi_keys (s_ret h))))) fun σ H R ⟨B, F, e, ds, e', SR0, q, k⟩ => by
    obtain ⟨⟨x, e1⟩, q1, q⟩ := bindS q
    obtain ⟨d, rfl⟩ := mRet_fz q1
    cases d with
    | lst ds =>
      cases q
      refine .inl ⟨B, F, e, _, _, SR0, q1, fun v F1 H1 s1 R1 V1 => ?_⟩
      cases V1 with
      | lst h1 h2 => exact ⟨_, rfl, ⟨_, .inl (R1.sub.rd h1)⟩, k _ F1 H1 s1 R1 (itd_list (.inl h1) h2)⟩
    | tup ds =>
      cases q
      refine .inr (.inl ⟨B, F, e, _, _, SR0, q1, fun v F1 H1 s1 R1 V1 => ?_⟩)
      cases V1 with
      | tup h1 h2 => exact ⟨_, rfl, ⟨_, R1.sub.seqT h1⟩, k _ F1 H1 s1 R1 (itd_tup h1 h2)⟩
    | str z =>
      cases q
      refine .inr (.inr (.inl ⟨B, F, e, _, _, SR0, q1, fun v F1 H1 s1 R1 V1 => ?_⟩))
      cases V1 with
      | str => exact ⟨_, rfl, k _ F1 H1 s1 R1 itd_str⟩
    | dk es =>
      cases q
      refine .inr (.inr (.inr ⟨B, F, e, _, _, SR0, q1, fun v F1 H1 s1 R1 V1 => ?_⟩))
      cases V1 with
      | dk h1 h2 => exact ⟨_, _, rfl, .inl ⟨_, R1.sub _ _ h1, k _ F1 H1 s1 R1 (itd_keys h1 h2)⟩⟩
    | dt es =>
      cases q
      refine .inr (.inr (.inr ⟨B, F, e, _, _, SR0, q1, fun v F1 H1 s1 R1 V1 => ?_⟩))
      cases V1 with
      | dt h1 h2 => exact ⟨_, _, rfl, .inr ⟨_, R1.sub _ _ h1, k _ F1 H1 s1 R1 (itd_keysT h1 h2)⟩⟩
    | _ => cases q
theorem si_range1 (hg : Gl X "range") (hm : X.mg "range" = none) (ha : PA X [c] (RdD X.K fd)) (hs : starEach [c] X.env = [(false, eval c X.env)]) : PI X tg (.Call (.Name "range" p) [c] [] pos) (RdI X.K (iRange1 fd)) :=
  pi_weak (pi_range1 hg hm ha hs) fun σ H R ⟨B, F, e, ds, e', SR0, q, k⟩ => by
    obtain ⟨⟨xs, e1⟩, q1, q⟩ := bindS q
    dsimp only at q
    split at q
    · split at q
      · rename_i j hb
        cases q
        refine ⟨B, F, e, _, _, SR0, q1, fun vs F1 H1 s1 R1 V1 => ?_⟩
        cases V1 with
        | cons h t => cases t; cases h; exact ⟨j, rfl, (b62_ok hb).1, (b62_ok hb).2, k _ F1 H1 s1 R1 itd_range⟩
      · cases q
    · cases q
theorem si_range2 (hg : Gl X "range") (hm : X.mg "range" = none) (ha : PA X [c, c2] (RdD X.K fd)) (hs : starEach [c, c2] X.env = [(false, eval c X.env), (false, eval c2 X.env)]) (hs2 : starEach [c2] X.env = [(false, eval c2 X.env)]) :
    PI X tg (.Call (.Name "range" p) [c, c2] [] pos) (RdI X.K (iRange2 fd)) :=
  pi_weak (pi_range2 hg hm ha hs hs2) fun σ H R ⟨B, F, e, ds, e', SR0, q, k⟩ => by
    obtain ⟨⟨xs, e1⟩, q1, q⟩ := bindS q
    dsimp only at q
    split at q
    · split at q
      · rename_i i j hb
        cases q
        rw [Bool.and_eq_true] at hb
        refine ⟨B, F, e, _, _, SR0, q1, fun vs F1 H1 s1 R1 V1 => ?_⟩
        cases V1 with
        | cons h t =>
          cases t with
          | cons h' t => cases t; cases h; cases h'; exact ⟨i, j, rfl, ⟨(b62_ok hb.1).1, (b62_ok hb.1).2, (b62_ok hb.2).1, (b62_ok hb.2).2⟩, k _ F1 H1 s1 R1 itd_range⟩
      · cases q
    · cases q
theorem si_rangeN {c3 : Expr} (hg : Gl X "range") (hm : X.mg "range" = none) (ha : PA X [c, c2, c3] (RdD X.K fd)) (w : PI X tg (.Call (.Name "range" p) [c, c2, c3] [] pos) (iRng3 (RdD X.K fd))) :
    PI X tg (.Call (.Name "range" p) [c, c2, c3] [] pos) (RdI X.K (iRangeN fd)) :=
  pi_weak w fun σ H R ⟨B, F, e, ds, e', SR0, q, k⟩ => by
    obtain ⟨⟨xs, e1⟩, q1, q⟩ := bindS q
    dsimp only at q
    split at q
    · split at q
      · rename_i i j hb
        cases q
        rw [Bool.and_eq_true] at hb
        refine ⟨B, F, e, _, _, SR0, q1, fun vs F1 H1 s1 R1 V1 => ?_⟩
        cases V1 with
        | cons h t =>
          cases t with
          | cons h' t =>
            cases t with
            | cons h'' t => cases t; cases h; cases h'; cases h''; exact ⟨i, j, -1, _, rfl, RgC.neg (b62_ok hb.1).1 (b62_ok hb.1).2 (b62_ok hb.2).1 (b62_ok hb.2).2, k _ F1 H1 s1 R1 itd_rangeC⟩
      · cases q
    · cases q
theorem si_enum (hg : Gl X "enumerate") (hm : X.mg "enumerate" = none) (ha : PA X [c] (RdD X.K fd)) (hs : starEach [c] X.env = [(false, eval c X.env)]) : PI X (.Tuple elts kk tpos) (.Call (.Name "enumerate" p) [c] [] pos) (RdI X.K (iEnumD fd)) :=
  pi_weak (pi_or (pi_enum hg hm ha hs) (pi_enumT hg hm ha hs)) fun σ H R ⟨B, F, e, ds, e', SR0, q, k⟩ => by
    obtain ⟨⟨xs, e1⟩, q1, q⟩ := bindS q
    dsimp only at q
    split at q
    · cases q
      refine .inl ⟨B, F, e, _, _, SR0, q1, fun vs F1 H1 s1 R1 V1 => ?_⟩
      cases V1 with
      | cons h t =>
        cases t
        cases h with
        | lst h1 h2 => exact ⟨_, _, rfl, .inl (R1.sub.rd h1), k _ F1 H1 s1 R1 (itd_enum (.inl h1) h2)⟩
    · cases q
      refine .inr ⟨B, F, e, _, _, SR0, q1, fun vs F1 H1 s1 R1 V1 => ?_⟩
      cases V1 with
      | cons h t =>
        cases t
        cases h with
        | tup h1 h2 => exact ⟨_, _, rfl, R1.sub.seqT h1, k _ F1 H1 s1 R1 (itd_enumT h1 h2)⟩
    · cases q
theorem si_zip (hg : Gl X "zip") (hm : X.mg "zip" = none) (ha : PA X [c, c2] (RdD X.K fd)) (hs : starEach [c, c2] X.env = (false, eval c X.env) :: starEach [c2] X.env) (hpl : (backTo pos (starEach [c2] X.env)).any (·.1) = false) :
    PI X (.Tuple elts kk tpos) (.Call (.Name "zip" p) [c, c2] [] pos) (RdI X.K (iZipD fd)) :=
  pi_weak (RZ.pi_zipA hg hm ha hs hpl) fun σ H R ⟨B, F, e, ds, e', SR0, q, k⟩ => by
    obtain ⟨⟨xs, e1⟩, q1, q⟩ := bindS q
    dsimp only at q
    split at q
    · cases q
      refine ⟨B, F, e, _, _, SR0, q1, fun vs F1 H1 s1 R1 V1 => ?_⟩
      cases V1 with
      | cons h t =>
        cases t with
        | cons h' t =>
          cases t
          cases h with
          | lst h1 h2 =>
            cases h' with
            | lst h3 h4 => exact ⟨_, _, _, _, rfl, .inl ⟨.inl (R1.sub.rd h1), .inl (R1.sub.rd h3), k _ F1 H1 s1 R1 (itd_zip (.inl h1) h2 (.inl h3) h4)⟩⟩
    · cases q
      refine ⟨B, F, e, _, _, SR0, q1, fun vs F1 H1 s1 R1 V1 => ?_⟩
      cases V1 with
      | cons h t =>
        cases t with
        | cons h' t =>
          cases t
          cases h with
          | tup h1 h2 =>
            cases h' with
            | tup h3 h4 => exact ⟨_, _, _, _, rfl, .inr ⟨R1.sub.seqT h1, R1.sub.seqT h3, k _ F1 H1 s1 R1 (itd_zipT h1 h2 h3 h4)⟩⟩
    · cases q
theorem si_items (h : PE X c (RdE X.K f)) (hbase : attributeBase c "items" X.env (eval c X.env) = eval c X.env) (hline : (apos.endLine == cpos.line) = true) : PI X (.Tuple elts kk tpos) (.Call (.Attribute c "items" apos) [] [] cpos) (RdI X.K (iItemsD f)) :=
  pi_weak (pi_items (s_ret h) hbase hline) fun σ H R ⟨B, F, e, ds, e', SR0, q, k⟩ => by
    obtain ⟨⟨x, e1⟩, q1, q⟩ := bindS q
    obtain ⟨d, rfl⟩ := mRet_fz q1
    cases d with
    | dk es =>
      cases q
      refine ⟨B, F, e, _, _, SR0, q1, fun v F1 H1 s1 R1 V1 => ?_⟩
      cases V1 with
      | dk h1 h2 => exact ⟨_, _, _, rfl, R1.sub _ _ h1, k _ F1 H1 s1 R1 (itd_items h1 h2)⟩
    | _ => cases q
theorem si_values (h : PE X c (RdE X.K f)) (hbase : attributeBase c "values" X.env (eval c X.env) = eval c X.env) (hline : (apos.endLine == cpos.line) = true) : PI X tg (.Call (.Attribute c "values" apos) [] [] cpos) (RdI X.K (iValuesD f)) :=
  pi_weak (pi_values (s_ret h) hbase hline) fun σ H R ⟨B, F, e, ds, e', SR0, q, k⟩ => by
    obtain ⟨⟨x, e1⟩, q1, q⟩ := bindS q
    obtain ⟨d, rfl⟩ := mRet_fz q1
    cases d with
    | dk es =>
      cases q
      refine ⟨B, F, e, _, _, SR0, q1, fun v F1 H1 s1 R1 V1 => ?_⟩
      cases V1 with
      | dk h1 h2 => exact ⟨_, _, _, rfl, R1.sub _ _ h1, k _ F1 H1 s1 R1 (itd_values h1 h2)⟩
    | _ => cases q
end

/-! ### a thing that stands aside while others are made -/
def Bs.with (B : Bs) (D : Addr) (o : HO) : Bs := ⟨upd B.H0 D o, B.F0, B.io⟩
section
variable {K : Fr} {B : Bs} {F H : Hp} {e : DEnv} {σ : List (Option V)} {D : Addr} {o o' : HO}
theorem SR.aside (R : SR K B F e σ H) (hD : H D = some o) (hF : F D = none) (h0 : B.H0 D = none) (hf : ∀ i, (mutAt e i).isSome → σ[i]? ≠ some (some (.ref D))) : SR K (B.with D o) F e σ H := by
  have nio : B.io ≠ some D := fun z => (R.iof D z).2.2 (.inl h0)
  refine ⟨R.len, R.sub, fun b x q n => ?_, R.inc, fun b q n => ?_, fun a q => ?_, fun i s q => ?_, R.apart⟩
  · by_cases z : b = D
    · subst z; rw [show (B.with b o).H0 b = some o from upd_same] at q; cases q; exact hD
    · rw [show (B.with D o).H0 b = B.H0 b from upd_ne z] at q; exact R.old b x q n
  · have z : b ≠ D := fun z => by subst z; exact n hF
    have r := R.new b q n
    show Lo (upd B.H0 D o) b
    unfold Lo; rw [upd_ne z]; exact r
  · have z : a ≠ D := fun z => nio (z ▸ q)
    obtain ⟨h1, h2, h3⟩ := R.iof a q
    refine ⟨h1, h2, ?_⟩
    show ¬ Lo (upd B.H0 D o) a
    unfold Lo; rw [upd_ne z]; exact h3
  · have r := R.slot i s q
    cases s with
    | em => trivial
    | fz d => exact r
    | own d =>
      obtain ⟨a, h1, h2, h3, h4⟩ := r
      have z : a ≠ D := fun z => hf i (by unfold mutAt; rw [q]; rfl) (z ▸ h1)
      exact ⟨a, h1, h2, (upd_ne z).trans h3, h4⟩
    | io d => exact r
theorem SR.back (R : SR K (B.with D o) F e σ H) (h0 : B.H0 D = none) (hF0 : B.F0 D = none) (hio : B.io ≠ some D) (no : ∀ xs, o ≠ .tup xs) : SR K B F e σ H ∧ H D = some o ∧ F D = none ∧ ∀ i, (mutAt e i).isSome → σ[i]? ≠ some (some (.ref D)) := by
  have at_ : (B.with D o).H0 D = some o := upd_same
  have ne_ : ∀ {b : Addr}, b ≠ D → (B.with D o).H0 b = B.H0 b := fun z => upd_ne z
  have nF : F D = none := by
    cases q : F D with
    | none => rfl
    | some u =>
      rcases R.new D hF0 (by rw [q]; simp) with r | ⟨xs, r⟩
      · rw [at_] at r; cases r
      · rw [at_] at r; exact absurd (Option.some.inj r) (no xs)
  refine ⟨⟨R.len, R.sub, fun b x q n => ?_, R.inc, fun b q n => ?_, fun a q => ?_, fun i s q => ?_, R.apart⟩, R.old D o at_ hio, nF, fun i hi z => ?_⟩
  · have z : b ≠ D := fun z => by rw [z, h0] at q; cases q
    exact R.old b x ((ne_ z).trans q) n
  · have z : b ≠ D := fun z => by rw [z] at n; exact n nF
    have r := R.new b q n
    unfold Lo at r ⊢; rw [ne_ z] at r; exact r
  · have z : a ≠ D := fun z => hio (z ▸ q)
    obtain ⟨h1, h2, h3⟩ := R.iof a q
    refine ⟨h1, h2, ?_⟩
    unfold Lo at h3 ⊢; rw [ne_ z] at h3; exact h3
  · have r := R.slot i s q
    cases s with
    | em => trivial
    | fz d => exact r
    | own d =>
      obtain ⟨a, h1, h2, h3, h4⟩ := r
      have z : a ≠ D := fun z => by rw [z, at_] at h3; cases h3
      exact ⟨a, h1, h2, (ne_ z).symm.trans h3, h4⟩
    | io d => exact r
  · obtain ⟨d, hd⟩ := Option.isSome_iff_exists.mp hi
    obtain ⟨a, h1, _, _, h4⟩ := R.mutC hd
    rw [z] at h1; cases h1
    rcases h4 with h4 | h4
    · rw [at_] at h4; cases h4
    · exact hio h4
/-- what stands aside is changed -/
theorem SR.other (R : SR K B F e σ H) (hD : H D = some o) (hF : F D = none) (h0 : B.H0 D = none) (hf : ∀ i, (mutAt e i).isSome → σ[i]? ≠ some (some (.ref D))) : SR K B F e σ (upd H D o') := by
  have nio : B.io ≠ some D := fun z => (R.iof D z).2.2 (.inl h0)
  refine ⟨R.len, fun b x q => ?_, fun b x q n => ?_, R.inc, R.new, fun a q => ?_, fun i s q => ?_, R.apart⟩
  · rw [upd_ne (fun z => by rw [z, hF] at q; cases q)]; exact R.sub _ _ q
  · rw [upd_ne (fun z => by rw [z, h0] at q; cases q)]; exact R.old b x q n
  · have z : a ≠ D := fun z => nio (z ▸ q)
    obtain ⟨h1, h2, h3⟩ := R.iof a q
    refine ⟨h1, ?_, h3⟩
    unfold Lo; rw [upd_ne z]; exact h2
  · have r := R.slot i s q
    have mv : ∀ {c : Addr} {d : _root_.Pv.D}, s.mut = some d → σ[i]? = some (some (.ref c)) → c ≠ D := fun {c d} hm hc z => hf i (by unfold mutAt; rw [q]; show s.mut.isSome = true; rw [hm]; rfl) (z ▸ hc)
    cases s with
    | em => trivial
    | fz d => exact r
    | own d => obtain ⟨c, h1, h2, h3, h4⟩ := r; exact ⟨c, h1, h2, h3, h4.mono (.refl F) (upd_ne (mv rfl h1))⟩
    | io d => obtain ⟨c, h1, h2, h3, h4⟩ := r; exact ⟨c, h1, h2, h3, h4.mono (.refl F) (upd_ne (mv rfl h1))⟩
/-- slots whose word is empty may hold anything -/
theorem SR.sig {σ' : List (Option V)} (R : SR K B F e σ H) (hl : σ'.length = σ.length) (h : ∀ (i : Nat), e[i]? ≠ some Slot.em → σ'[i]? = σ[i]?) : SR K B F e σ' H := by
  have hm : ∀ i, (mutAt e i).isSome → σ'[i]? = σ[i]? := fun i hi => h i fun z => by unfold mutAt at hi; rw [z] at hi; cases hi
  refine ⟨R.len.trans hl.symm, R.sub, R.old, R.inc, R.new, R.iof, fun i s q => ?_, fun i j a hij h1 h2 e1 e2 => ?_⟩
  · by_cases z : s = Slot.em
    · subst z; trivial
    · rw [h i (by rw [q]; exact fun w => z (Option.some.inj w))]; exact R.slot i s q
  · rw [hm i h1] at e1; rw [hm j h2] at e2; exact R.apart i j a hij h1 h2 e1 e2
end

/-! ### comprehensions -/
def wipeE (e : DEnv) : List Nat → DEnv
  | [] => e
  | v :: vs => (wipeE e vs).set v .em
theorem wipeE_len (e : DEnv) : ∀ vs : List Nat, (wipeE e vs).length = e.length
  | [] => rfl
  | v :: vs => by unfold wipeE; rw [List.length_set, wipeE_len e vs]
theorem wipe_get (σ : List (Option V)) (j : Nat) : ∀ vs : List Nat, (wipe σ vs)[j]? = if j ∈ vs then (if j < σ.length then some none else none) else σ[j]?
  | [] => by simp [wipe]
  | v :: vs => by
    unfold wipe
    rw [List.getElem?_set, wipe_length, wipe_get σ j vs]
    by_cases h : v = j
    · subst h; simp
    · have h' : ¬ j = v := fun z => h z.symm
      simp [h, h']
theorem wipeE_em {e : DEnv} {j : Nat} : ∀ {vs : List Nat}, j ∈ vs → (wipeE e vs)[j]? = some .em ∨ (wipeE e vs)[j]? = none
  | v :: vs, h => by
    unfold wipeE
    rw [List.getElem?_set]
    by_cases hv : v = j
    · rw [if_pos hv]
      by_cases hl : v < (wipeE e vs).length
      · rw [if_pos hl]; exact .inl rfl
      · rw [if_neg hl]; exact .inr rfl
    · rw [if_neg hv]
      exact wipeE_em ((List.mem_cons.mp h).resolve_left (fun z => hv z.symm))
theorem wipe_eq {σ σ' : List (Option V)} {vs : List Nat} (h : Apart vs (wipe σ vs) σ') : wipe σ' vs = wipe σ vs := by
  apply List.ext_getElem?
  intro j
  rw [wipe_get, wipe_get]
  have hl := h.1
  rw [wipe_length] at hl
  by_cases hj : j ∈ vs
  · rw [if_pos hj, if_pos hj, hl]
  · rw [if_neg hj, if_neg hj, h.2 j hj, wipe_get, if_neg hj]
section
variable {K : Fr} {B : Bs} {F H : Hp} {e : DEnv} {σ σ' : List (Option V)}
theorem SR.wipeE (R : SR K B F e σ H) : ∀ vs : List Nat, SR K B F (wipeE e vs) σ H
  | [] => R
  | v :: vs => (R.wipeE vs).word trivial (fun z => nomatch z)
theorem SR.wipes (R : SR K B F e σ' H) {vs : List Nat} (h : Apart vs (wipe σ vs) σ') : SR K B F (Pv.wipeE e vs) (wipe σ vs) H := by
  refine (R.wipeE vs).sig h.1.symm fun j hj => ?_
  by_cases z : j ∈ vs
  · rcases wipeE_em (e := e) z with w | w
    · exact absurd w hj
    · have hl : ¬ j < σ'.length := fun q => by
        rw [List.getElem?_eq_none_iff, wipeE_len, R.len] at w; omega
      rw [List.getElem?_eq_none (by rw [← h.1]; omega), List.getElem?_eq_none (by omega)]
  · exact (h.2 j z).symm
theorem SR.unwipe {vs : List Nat} (R : SR K B F (Pv.wipeE e vs) (wipe σ vs) H) : SR K B F (Pv.wipeE e vs) σ H := by
  refine R.sig (wipe_length σ vs).symm fun j hj => ?_
  by_cases z : j ∈ vs
  · rcases wipeE_em (e := e) z with w | w
    · exact absurd w hj
    · have hl : ¬ j < σ.length := fun q => by
        have := R.len
        rw [wipe_length] at this
        rw [List.getElem?_eq_none_iff, this] at w; omega
      rw [List.getElem?_eq_none (by omega), List.getElem?_eq_none (by rw [wipe_length]; omega)]
  · rw [wipe_get, if_neg z]
end
def loopC (b : Bd) (t : EvT) (f : Ev) (vs : List Nat) : List D → DEnv → Nat → Option (List D × DEnv)
  | [], e, _ => some ([], e)
  | d :: ds, e, n => match b d e with
    | none => none
    | some e1 => match t e1 with
      | none => none
      | some (false, e2) => loopC b t f vs ds (wipeE e2 vs) n
      | some (true, e2) => match mRet f e2 with
        | some (.fz d', e3) => if n < LINE then (match loopC b t f vs ds (wipeE e3 vs) (n + 1) with
          | some (r, e4) => some (d' :: r, e4)
          | none => none) else none
        | _ => none
def mComp (fi : EvI) (b : Bd) (t : EvT) (f : Ev) (vs : List Nat) : Ev := fun e => do
  let (ds, e1) ← fi e
  let (r, e2) ← loopC b t f vs ds (wipeE e1 vs) 0
  some (.own (.lst r), wipeE e2 vs)
def mYes : EvT := fun e => some (true, e)
theorem loopC_wiped {b : Bd} {t : EvT} {f : Ev} {vs : List Nat} : ∀ {ds : List D} {e e' : DEnv} {n : Nat} {r : List D}, loopC b t f vs ds (wipeE e vs) n = some (r, e') → ∃ e0, e' = wipeE e0 vs
  | [], e, _, _, _, h => by cases h; exact ⟨e, rfl⟩
  | d :: ds, e, e', n, r, h => by
    unfold loopC at h
    split at h
    · cases h
    · split at h
      · cases h
      · exact loopC_wiped h
      · split at h
        · split at h
          · split at h
            · rename_i q; cases h; exact loopC_wiped q
            · cases h
          · cases h
        · cases h
theorem rd_comp {K : Fr} {fi : EvI} {b : Bd} {t : EvT} {f : Ev} {vs us : List Nat} (hus : ∀ j ∈ us, j ∈ vs) {σ : List (Option V)} {H : Hp} {Q : VK} (h : RdE K (mComp fi b t f vs) σ H Q) :
    tLc (RdI K fi) (RdG K b us) (RdT K t) (RdE K (mRet f)) vs σ H Q := by
  obtain ⟨B, F, e, x, e', R, q, k⟩ := h
  obtain ⟨⟨ds, e1⟩, q1, q⟩ := bindS q
  obtain ⟨⟨total, e2⟩, q2, q⟩ := bindS q
  cases q
  refine ⟨B, F, e, ds, e1, R, q1, fun J F1 H1 s1 R1 ⟨go, stop, yld⟩ D hD => ?_⟩
  have hF1 : F1 D = none := R1.sub.none hD
  have hB0 : B.H0 D = none := by
    cases z : B.H0 D with
    | none => rfl
    | some o =>
      by_cases w : B.io = some D
      · exact absurd (.inl hD) (R1.iof D w).2.1
      · rw [R1.old D o z w] at hD; cases hD
  have hF0 : B.F0 D = none := R1.inc.none hF1
  have hio : B.io ≠ some D := fun z => (R1.iof D z).2.1 (.inl hD)
  have nosl : ∀ i, (mutAt e1 i).isSome → σ[i]? ≠ some (some (.ref D)) := fun i hi z => by
    obtain ⟨d, hd⟩ := Option.isSome_iff_exists.mp hi
    obtain ⟨a, h1, _, h3, _⟩ := R1.mutC hd
    rw [z] at h1; cases h1
    obtain ⟨o, ho⟩ := h3.some
    rw [hD] at ho; cases ho
  refine ⟨fun i m H => m = ds.length - i ∧ i ≤ ds.length ∧ ∃ F e acc xs rest, Sub F1 F ∧ SR K B F (wipeE e vs) (wipe σ vs) H ∧ H D = some (.lst xs) ∧ Dens K F acc xs ∧ F D = none ∧ (∀ i, (mutAt (wipeE e vs) i).isSome → (wipe σ vs)[i]? ≠ some (some (.ref D))) ∧
    loopC b t f vs (ds.drop i) (wipeE e vs) acc.length = some (rest, e2) ∧ acc ++ rest = total, ⟨_, rfl, Nat.zero_le _, F1, e1, [], [], total, .refl F1, ?_, upd_same, .nil, hF1, ?_, q2, rfl⟩, ?_⟩
  · have r := R1.ext (Ext.new (o := .lst []) R1.sub hD)
    have ap : Apart vs (wipe σ vs) σ := ⟨(wipe_length σ vs).symm, fun j hj => by rw [wipe_get, if_neg hj]⟩
    exact r.wipes ap
  · have ap : Apart vs (wipe σ vs) σ := ⟨(wipe_length σ vs).symm, fun j hj => by rw [wipe_get, if_neg hj]⟩
    intro i hi z
    obtain ⟨d, hd⟩ := Option.isSome_iff_exists.mp hi
    obtain ⟨a, h1, _, h3, _⟩ := (R1.wipes ap).mutC hd
    rw [z] at h1; cases h1
    obtain ⟨o, ho⟩ := h3.some
    rw [hD] at ho; cases ho
  rintro i m H2 ⟨rfl, hi, F2, e3, acc, xs, rest, s2, R2, hD2, V2, hF2, ns2, q3, qt⟩
  by_cases hlt : i < ds.length
  · right
    refine ⟨go i H2 hlt (s2.trans R2.sub), fun H => i + 1 ≤ ds.length ∧ ∃ F e acc xs rest, Sub F1 F ∧ SR K B F (wipeE e vs) (wipe σ vs) H ∧ H D = some (.lst xs) ∧ Dens K F acc xs ∧ F D = none ∧ (∀ i, (mutAt (wipeE e vs) i).isSome → (wipe σ vs)[i]? ≠ some (some (.ref D))) ∧
      loopC b t f vs (ds.drop (i + 1)) (wipeE e vs) acc.length = some (rest, e2) ∧ acc ++ rest = total, fun H' h => ⟨ds.length - (i + 1), by omega, rfl, h⟩, fun x H' hy => ?_⟩
    obtain ⟨F3, d, x3, hd, den⟩ := yld i F2 H2 x H' hlt s2 R2.sub hy
    have R3a := (R2.aside hD2 hF2 hB0 ns2).ext x3
    rw [List.drop_eq_getElem_cons hlt] at q3
    have ed : ds[i] = d := by rw [List.getElem?_eq_getElem hlt] at hd; exact Option.some.inj hd
    rw [ed] at q3
    have nolst : ∀ ys, HO.lst xs ≠ .tup ys := fun ys z => nomatch z
    unfold loopC at q3
    split at q3
    · cases q3
    · rename_i e4 q4
      refine ⟨B.with D (.lst xs), F3, _, d, e4, R3a, den, q4, fun σ4 R4 ap4 => ?_⟩
      have apv : Apart vs (wipe σ vs) σ4 := ⟨ap4.1, fun j hj => ap4.2 j fun z => hj (hus j z)⟩
      refine ⟨wipe_eq apv, ?_⟩
      have up := s2.trans x3.f
      have fin : ∀ {F5 H5 e5} (R5 : SR K (B.with D (.lst xs)) F5 e5 σ4 H5), Sub F3 F5 → SR K B F5 (wipeE e5 vs) (wipe σ vs) H5 ∧ H5 D = some (.lst xs) ∧ Dens K F5 acc xs ∧ F5 D = none ∧ (∀ i, (mutAt (wipeE e5 vs) i).isSome → (wipe σ vs)[i]? ≠ some (some (.ref D))) := fun {F5 H5 e5} R5 s5 => by
        obtain ⟨r1, r2, r3, r4⟩ := (R5.wipes apv).back hB0 hF0 hio nolst
        exact ⟨r1, r2, V2.mono (x3.f.trans s5), r3, r4⟩
      split at q3
      · cases q3
      · rename_i e5 q5
        refine ⟨_, F3, e4, false, e5, R4, q5, fun F5 H5 s5 R5 => ?_⟩
        obtain ⟨r1, r2, r3, r4, r5⟩ := fin R5 s5
        exact iteF ⟨hlt, F5, e5, acc, xs, rest, up.trans s5, r1, r2, r3, r4, r5, q3, qt⟩
      · rename_i e5 q5
        refine ⟨_, F3, e4, true, e5, R4, q5, fun F5 H5 s5 R5 => iteT ?_⟩
        split at q3
        · rename_i d' e6 q6
          split at q3
          · rename_i hn
            split at q3
            · rename_i r e7 q7
              cases q3
              refine ⟨_, F5, e5, _, e6, R5, q6, fun v F6 H6 s6 R6 V6 => ?_⟩
              obtain ⟨r1, r2, r3, r4, r5⟩ := fin R6 (s5.trans s6)
              refine ⟨xs, r2, by rw [r3.length, ← line_eq]; exact hn, hlt, F6, e6, acc ++ [d'], xs ++ [v], r, (up.trans s5).trans s6, r1.other r2 r4 hB0 r5, upd_same, r3.snoc V6, r4, r5, ?_, ?_⟩
              · rw [List.length_append]; exact q7
              · rw [List.append_assoc]; exact qt
            · cases q3
          · cases q3
        · cases q3
  · left
    have ei : i = ds.length := by omega
    subst ei
    rw [List.drop_length] at q3
    cases q3
    rw [List.append_nil] at qt
    subst qt
    refine ⟨stop H2 (s2.trans R2.sub), ?_⟩
    have idem : ∀ j, (mutAt (wipeE (wipeE e3 vs) vs) j).isSome → (mutAt (wipeE e3 vs) j).isSome := fun j hj => by
      by_cases z : j ∈ vs
      · unfold mutAt at hj
        rcases wipeE_em (e := wipeE e3 vs) z with w | w <;> (rw [w] at hj; cases hj)
      · have : ∀ (vs : List Nat) (e : DEnv), j ∉ vs → (wipeE e vs)[j]? = e[j]? := by
          intro vs
          induction vs with
          | nil => intro e _; rfl
          | cons v vs ih =>
            intro e hv
            rw [List.mem_cons, not_or] at hv
            show ((wipeE e vs).set v .em)[j]? = _
            rw [List.getElem?_set_ne (fun z => hv.1 z.symm), ih e hv.2]
        unfold mutAt at hj ⊢
        rw [this vs _ z] at hj; exact hj
    have ap : Apart vs (wipe σ vs) (wipe σ vs) := ⟨rfl, fun _ _ => rfl⟩
    have R9 := (R2.wipes ap).unwipe
    refine k (.ref D) F2 H2 (s1.trans s2) R9 ⟨D, rfl, hF2, hB0, ⟨xs, hD2, V2⟩, fun i hi z => ?_⟩
    refine ns2 i (idem i hi) ?_
    have hnv : i ∉ vs := fun w => by
      unfold mutAt at hi
      rcases wipeE_em (e := wipeE e3 vs) w with w | w <;> (rw [w] at hi; cases hi)
    rw [wipe_get, if_neg hnv]; exact z
end Pv
end

section
set_option maxRecDepth 100000
set_option maxHeartbeats 4000000
namespace Pv
open PySem PySem.Spec L2

/-! ### several names stored at once -/
def owns : List V → List Val → List Addr
  | .ref a :: vs, .own _ :: xs => a :: owns vs xs
  | _ :: vs, _ :: xs => owns vs xs
  | _, _ => []
inductive VOwn (K : Fr) (B : Bs) (F H : Hp) (e : DEnv) (σ : List (Option V)) : List V → List Val → Prop
  | nil : VOwn K B F H e σ [] []
  | fz {v : V} {vs : List V} {d : D} {xs : List Val} : Den K F d v → VOwn K B F H e σ vs xs → VOwn K B F H e σ (v :: vs) (.fz d :: xs)
  | own {a : Addr} {vs : List V} {d : D} {xs : List Val} : F a = none → B.H0 a = none → Cont K F H a d → (∀ i, (mutAt e i).isSome → σ[i]? ≠ some (some (.ref a))) → a ∉ owns vs xs → VOwn K B F H e σ vs xs → VOwn K B F H e σ (.ref a :: vs) (.own d :: xs)
abbrev EvV := DEnv → Option (List Val × DEnv)
def RdV (K : Fr) (f : EvV) : TA := fun σ H Q => ∃ (B : Bs) (F : Hp) (e : DEnv) (xs : List Val) (e' : DEnv), SR K B F e σ H ∧ f e = some (xs, e') ∧
  ∀ vs F' H', Sub F F' → SR K B F' e' σ H' → VOwn K B F' H' e' σ vs xs → Q vs H'
def mNilV : EvV := fun e => some ([], e)
def mConsV (f : Ev) (r : EvV) : EvV := fun e => do
  let (x, e1) ← f e
  let (xs, e2) ← r e1
  match x with
  | .sl _ => none
  | x => some (x :: xs, e2)
theorem VOwn.backs {K : Fr} {B : Bs} {F H : Hp} {e : DEnv} {σ : List (Option V)} {a : Addr} {o : HO} : ∀ {vs : List V} {xs : List Val}, VOwn K (B.with a o) F H e σ vs xs → VOwn K B F H e σ vs xs ∧ a ∉ owns vs xs
  | _, _, .nil => ⟨.nil, by simp [owns]⟩
  | v :: vs, _, .fz h t => by
    obtain ⟨t1, t2⟩ := VOwn.backs t
    refine ⟨.fz h t1, ?_⟩
    cases v <;> exact t2
  | _, _, .own (a := b) h1 h2 h3 h4 h5 t => by
    obtain ⟨t1, t2⟩ := VOwn.backs t
    have z : b ≠ a := fun z => by
      rw [z] at h2
      have h2 : upd B.H0 a o a = none := h2
      rw [upd_same] at h2; cases h2
    refine ⟨.own h1 ((upd_ne z).symm.trans h2) h3 h4 h5 t1, ?_⟩
    show a ∉ b :: owns _ _
    rw [List.mem_cons, not_or]
    exact ⟨fun w => z w.symm, t2⟩
section
variable {X : Cx} {c : Expr} {es : List Expr} {f : Ev} {fr : EvV}
theorem sv_nil : PA X [] (RdV X.K mNilV) := pa_weak pa_nil fun σ H Q ⟨B, F, e, x, e', R, q, k⟩ => by cases q; exact k [] F H (.refl F) R .nil
theorem sv_cons (ha : PE X c (RdE X.K f)) (hr : PA X es (RdV X.K fr)) (hs : starEach (c :: es) X.env = (false, eval c X.env) :: starEach es X.env) : PA X (c :: es) (RdV X.K (mConsV f fr)) :=
  pa_weak (pa_cons ha hr hs) fun σ H Q ⟨B, F, e, x, e', R, q, k⟩ => by
    obtain ⟨⟨va, e1⟩, q1, q⟩ := bindS q
    obtain ⟨⟨xs, e2⟩, q2, q⟩ := bindS q
    refine ⟨B, F, e, va, e1, R, q1, fun v F1 H1 s1 R1 V1 => ?_⟩
    cases va with
    | sl i => cases q
    | fz d =>
      cases q
      exact ⟨B, F1, e1, xs, _, R1, q2, fun vs F2 H2 s2 R2 V2 => k _ F2 H2 (s1.trans s2) R2 (.fz (Den.mono s2 V1) V2)⟩
    | own d =>
      cases q
      obtain ⟨a, rfl, h1, h2, h3, h4⟩ := V1
      obtain ⟨o, ho⟩ := h3.some
      have no : ∀ xs, o ≠ .tup xs := fun xs z => h3.lo (.inr ⟨xs, by rw [ho, z]⟩)
      have hio : B.io ≠ some a := fun z => (R1.iof a z).2.2 (.inl h2)
      refine ⟨B.with a o, F1, e1, xs, _, R1.aside ho h1 h2 h4, q2, fun vs F2 H2 s2 R2 V2 => ?_⟩
      obtain ⟨r1, r2, r3, r4⟩ := R2.back h2 (R1.inc.none h1) hio no
      obtain ⟨v1, v2⟩ := V2.backs
      exact k _ F2 H2 (s1.trans s2) r1 (.own r3 h2 (h3.mono s2 (r2.trans ho.symm)) r4 v2 v1)
end
def setAll (σ : List (Option V)) : List Nat → List V → List (Option V)
  | i :: is, v :: vs => setAll (σ.set i (some v)) is vs
  | _, _ => σ
def putAll : List Nat → List Val → DEnv → Option DEnv
  | [], [], e => some e
  | i :: is, .fz d :: xs, e => if i < e.length then putAll is xs (e.set i (.fz d)) else none
  | i :: is, .own d :: xs, e => if i < e.length then putAll is xs (e.set i (.own d)) else none
  | _, _, _ => none
theorem SR.puts {K : Fr} {B : Bs} {F H : Hp} : ∀ {is : List Nat} {vs : List V} {xs : List Val} {e e' : DEnv} {σ : List (Option V)}, SR K B F e σ H → VOwn K B F H e σ vs xs → putAll is xs e = some e' → SR K B F e' (setAll σ is vs) H
  | [], _, _, e, e', σ, R, .nil, q => by cases q; exact R
  | i :: is, v :: vs, .fz d :: xs, e, e', σ, R, .fz h t, q => by
    have q : (if i < e.length then putAll is xs (e.set i (.fz d)) else none) = some e' := q
    split at q
    · rename_i hi
      have R1 := R.store (s := .fz d) hi ⟨v, rfl, h⟩ (fun z => nomatch z)
      show SR K B F e' (setAll (σ.set i (some v)) is vs) H
      refine SR.puts R1 ?_ q
      have go : ∀ {vs : List V} {xs : List Val}, VOwn K B F H e σ vs xs → VOwn K B F H (e.set i (.fz d)) (σ.set i (some v)) vs xs := by
        intro vs xs t
        induction t with
        | nil => exact .nil
        | fz h t ih => exact .fz h ih
        | own h1 h2 h3 h4 h5 t ih =>
          refine .own h1 h2 h3 (fun j hj z => ?_) h5 ih
          rw [mutAt_set] at hj
          split at hj
          · cases hj
          · rename_i n
            have nij : i ≠ j := fun w => n ⟨w, hi⟩
            rw [List.getElem?_set_ne nij] at z
            exact h4 j hj z
      exact go t
    · cases q
  | i :: is, _, .own d :: xs, e, e', σ, R, .own (a := a) (vs := vs) h1 h2 h3 h4 h5 t, q => by
    have q : (if i < e.length then putAll is xs (e.set i (.own d)) else none) = some e' := q
    split at q
    · rename_i hi
      have R1 := R.store (s := .own d) (v := .ref a) hi ⟨a, rfl, h1, h2, h3⟩ (fun _ j _ hj => h4 j hj)
      have il : i < σ.length := by rw [← R.len]; exact hi
      show SR K B F e' (setAll (σ.set i (some (.ref a))) is vs) H
      refine SR.puts R1 ?_ q
      have go : ∀ {vs : List V} {xs : List Val}, VOwn K B F H e σ vs xs → a ∉ owns vs xs → VOwn K B F H (e.set i (.own d)) (σ.set i (some (.ref a))) vs xs := by
        intro vs xs t
        induction t with
        | nil => intro _; exact .nil
        | fz h t ih => 
          rename_i v _ _ _
          intro hn
          refine .fz h (ih ?_)
          cases v <;> exact hn
        | own g1 g2 g3 g4 g5 t ih =>
          rename_i b _ _ _
          intro hn
          have hn : a ∉ b :: owns _ _ := hn
          rw [List.mem_cons, not_or] at hn
          refine .own g1 g2 g3 (fun j hj z => ?_) g5 (ih hn.2)
          rw [mutAt_set] at hj
          split at hj
          · rename_i w
            rw [← w.1, List.getElem?_set, if_pos rfl, if_pos il] at z
            cases z; exact hn.1 rfl
          · rename_i n
            have nij : i ≠ j := fun w => n ⟨w, hi⟩
            rw [List.getElem?_set_ne nij] at z
            exact g4 j hj z
      exact go t h5
    · cases q
  | [], _ :: _, _ :: _, _, _, _, _, _, q => by cases q
  | _ :: _, [], [], _, _, _, _, .nil, q => by cases q
def xPar (is : List Nat) (f : EvV) : ExS := fun e => do
  let (xs, e1) ← f e
  let e2 ← putAll is xs e1
  if xs.length ≤ LINE && xs.length == is.length then some (.nx e2) else none
/-- the targets are plain names -/
def gNames (is : List Nat) : TGs := fun vs σ H Q => vs.length = is.length ∧ Q (setAll σ is vs) H
theorem sgn_nil {X : Cx} : PGs X [] (gNames []) := pgs_weak pgs_nil fun vs σ H Q ⟨h, q⟩ => by
  cases vs with
  | nil => exact ⟨rfl, q⟩
  | cons v vs => cases h
theorem sgn_cons {X : Cx} {t : Expr} {ts : List Expr} {i : Nat} {is : List Nat} (h1 : PG X t (gName i)) (h2 : PGs X ts (gNames is)) (hs : (assignEach (t :: ts) X.env).map (·.2) = assign t X.env :: (assignEach ts X.env).map (·.2)) : PGs X (t :: ts) (gNames (i :: is)) :=
  pgs_weak (pgs_cons h1 h2 hs) fun vs σ H Q ⟨h, q⟩ => by
    cases vs with
    | nil => cases h
    | cons v vs => exact ⟨v, vs, rfl, Nat.succ.inj h, q⟩
theorem VOwn.len {K : Fr} {B : Bs} {F H : Hp} {e : DEnv} {σ : List (Option V)} : ∀ {vs : List V} {xs : List Val}, VOwn K B F H e σ vs xs → vs.length = xs.length
  | _, _, .nil => rfl
  | _, _, .fz _ t => congrArg (· + 1) t.len
  | _, _, .own _ _ _ _ _ t => congrArg (· + 1) t.len
section
variable {X : Cx} {ts es : List Expr} {is : List Nat} {f : EvV} {k k2 n : Nat} {pt pv pos : Pos}
/-- a, b, .. = x, y, .. where the tuple is made -/
theorem s_par (hc : X.calm = true) (hv : PA X es (RdV X.K f)) (hg : PGs X ts (gNames is)) (hn : (assignEach ts X.env).length = is.length) (hst : (assignEach ts X.env).findIdx? (·.1) = none)
    (hs : swapsWithSole [.Tuple ts k pt] (.Tuple es k2 pv) pos.line X.env = pure false) (hw : swappedStores [.Tuple ts k pt] (.Tuple es k2 pv) X.env = pure none) (h1 : (assignEach [.Tuple ts k pt] X.env).map (·.2) = [assign (.Tuple ts k pt) X.env]) :
    PS X (.Assign [.Tuple ts k pt] (.Tuple es k2 pv) pos) (RdS X.K (xPar is f)) := ps_weak (ps_asg (pe_tup hv) (pg_tup hc hg hn hst) hs hw h1) fun D σ H ⟨B, F, e, o, R, q, kk⟩ => by
  obtain ⟨⟨xs, e1⟩, q1, q⟩ := bindS q
  obtain ⟨e2, q2, q⟩ := bindS q
  split at q
  · rename_i hl
    cases q
    rw [Bool.and_eq_true] at hl
    have l1 : xs.length ≤ LINE := of_decide_eq_true hl.1
    have l2 : xs.length = is.length := beq_iff_eq.mp hl.2
    refine ⟨B, F, e, xs, e1, R, q1, fun vs F1 H1 s1 R1 V1 => ⟨by rw [V1.len, ← line_eq]; exact l1, fun p hp => ?_⟩⟩
    refine ⟨p, vs, rfl, SqT.of upd_same, V1.len.trans l2, V1.len.trans l2, ?_⟩
    have x := Ext.new (o := .tup vs) R1.sub hp
    have V2 : VOwn X.K B F1 (upd H1 p (.tup vs)) e1 σ vs xs := by
      have go : ∀ {us : List V} {ys : List Val} {o : HO}, VOwn X.K B F1 H1 e1 σ us ys → VOwn X.K B F1 (upd H1 p o) e1 σ us ys := by
        intro us ys o t
        induction t with
        | nil => exact .nil
        | fz h t ih => exact .fz h ih
        | own g1 g2 g3 g4 g5 t ih =>
          obtain ⟨w, hw⟩ := g3.some
          exact .own g1 g2 (g3.mono (.refl F1) (upd_ne (ne_of_none hw hp))) g4 g5 ih
      exact go V1
    exact kk _ F1 _ s1 ((R1.ext x).puts V2 q2)
  · cases q
theorem setAll2 {σ : List (Option V)} {i j : Nat} {v w : V} : setAll σ [i, j] [v, w] = (σ.set i (some v)).set j (some w) := rfl
/-- a, b = x, y where no tuple is made -/
theorem s_par2 {st : Stmt} {i j : Nat} (h : PS X st (tPar i j (RdV X.K f))) : PS X st (RdS X.K (xPar [i, j] f)) := ps_weak h fun D σ H ⟨B, F, e, o, R, q, kk⟩ => by
  obtain ⟨⟨xs, e1⟩, q1, q⟩ := bindS q
  obtain ⟨e2, q2, q⟩ := bindS q
  split at q
  · rename_i hl
    cases q
    rw [Bool.and_eq_true] at hl
    have l2 : xs.length = 2 := beq_iff_eq.mp hl.2
    refine ⟨B, F, e, xs, e1, R, q1, fun vs F1 H1 s1 R1 V1 => ?_⟩
    have l3 := V1.len.trans l2
    match vs, l3 with
    | [v, w], _ => exact ⟨v, w, rfl, kk _ F1 _ s1 (R1.puts V1 q2)⟩
  · cases q
end
end Pv
end

section
set_option maxRecDepth 100000
set_option maxHeartbeats 4000000
namespace Pv
open PySem PySem.Spec L2 PyProof.Rows

/-! ### functions -/
/-- a call's end: the value, what the changed argument is then -/
structure FRes where
  val : Val
  io : D
abbrev FRun := List D → Option FRes
/-- what a call promises of its value -/
def spN (K : Fr) (m : FRun) : Sp := fun vs H Q _ => ∃ (F : Hp) (ds : List D) (r : FRes), Sub F H ∧ Dens K F ds vs ∧ m ds = some r ∧ ∀ v F' H', Ext F H F' H' → R0 K F H F' H' v r.val → Q v H'
def spIO (K : Fr) (m : FRun) : Sp := fun vs H Q _ => ∃ (F : Hp) (a : Addr) (us : List V) (d : D) (ds : List D) (r : FRes), vs = .ref a :: us ∧ Sub F H ∧ F a = none ∧ Cont K F H a d ∧ Dens K F ds us ∧ m (d :: ds) = some r ∧
  ∀ v F' H' o', Sub F F' → Sub F' H' → F' a = none → H' a = some o' → (∀ b o, b ≠ a → H b = some o → H' b = some o) → (∀ b, F b = none → F' b ≠ none → Lo H b) → Cont K F' H' a r.io → R0 K F H F' H' v r.val → Q v H'
/-- what a body's end is -/
def endV (x : Val) (e : DEnv) : Option Val := match x with
  | .sl i => match e[i]? with
    | some (.own d) => some (.own d)
    | _ => none
  | x => some x
def endN : Option SOut → Option FRes
  | some (.rt x e) => match endV x e with
    | some w => some ⟨w, .non⟩
    | none => none
  | some (.nx _) => some ⟨.fz .non, .non⟩
  | _ => none
def endIO : Option SOut → Option FRes
  | some (.rt x e) => match endV x e, e[0]? with
    | some w, some (Slot.io d) => some ⟨w, d⟩
    | _, _ => none
  | some (.nx e) => match e[0]? with
    | some (Slot.io d) => some ⟨.fz .non, d⟩
    | _ => none
  | _ => none
/-- a def by its body: np parameters, n names -/
def runN (x : ExS) (np n : Nat) : FRun := fun ds => if ds.length = np then endN (x (ds.map Slot.fz ++ List.replicate (n - np) .em)) else none
def runIO (x : ExS) (np n : Nat) : FRun := fun ds => match ds with
  | d :: ds => if ds.length + 1 = np then endIO (x (.io d :: (ds.map Slot.fz ++ List.replicate (n - np) .em))) else none
  | [] => none
theorem runN_len {x : ExS} {np n : Nat} {ds : List D} {r : FRes} (h : runN x np n ds = some r) : ds.length = np := by
  unfold runN at h; split at h
  · assumption
  · cases h
theorem start_get {N : List Str} {vs : List V} {i : Nat} {v : V} (h : vs[i]? = some v) : (L2.start N vs)[i]? = some (some v) := by
  have hl : i < vs.length := (List.getElem?_eq_some_iff.mp h).1
  unfold L2.start
  rw [List.getElem?_append_left (by rw [List.length_map]; exact hl), List.getElem?_map, h]; rfl
theorem start_sr {K : Fr} {F H : Hp} {N : List Str} {ds : List D} {vs : List V} {n : Nat} (s : Sub F H) (h : Dens K F ds vs) (hn : N.length = n) (hl : ds.length ≤ n) :
    SR K ⟨H, F, none⟩ F (ds.map Slot.fz ++ List.replicate (n - ds.length) .em) (L2.start N vs) H := by
  have hm : ∀ i, (mutAt (ds.map Slot.fz ++ List.replicate (n - ds.length) .em) i).isSome → False := fun i hi => by
    obtain ⟨d, hd⟩ := Option.isSome_iff_exists.mp hi
    have key : ∀ s, (ds.map Slot.fz ++ List.replicate (n - ds.length) .em)[i]? = some s → s.mut = none := fun s q => by
      rcases List.mem_append.mp (List.mem_of_getElem? q) with w | w
      · obtain ⟨d, _, rfl⟩ := List.mem_map.mp w; rfl
      · rw [(List.mem_replicate.mp w).2]; rfl
    rcases mutAt_slot hd with q | q <;> (have := key _ q; cases this)
  refine ⟨?_, s, fun b o q _ => q, .refl F, fun b q n => absurd q n, fun a q => (nomatch q), fun i sl q => ?_, fun i j a _ h1 => (hm i h1).elim⟩
  · unfold L2.start
    rw [List.length_append, List.length_append, List.length_map, List.length_map, List.length_replicate, List.length_replicate, hn, h.length]
  · by_cases z : i < ds.length
    · rw [List.getElem?_append_left (by rw [List.length_map]; exact z), List.getElem?_map] at q
      obtain ⟨d, hd⟩ := get_of z
      rw [hd] at q
      cases q
      obtain ⟨v, hv, hdn⟩ := h.get hd
      exact ⟨v, start_get hv, hdn⟩
    · rw [List.getElem?_append_right (by rw [List.length_map]; omega)] at q
      have := (List.mem_replicate.mp (List.mem_of_getElem? q)).2
      subst this; trivial
theorem start_io {K : Fr} {F H : Hp} {N : List Str} {d : D} {ds : List D} {a : Addr} {vs : List V} {n : Nat} (s : Sub F H) (hF : F a = none) (c : Cont K F H a d) (h : Dens K F ds vs) (hn : N.length = n) (hl : ds.length + 1 ≤ n) :
    SR K ⟨H, F, some a⟩ F (.io d :: (ds.map Slot.fz ++ List.replicate (n - (ds.length + 1)) .em)) (L2.start N (.ref a :: vs)) H := by
  have hm : ∀ i, (mutAt (.io d :: (ds.map Slot.fz ++ List.replicate (n - (ds.length + 1)) .em)) i).isSome → i = 0 := fun i hi => by
    cases i with
    | zero => rfl
    | succ i =>
      obtain ⟨d', hd⟩ := Option.isSome_iff_exists.mp hi
      have key : ∀ s, (ds.map Slot.fz ++ List.replicate (n - (ds.length + 1)) .em)[i]? = some s → s.mut = none := fun s q => by
        rcases List.mem_append.mp (List.mem_of_getElem? q) with w | w
        · obtain ⟨d, _, rfl⟩ := List.mem_map.mp w; rfl
        · rw [(List.mem_replicate.mp w).2]; rfl
      rcases mutAt_slot hd with q | q <;> (rw [List.getElem?_cons_succ] at q; have := key _ q; cases this)
  refine ⟨?_, s, fun b o q _ => q, .refl F, fun b q n => absurd q n, fun b q => (by cases q; exact ⟨hF, c.lo, c.lo⟩), fun i sl q => ?_, fun i j a hij h1 h2 => (hij ((hm i h1).trans (hm j h2).symm)).elim⟩
  · unfold L2.start
    rw [List.length_cons, List.length_append, List.length_append, List.length_map, List.length_map, List.length_replicate, List.length_replicate, hn, List.length_cons, h.length]
    omega
  · cases i with
    | zero =>
      rw [List.getElem?_cons_zero] at q
      cases q
      exact ⟨a, start_get rfl, hF, rfl, c⟩
    | succ i =>
      rw [List.getElem?_cons_succ] at q
      by_cases z : i < ds.length
      · rw [List.getElem?_append_left (by rw [List.length_map]; exact z), List.getElem?_map] at q
        obtain ⟨d, hd⟩ := get_of z
        rw [hd] at q
        cases q
        obtain ⟨v, hv, hdn⟩ := h.get hd
        exact ⟨v, start_get (by rw [List.getElem?_cons_succ]; exact hv), hdn⟩
      · rw [List.getElem?_append_right (by rw [List.length_map]; omega)] at q
        have := (List.mem_replicate.mp (List.mem_of_getElem? q)).2
        subst this; trivial
theorem endV_ok {K : Fr} {B : Bs} {F H F' H' : Hp} {e : DEnv} {σ : List (Option V)} {v : V} {x w : Val} (hB : B.H0 = H) (R : SR K B F' e σ H') (h : VOk K B F' H' e σ v x) (q : endV x e = some w) : R0 K F H F' H' v w := by
  cases x with
  | fz d => cases q; exact h
  | own d => cases q; obtain ⟨a, rfl, h1, h2, h3, _⟩ := h; exact ⟨a, rfl, hB ▸ h2, h1, h3⟩
  | sl i =>
    unfold endV at q
    dsimp only at q
    split at q
    · rename_i d hd
      cases q
      obtain ⟨a, h1, h2, h3, h4⟩ := R.slot i _ hd
      obtain ⟨_, h5⟩ := h
      rw [h1] at h5; cases h5
      exact ⟨a, rfl, hB ▸ h3, h2, h4⟩
    · cases q
/-- THE RULE for a def -/
theorem body_N {K : Fr} {m : FRun} {x : ExS} {N : List Str} {np n : Nat} (hm : m = runN x np n) (hn : N.length = n) (hl : np ≤ n) {vs : List V} {H : Hp} {Q : VK} {E : XK} (h : spN K m vs H Q E) :
    RdS K x { nx := fun _ H' => Q .non H', rt := Q } (L2.start N vs) H := by
  subst hm
  obtain ⟨F, ds, r, s, dn, q, k⟩ := h
  unfold runN at q
  split at q
  · rename_i hd
    subst hd
    have R := start_sr s dn hn hl
    have ext : ∀ {F' H' : Hp} {e : DEnv} {σ : List (Option V)}, SR K ⟨H, F, none⟩ F' e σ H' → Ext F H F' H' := fun R' => ⟨R'.inc, fun b o q => R'.old b o q (fun z => nomatch z), R'.sub, R'.new⟩
    unfold endN at q
    split at q
    · rename_i y e q1
      split at q
      · rename_i w q2
        cases q
        exact ⟨_, F, _, _, R, q1, fun v σ' F' H' s' R' V' => k v F' H' (ext R') (endV_ok rfl R' V' q2)⟩
      · cases q
    · rename_i e q1
      cases q
      exact ⟨_, F, _, _, R, q1, fun σ' F' H' s' R' => k .non F' H' (ext R') .non⟩
    · cases q
  · cases q
theorem body_IO {K : Fr} {m : FRun} {x : ExS} {N : List Str} {np n : Nat} (hm : m = runIO x np n) (hn : N.length = n) (hl : np ≤ n) {vs : List V} {H : Hp} {Q : VK} {E : XK} (h : spIO K m vs H Q E) :
    RdS K x { nx := fun _ H' => Q .non H', rt := Q } (L2.start N vs) H := by
  subst hm
  obtain ⟨F, a, us, d, ds, r, rfl, s, hF, c, dn, q, k⟩ := h
  unfold runIO at q
  dsimp only at q
  split at q
  · rename_i hd
    subst hd
    have R := start_io s hF c dn hn hl
    have fin : ∀ {v : V} {F' H' : Hp} {e : DEnv} {σ : List (Option V)} {d' : D} {w : Val}, SR K ⟨H, F, some a⟩ F' e σ H' → e[0]? = some (Slot.io d') → R0 K F H F' H' v w → r = ⟨w, d'⟩ → Q v H' := fun {v F' H' e σ d' w} R' q0 r0 qr => by
      subst qr
      obtain ⟨b, h1, h2, h3, h4⟩ := R'.slot 0 (.io d') q0
      cases h3
      obtain ⟨o, ho⟩ := h4.some
      exact k v F' H' o R'.inc R'.sub h2 ho (fun b o hb q => R'.old b o q (fun z => hb (Option.some.inj z).symm)) R'.new h4 r0
    unfold endIO at q
    split at q
    · rename_i y e q1
      split at q
      · rename_i w d' q2 q3
        cases q
        exact ⟨_, F, _, _, R, q1, fun v σ' F' H' s' R' V' => fin R' q3 (endV_ok rfl R' V' q2) rfl⟩
      · cases q
    · rename_i e q1
      split at q
      · rename_i d' q3
        cases q
        exact ⟨_, F, _, _, R, q1, fun σ' F' H' s' R' => fin (v := .non) (w := .fz .non) R' q3 (show Den K F' .non .non from .non) rfl⟩
      · cases q
    · cases q
  · cases q

/-! ### defs and their calls, where no repr is under way -/
structure FnG (P : Program) (w : World) (K : Fr) (mg : Str → Option Value) (base : Heap) (k : Nat) (f : Addr) (fd : FuncData) (ps : List Str) (sp : Sp) : Prop where
  len : ∀ vs H Q E, sp vs H Q E → vs.length = ps.length
  run : ∀ (A : Around) (outer : List Env) (s : Shared) (H : Hp) (args : Args) (us : List Value) (vs : List V) (Q : VK) (E : XK), A.guards = some [] → Room k A → Env0 P w K mg base A outer s H → BindsTo s fd args (ps.zip us) → Vals vs us → sp vs H Q E →
    codeAny (model P w) A (.call (.ref f) args) (CR CX0 outer P w H s Q E) s
theorem FnG.mono {P : Program} {w : World} {K : Fr} {mg : Str → Option Value} {base : Heap} {j k : Nat} {f : Addr} {fd : FuncData} {ps : List Str} {sp : Sp} (F : FnG P w K mg base j f fd ps sp) (h : j ≤ k) : FnG P w K mg base k f fd ps sp :=
  ⟨F.len, fun A outer s H args us vs Q E hg hr => F.run A outer s H args us vs Q E hg (hr.mono h)⟩
theorem fnG_of {P : Program} {w : World} {K : Fr} {mg : Str → Option Value} {base : Heap} {k : Nat} {f : Addr} {fd : FuncData} {x : Str} {params : Arguments} {body : List Stmt} {scope : Scope} {N ps : List Str} {sp : Sp}
    (F : FunD K x x params body scope [] [] f fd) (S : FnScope N ps scope) (len : ∀ vs H Q E, sp vs H Q E → vs.length = ps.length)
    (hbody : ∀ (cdv : Value) (A : Around) (outer : List Env) (s : Shared) (H : Hp) (vs : List V) (Q : VK) (E : XK), (A.deeper (envOfC x scope s.heap.objs.size f cdv)).guards = some [] → Room k (A.deeper (envOfC x scope s.heap.objs.size f cdv)) → sp vs H Q E →
      ∃ t, PSs (cxOf CX0 P w K mg base N x scope f cdv A outer s H E) body t ∧ t { nx := fun _ H' => Q .non H', rt := Q } (L2.start N vs) H) : FnG P w K mg base (k + 1) f fd ps sp := by
  obtain ⟨oc, od, dV, kV, doc, pm, an, cdv, ct, osl, rfl, lk, hcd, _, _⟩ := F.ex
  refine ⟨len, fun A outer s H args us vs Q E hgd hr e0 hb r hsp => ?_⟩
  have hl := len _ _ _ _ hsp
  have kept := fun b o e => (e0.bs b o e).1
  have KX : K.In s.heap := e0.mod.kin.keeps kept
  have kinds : ∀ y ∈ ps.zip us, scope.names.lookup y.1 = some .local ∨ (scope.names.lookup y.1 = some .cell ∧ ((cellsFrom (s.heap.objs.size + 1) scope.names []).lookup y.1).isSome = true) := by
    rintro ⟨n, v⟩ hy
    exact (S.par n (List.of_mem_zip hy).1).imp id fun q => ⟨q, PySem.W.cellsFrom_some _ _ _ (.inl q)⟩
  have hlen : (ps.zip us).length = ps.length := by rw [List.length_zip, ← r.length, hl, Nat.min_self]
  refine codeAny_call_function hr.depth (KX _ _ lk) rfl S.co S.gen rfl (PySem.W.codeRec_of KX hcd) (hb _ _ _ _ ?_)
  refine wpAny_newFunctionEnv_cells S.kind kinds ?_
  intro env he s1 x
  subst he
  refine ⟨(e0.mod.nolimit.keeps kept).keeps x.toInCall.keep, codeAny_func ?_⟩
  obtain ⟨t, ht, hq⟩ := hbody cdv A outer s H vs Q E (by exact hgd) (hr.deeper _) hsp
  refine wpAny_mono (ht.run [] s1 (L2.start N vs) H _ (inv_start S hr.hd e0 hl r x) hq) (fun fl s' hs => ?_) fun _ _ h => h
  match fl, hs with
  | .ret u, ⟨v, σ', H', J, rv, q⟩ => exact ⟨v, H', J.os, J.bare, J.base, J.hok, rv, q⟩
  | .next, ⟨σ', H', J, q⟩ => exact ⟨.non, H', J.os, J.bare, J.base, J.hok, rfl, q⟩
  | .brk, ⟨_, _, _, q⟩ => exact q.elim
  | .cont, ⟨_, _, _, q⟩ => exact q.elim
section
variable {X : Cx} {k : Nat} {f : Addr} {fd : FuncData} {ps : List Str} {sp : Sp} {x : Str} {p pos : Pos} {e : Expr} {es : List Expr} {t : TA}
theorem runG {pins : List (Addr × Obj)} {σ : List (Option V)} {H : Hp} {s : Shared} {Q : VK} {us : List Value} {vs : List V} (F : FnG X.prog X.w X.K X.mg X.base k f fd ps sp) (hgd : X.A.guards = some []) (hr : Room k X.A) (hb : Binds X.K fd ps [])
    (I : Inv X pins σ H s) (r : Vals vs us) (h : sp vs H Q E0) : wpAny (model X.prog X.w) X.A (call (.ref f) us) (EP X pins σ Q) X.xe s := by
  have hl : (us ++ []).length = ps.length := by rw [List.append_nil, ← r.length]; exact F.len _ _ _ _ h
  have bd := hb s us I.kIn hl
  rw [List.append_nil] at bd
  refine wpAny_call (codeAny_mono (F.run X.A X.stack s H ⟨us, []⟩ us vs Q E0 hgd hr I.env0 bd r h) fun r s' hq => ?_)
  match r, hq with
  | .ok (.ret u), hq => exact I.after hq
theorem pe_callG (F : FnG X.prog X.w X.K X.mg X.base k f fd ps sp) (hgd : X.A.guards = some []) (hr : Room k X.A) (hg : Gl X x) (hm : X.mg x = some (.ref f)) (hk : PySem.W.keepIn X.K (.ref f) = true) (hb : Binds X.K fd ps [])
    (ha : PA X (e :: es) t) (hdb : (x == ("__debug__" : Str)) = false) (he : starEach (e :: es) X.env = (false, eval e X.env) :: starEach es X.env) (hpl : (backTo pos (starEach es X.env)).any (·.1) = false) :
    PE X (.Call (.Name x p) (e :: es) [] pos) (tCall sp [] E0 t) := by
  refine ⟨fun pins s σ H Q I h => ?_⟩
  refine wpAny_Call_Name_kw (ld_glob I hg hm ?_ hdb)
  refine PySem.W.callWith_K (h₀ := X.base) I.ok.mod.kin hk (thn (ha.run pos pins s σ H _ I h) fun us s1 ⟨vs, H1, I1, r, q⟩ => ⟨I1.kIn, ?_⟩) he hpl
  have q : sp (vs ++ []) H1 Q E0 := q
  rw [List.append_nil] at q
  exact runG F hgd hr hb I1 r q
theorem pe_callG0 (F : FnG X.prog X.w X.K X.mg X.base k f fd ps sp) (hgd : X.A.guards = some []) (hr : Room k X.A) (hg : Gl X x) (hm : X.mg x = some (.ref f)) (hk : PySem.W.keepIn X.K (.ref f) = true) (hb : Binds X.K fd ps []) (hdb : (x == ("__debug__" : Str)) = false) :
    PE X (.Call (.Name x p) [] [] pos) (tCall sp [] E0 tNil) := by
  refine ⟨fun pins s σ H Q I h => ?_⟩
  refine wpAny_Call_Name_kw (ld_glob I hg hm ?_ hdb)
  exact PySem.W.callWith_K0 I.kIn hk (runG (us := []) F hgd hr hb I .nil h)
end

/-! ### calls -/
/-- a def that may be called by its name -/
structure Cal (P : Program) (w : World) (K : Fr) (mg : Str → Option Value) (base : Heap) (k : Nat) (x : Str) (sp : Sp) : Prop where
  ex : ∃ (f : Addr) (fd : FuncData) (ps : List Str), FnG P w K mg base k f fd ps sp ∧ mg x = some (.ref f) ∧ PySem.W.keepIn K (.ref f) = true ∧ Binds K fd ps []
theorem Cal.mono {P : Program} {w : World} {K : Fr} {mg : Str → Option Value} {base : Heap} {j k : Nat} {x : Str} {sp : Sp} (c : Cal P w K mg base j x sp) (h : j ≤ k) : Cal P w K mg base k x sp := by
  obtain ⟨f, fd, ps, F, h1, h2, h3⟩ := c.ex
  exact ⟨f, fd, ps, F.mono h, h1, h2, h3⟩
def scal : Val → Bool
  | .fz .non => true
  | .fz (.bl _) => true
  | .fz (.int _) => true
  | .fz (.str _) => true
  | _ => false
/-- lists of names that are handed over and kept -/
def freezeAll : List Val → DEnv → Option DEnv
  | [], e => some e
  | .sl i :: xs, e => match e[i]? with
    | some (Slot.own (.lst ds)) => freezeAll xs (e.set i (.fz (.lst ds)))
    | some (Slot.fz _) => freezeAll xs e
    | _ => none
  | _ :: xs, e => freezeAll xs e
def lookL (e : DEnv) : List Val → Option (List D)
  | [] => some []
  | .fz d :: xs => match lookL e xs with
    | some ds => some (d :: ds)
    | none => none
  | .sl i :: xs => match mutAt e i, lookL e xs with
    | some (.lst d), some ds => some (.lst d :: ds)
    | _, _ => none
  | .own _ :: _ => none
def mFn (m : FRun) (fa : EvA) : Ev := fun e => do
  let (xs, e1) ← fa e
  let ds ← lookL e1 xs
  let r ← m ds
  if scal r.val then some (r.val, e1) else do
    let e2 ← freezeAll xs e1
    some (r.val, e2)
def mFnIO (m : FRun) (i : Nat) (fd : EvD) : Ev := fun e => do
  let (ds, e1) ← fd e
  let d ← mutAt e1 i
  let r ← m (d :: ds)
  if (mutAt e i).isSome then some (r.val, setC e1 i r.io) else none
section
variable {K : Fr} {B : Bs} {F H : Hp} {e e1 : DEnv} {σ : List (Option V)}
theorem lookL_all {vs : List V} {xs : List Val} {ds : List D} (R : SR K B F e σ H) (h : VHs K F σ vs xs) (q : lookL e xs = some ds) : Dens K H ds vs := by
  induction h generalizing ds with
  | nil => cases q; exact .nil
  | cons h t ih =>
    rename_i v vs x xs
    cases x with
    | own d => exact h.elim
    | fz d =>
      unfold lookL at q
      split at q
      · rename_i ds' q'
        cases q
        exact .cons (Den.mono R.sub h) (ih q')
      · cases q
    | sl i =>
      unfold lookL at q
      split at q
      · rename_i d ds' q1 q2
        cases q
        obtain ⟨a, h1, h2, ⟨ys, h3, h4⟩, _⟩ := R.mutC q1
        rw [(show σ[i]? = some (some v) from h)] at h1
        cases h1
        exact .cons (.lst (.inl h3) (h4.mono R.sub)) (ih q2)
      · cases q
theorem SR.frzL (R : SR K B F e σ H) {i : Nat} {ds : List D} (h : e[i]? = some (.own (.lst ds))) : ∃ F2, Sub F F2 ∧ SR K B F2 (e.set i (.fz (.lst ds))) σ H := by
  obtain ⟨a, h1, h2, h3, ⟨xs, h4, h5⟩⟩ := R.slot i _ h
  have hil : i < e.length := (List.getElem?_eq_some_iff.mp h).1
  have R1 := R.word (i := i) (s := .em) trivial (fun z => nomatch z)
  have nf : ∀ j, (mutAt (e.set i .em) j).isSome → σ[j]? ≠ some (some (.ref a)) := fun j hj z => by
    rw [mutAt_set] at hj
    split at hj
    · cases hj
    · rename_i n
      have nij : i ≠ j := fun w => n ⟨w, hil⟩
      exact R.apart i j a nij (by unfold mutAt; rw [h]; rfl) hj h1 z
  have R2 := R1.frz (o' := .lst xs) h2 h3 h4 nf
  rw [upd_self h4] at R2
  have R3 := R2.word (i := i) (s := .fz (.lst ds)) ⟨_, h1, .lst (.inl upd_same) (h5.mono (.upd h2))⟩ (fun z => nomatch z)
  rw [List.set_set] at R3
  exact ⟨_, .upd h2, R3⟩
theorem freezeAll_ok : ∀ {xs : List Val} {e e2 : DEnv} {F : Hp}, SR K B F e σ H → freezeAll xs e = some e2 → ∃ F2, Sub F F2 ∧ SR K B F2 e2 σ H ∧ (∀ (i : Nat) (d : D), e[i]? = some (Slot.fz d) → e2[i]? = some (Slot.fz d)) ∧
    (∀ (i : Nat) (d : D), mutAt e i = some d → mutAt e2 i = some d ∨ e2[i]? = some (Slot.fz d)) ∧ ∀ (i : Nat), Val.sl i ∈ xs → ∃ d, e2[i]? = some (Slot.fz d)
  | [], e, e2, F, R, q => by cases q; exact ⟨F, .refl F, R, fun _ _ h => h, fun _ _ h => .inl h, fun i h => by cases h⟩
  | .fz d :: xs, e, e2, F, R, q => by
    obtain ⟨F2, s, R2, h1, h2, h3⟩ := freezeAll_ok (xs := xs) R q
    exact ⟨F2, s, R2, h1, h2, fun i h => h3 i ((List.mem_cons.mp h).resolve_left (fun z => nomatch z))⟩
  | .own d :: xs, e, e2, F, R, q => by
    obtain ⟨F2, s, R2, h1, h2, h3⟩ := freezeAll_ok (xs := xs) R q
    exact ⟨F2, s, R2, h1, h2, fun i h => h3 i ((List.mem_cons.mp h).resolve_left (fun z => nomatch z))⟩
  | .sl i :: xs, e, e2, F, R, q => by
    unfold freezeAll at q
    split at q
    · rename_i ds hd
      obtain ⟨F1, s1, R1⟩ := R.frzL hd
      obtain ⟨F2, s, R2, h1, h2, h3⟩ := freezeAll_ok (xs := xs) R1 q
      have hil : i < e.length := (List.getElem?_eq_some_iff.mp hd).1
      have at_ : e2[i]? = some (Slot.fz (.lst ds)) := h1 i _ (by rw [List.getElem?_set, if_pos rfl, if_pos hil])
      refine ⟨F2, s1.trans s, R2, fun j d hj => ?_, fun j d hj => ?_, fun j hj => ?_⟩
      · by_cases z : i = j
        · subst z; rw [hd] at hj; cases hj
        · exact h1 j d (by rw [List.getElem?_set_ne z]; exact hj)
      · by_cases z : i = j
        · subst z
          have : mutAt e i = some (.lst ds) := by unfold mutAt; rw [hd]; rfl
          rw [this] at hj; cases hj
          exact .inr at_
        · exact h2 j d (by rw [mutAt_set, if_neg (fun w => z w.1)]; exact hj)
      · rcases List.mem_cons.mp hj with w | w
        · cases w; exact ⟨_, at_⟩
        · exact h3 j w
    · rename_i d hd
      obtain ⟨F2, s, R2, h1, h2, h3⟩ := freezeAll_ok (xs := xs) R q
      refine ⟨F2, s, R2, h1, h2, fun j hj => ?_⟩
      rcases List.mem_cons.mp hj with w | w
      · cases w; exact ⟨_, h1 i d hd⟩
      · exact h3 j w
    · cases q
theorem lookL_fz {vs : List V} {xs : List Val} {ds : List D} {F2 : Hp} {e2 : DEnv} (h : VHs K F σ vs xs) (q : lookL e xs = some ds) (s : Sub F F2) (R2 : SR K B F2 e2 σ H) (h2 : ∀ (i : Nat) (d : D), mutAt e i = some d → mutAt e2 i = some d ∨ e2[i]? = some (Slot.fz d))
    (h3 : ∀ (i : Nat), Val.sl i ∈ xs → ∃ d, e2[i]? = some (Slot.fz d)) : Dens K F2 ds vs := by
  induction h generalizing ds with
  | nil => cases q; exact .nil
  | cons h t ih =>
    rename_i v vs x xs
    have ih' := fun ds q => ih (ds := ds) q (fun i hi => h3 i (List.mem_cons_of_mem _ hi))
    cases x with
    | own d => exact h.elim
    | fz d =>
      unfold lookL at q
      split at q
      · rename_i ds' q'
        cases q
        exact .cons (Den.mono s h) (ih' _ q')
      · cases q
    | sl i =>
      unfold lookL at q
      split at q
      · rename_i d ds' q1 q2
        cases q
        refine .cons ?_ (ih' _ q2)
        obtain ⟨d', hd'⟩ := h3 i (List.mem_cons_self ..)
        rcases h2 i _ q1 with w | w
        · unfold mutAt at w; rw [hd'] at w; cases w
        · obtain ⟨u, h4, h5⟩ := R2.slot i _ w
          rw [(show σ[i]? = some (some v) from h)] at h4
          cases h4
          exact h5
      · cases q
theorem scal_den {G F' : Hp} {x : Val} {v : V} {H' : Hp} (h : scal x = true) (r : R0 K F H F' H' v x) : VOk K B G H' e σ v x := by
  cases x with
  | fz d =>
    have r : Den K F' d v := r
    cases d with
    | non => cases r; exact .non
    | bl b => cases r; exact .bl b
    | int i => cases r; exact .int i
    | str z => cases r; exact .str z
    | _ => cases h
  | own d => cases h
  | sl i => cases h
theorem rd_fn {m : FRun} {fa : EvA} {Q : VK} {E : XK} (h : RdE K (mFn m fa) σ H Q) : tCall (spN K m) [] E (RdA K fa) σ H Q := by
  obtain ⟨B, F, e, x, e', R, q, k⟩ := h
  obtain ⟨⟨xs, e1⟩, q1, q⟩ := bindS q
  obtain ⟨ds, q2, q⟩ := bindS q
  obtain ⟨r, q3, q⟩ := bindS q
  refine ⟨B, F, e, xs, e1, R, q1, fun vs F1 H1 s1 R1 V1 => ?_⟩
  show spN K m (vs ++ []) H1 Q E
  rw [List.append_nil]
  split at q
  · rename_i hs
    cases q
    refine ⟨H1, ds, r, .refl H1, lookL_all R1 V1 q2, q3, fun v F' H' x0 r0 => ?_⟩
    have x1 : Ext F1 H1 F1 H' := ⟨.refl F1, x0.h, R1.sub.trans x0.h, fun _ h n => absurd h n⟩
    exact k v F1 H' s1 (R1.ext x1) (scal_den hs r0)
  · obtain ⟨e2, q4, q⟩ := bindS q
    cases q
    obtain ⟨F2, s2, R2, h1, h2, h3⟩ := freezeAll_ok R1 q4
    refine ⟨F2, ds, r, R2.sub, lookL_fz V1 q2 s2 R2 h2 h3, q3, fun v F' H' x0 r0 => ?_⟩
    exact k v F' H' ((s1.trans s2).trans x0.f) (R2.ext x0) (r0.vok R2 x0)
theorem setC_mut {e : DEnv} {i : Nat} {d : D} {j : Nat} (h : (mutAt (setC e i d) j).isSome) : (mutAt e j).isSome := by
  unfold setC at h
  split at h
  · rename_i d' hd
    rw [mutAt_set] at h
    split at h
    · rename_i z; rw [← z.1]; unfold mutAt; rw [hd]; rfl
    · exact h
  · rename_i d' hd
    rw [mutAt_set] at h
    split at h
    · rename_i z; rw [← z.1]; unfold mutAt; rw [hd]; rfl
    · exact h
  · exact h
theorem rd_fnIO {m : FRun} {i : Nat} {fd : EvD} {Q : VK} {E : XK} (h : RdE K (mFnIO m i fd) σ H Q) : tCall (spIO K m) [] E (tCons (tVar i) (RdD K fd)) σ H Q := by
  obtain ⟨B, F, e, x, e', R, q, k⟩ := h
  obtain ⟨⟨ds, e1⟩, q1, q⟩ := bindS q
  obtain ⟨d, q2, q⟩ := bindS q
  obtain ⟨r, q3, q⟩ := bindS q
  split at q
  · rename_i hm
    cases q
    obtain ⟨d0, hd0⟩ := Option.isSome_iff_exists.mp hm
    obtain ⟨a, h1, _, _, _⟩ := R.mutC hd0
    refine ⟨_, h1, B, F, e, ds, e1, R, q1, fun vs F1 H1 s1 R1 V1 => ?_⟩
    obtain ⟨a', h1', h2, h3, h4⟩ := R1.mutC q2
    rw [h1] at h1'; cases h1'
    show spIO K m (V.ref a :: vs ++ []) H1 Q E
    rw [List.append_nil]
    refine ⟨F1, a, vs, d, ds, r, rfl, R1.sub, h2, h3, V1, q3, fun v F' H' o' s2 s3 hF' ho' keep new c r0 => ?_⟩
    obtain ⟨o, ho⟩ := h3.some
    have e1' : upd (upd H' a o) a o' = H' := by
      funext b
      by_cases z : b = a
      · subst z; rw [upd_same]; exact ho'.symm
      · rw [upd_ne z, upd_ne z]
    have x1 : Ext F1 H1 F' (upd H' a o) := by
      refine ⟨s2, fun b u q => ?_, fun b u q => ?_, new⟩
      · by_cases z : b = a
        · subst z; rw [upd_same, ← ho]; exact q
        · rw [upd_ne z]; exact keep b u z q
      · rw [upd_ne (fun z => by rw [z, hF'] at q; cases q)]; exact s3 _ _ q
    have R2 := R1.ext x1
    have c2 : Cont K F' (upd (upd H' a o) a o') a r.io := by rw [e1']; exact c
    have R3 := R2.mutate q2 h1 c2
    rw [e1'] at R3
    refine k v F' H' (s1.trans s2) R3 ?_
    cases hv : r.val with
    | fz d => rw [hv] at r0; exact r0
    | sl j => rw [hv] at r0; exact r0.elim
    | own d =>
      rw [hv] at r0
      obtain ⟨b, rfl, g1, g2, g3⟩ := r0
      have zb : b ≠ a := fun z => by rw [z, ho] at g1; cases g1
      have rv : R0 K F1 H1 F' (upd H' a o) (.ref b) (.own d) := ⟨b, rfl, g1, g2, g3.mono (.refl F') (upd_ne zb)⟩
      obtain ⟨b', hb', w1, w2, w3, w4⟩ := rv.vok R1 x1
      cases hb'
      exact ⟨b, rfl, w1, w2, g3, fun j hj => w4 j (setC_mut hj)⟩
  · cases q
end
section
variable {X : Cx} {k : Nat} {x : Str} {m : FRun} {c : Expr} {es : List Expr} {fa : EvA} {fd : EvD} {i : Nat} {p pos : Pos}
theorem s_fn (C : Cal X.prog X.w X.K X.mg X.base k x (spN X.K m)) (hgd : X.A.guards = some []) (hr : Room k X.A) (hg : Gl X x) (ha : PA X (c :: es) (RdA X.K fa)) (hdb : (x == ("__debug__" : Str)) = false)
    (he : starEach (c :: es) X.env = (false, eval c X.env) :: starEach es X.env) (hpl : (backTo pos (starEach es X.env)).any (·.1) = false) : PE X (.Call (.Name x p) (c :: es) [] pos) (RdE X.K (mFn m fa)) := by
  obtain ⟨f, fd, ps, F, h1, h2, h3⟩ := C.ex
  exact pe_weak (pe_callG F hgd hr hg h1 h2 h3 ha hdb he hpl) fun _ _ _ h => rd_fn h
theorem s_fn0 (C : Cal X.prog X.w X.K X.mg X.base k x (spN X.K m)) (hgd : X.A.guards = some []) (hr : Room k X.A) (hg : Gl X x) (hdb : (x == ("__debug__" : Str)) = false) : PE X (.Call (.Name x p) [] [] pos) (RdE X.K (mFn m mNilA)) := by
  obtain ⟨f, fd, ps, F, h1, h2, h3⟩ := C.ex
  refine pe_weak (pe_callG0 F hgd hr hg h1 h2 h3 hdb) fun σ H Q h => ?_
  have h := rd_fn (E := E0) h
  obtain ⟨B, F, e, xs, e', R, q, k⟩ := h
  cases q
  exact k [] F H (.refl F) R .nil
theorem s_fnIO (C : Cal X.prog X.w X.K X.mg X.base k x (spIO X.K m)) (hgd : X.A.guards = some []) (hr : Room k X.A) (hg : Gl X x) (hc : PE X c (tVar i)) (ha : PA X es (RdD X.K fd)) (hdb : (x == ("__debug__" : Str)) = false)
    (he : starEach (c :: es) X.env = (false, eval c X.env) :: starEach es X.env) (hpl : (backTo pos (starEach es X.env)).any (·.1) = false) : PE X (.Call (.Name x p) (c :: es) [] pos) (RdE X.K (mFnIO m i fd)) := by
  obtain ⟨f, fd, ps, F, h1, h2, h3⟩ := C.ex
  exact pe_weak (pe_callG F hgd hr hg h1 h2 h3 (pa_cons hc ha he) hdb he hpl) fun _ _ _ h => rd_fnIO h
end
/-! ### the rule for a def of the module -/
section
variable {P : Program} {w : World} {K : Fr} {mg : Str → Option Value} {base : Heap} {f : Addr} {fd : FuncData} {x : Str} {params : Arguments} {body : List Stmt} {scope : Scope}
theorem def_N {N ps : List Str} {np n k : Nat} {xs : ExS} {m : FRun} (F : FunD K x x params body scope [] [] f fd) (hm : m = runN xs np n) (hn : N.length = n) (hl : np ≤ n) (hp : ps.length = np) (S : FnScope N ps scope) (hg : mg x = some (.ref f))
    (hb : ∀ (kV doc pm : Value) (an : Option Addr) (cdv ct : Value) (us : List Value), us.length = ps.length → bindArgs (PySem.W.fnOf x x params body scope .none kV doc pm an cdv ct) ⟨us, []⟩ = pure (ps.zip us))
    (h : ∀ (cdv : Value) (A : Around) (outer : List Env) (s : Shared) (H : Hp) (E : XK), (A.deeper (envOfC x scope s.heap.objs.size f cdv)).guards = some [] → Room k (A.deeper (envOfC x scope s.heap.objs.size f cdv)) → PSs (cxOf CX0 P w K mg base N x scope f cdv A outer s H E).nox body (RdS K xs)) : Cal P w K mg base (k + 1) x (spN K m) :=
  ⟨f, fd, ps, fnG_of F S (fun vs H Q E ⟨F, ds, r, s, dn, q, _⟩ => by rw [dn.length, hp]; exact runN_len (hm ▸ q)) (fun cdv A outer s H vs Q E hgd hr hsp => ⟨_, PSs.nox (h cdv A outer s H E hgd hr), body_N hm hn hl hsp⟩), hg, F.kp, F.bindsN hb⟩
theorem def_IO {N ps : List Str} {np n k : Nat} {xs : ExS} {m : FRun} (F : FunD K x x params body scope [] [] f fd) (hm : m = runIO xs np n) (hn : N.length = n) (hl : np ≤ n) (hp : ps.length = np) (S : FnScope N ps scope) (hg : mg x = some (.ref f))
    (hb : ∀ (kV doc pm : Value) (an : Option Addr) (cdv ct : Value) (us : List Value), us.length = ps.length → bindArgs (PySem.W.fnOf x x params body scope .none kV doc pm an cdv ct) ⟨us, []⟩ = pure (ps.zip us))
    (h : ∀ (cdv : Value) (A : Around) (outer : List Env) (s : Shared) (H : Hp) (E : XK), (A.deeper (envOfC x scope s.heap.objs.size f cdv)).guards = some [] → Room k (A.deeper (envOfC x scope s.heap.objs.size f cdv)) → PSs (cxOf CX0 P w K mg base N x scope f cdv A outer s H E).nox body (RdS K xs)) : Cal P w K mg base (k + 1) x (spIO K m) :=
  ⟨f, fd, ps, fnG_of F S (fun vs H Q E ⟨F, a, us, d, ds, r, e, s, hF, c, dn, q, _⟩ => by
    subst hm
    have q : (if ds.length + 1 = np then _ else none) = some r := q
    split at q
    · rename_i hd; rw [e, List.length_cons, dn.length, hp, hd]
    · cases q) (fun cdv A outer s H vs Q E hgd hr hsp => ⟨_, PSs.nox (h cdv A outer s H E hgd hr), body_IO hm hn hl hsp⟩), hg, F.kp, F.bindsN hb⟩
end
end Pv
end

section
set_option maxRecDepth 100000
set_option maxHeartbeats 4000000
namespace Pv
open PySem PySem.Spec L2 PyProof.Rows

/-! ### operators on plain data -/
section
variable {K : Fr} {F H : Hp}
theorem den_of_view {d : D} {v : V} (hd : scal (.fz d) = true) (h : View K F H d v) (G : Hp) : Den K G d v := by
  cases d with
  | non => cases (show v = .non from h); exact .non
  | bl b => cases (show v = .bl b from h); exact .bl b
  | int i => cases (show v = .int i from h); exact .int i
  | str z => cases (show v = .str z from h); exact .str z
  | _ => cases hd
/-- a result that is no object -/
theorem fin0 {Q : VK} {z : D} {v : V} (s : Sub F H) (k : ∀ v F' H', Ext F H F' H' → R0 K F H F' H' v (.fz z) → Q v H') (h : Den K F z v) : Q v H := k v F H (.refl s) h
theorem finL {Q : VK} {xs : List V} {ds : List D} (s : Sub F H) (k : ∀ v F' H', Ext F H F' H' → R0 K F H F' H' v (.own (.lst ds)) → Q v H') (h : Dens K F ds xs) (p : Addr) (hp : H p = none) : Q (.ref p) (upd H p (.lst xs)) :=
  k _ F _ (.new s hp) (R0.newL s hp h)
theorem finT {Q : VK} {xs : List V} {ds : List D} (s : Sub F H) (k : ∀ v F' H', Ext F H F' H' → R0 K F H F' H' v (.fz (.tup ds)) → Q v H') (h : Dens K F ds xs) (p : Addr) (hp : H p = none) : Q (.ref p) (upd H p (.tup xs)) :=
  k _ _ _ (.newF s hp) (R0.newT s hp h)
end
def mulOk (i j : Int) : Bool := decide (i.natAbs < 18446744073709551616) || decide (j.natAbs < 18446744073709551616) || decide (i.natAbs.log2 + j.natAbs.log2 < 1000000)
theorem rMul_ok {X : Cx} : OpR X (binaryOp .Mult) (rI (fun i j => mulOk i j = true) fun i j => .int (i * j)) := opI fun i j _ _ _ _ _ hc q => mul_int q (by
  unfold mulOk at hc
  rw [Bool.or_eq_true, Bool.or_eq_true] at hc
  rcases hc with (h | h) | h
  · have := of_decide_eq_true h; exact CMul.ok (.inl ⟨by omega, by omega⟩)
  · have := of_decide_eq_true h; exact CMul.ok (.inr ⟨by omega, by omega⟩)
  · exact CMulW.ok (show i.natAbs.log2 + j.natAbs.log2 < 1000000 from of_decide_eq_true h))
def divOk (j : Int) : Bool := decide (0 < j) && (Nat.ble j.natAbs 1073741823 || decide (j.natAbs.log2 < 9000))
theorem rDiv_ok {X : Cx} : OpR X (binaryOp .FloorDiv) (rI (fun _ j => divOk j = true) fun i j => .int (i / j)) := opI fun i j _ _ _ _ _ hc q => by
  unfold divOk at hc
  rw [Bool.and_eq_true, Bool.or_eq_true] at hc
  have h0 := of_decide_eq_true hc.1
  refine floordiv_int (by omega) (by rw [Int.fdiv_eq_ediv_of_nonneg i (by omega)]; exact q) (.inl ?_)
  rcases hc.2 with h | h
  · have := Nat.le_of_ble_eq_true h; exact PyProof.noPylong_small (by omega)
  · exact PyProof.noPylong_of_log2 (of_decide_eq_true h)
def powOk (i j : Int) : Bool := decide (0 ≤ j) && decide ((i.natAbs.log2 + 1) * j.toNat ≤ 1000000)
theorem rPow_ok {X : Cx} : OpR X (binaryOp .Pow) (rI (fun i j => powOk i j = true) fun i j => .int (i ^ j.toNat)) := opI fun i j _ _ _ _ _ hc q => by
  unfold powOk at hc
  rw [Bool.and_eq_true] at hc
  have h0 := of_decide_eq_true hc.1
  have h1 := of_decide_eq_true hc.2
  refine pow_int h0 ?_ q
  have b : Builtin.Int.intBits i ≤ i.natAbs.log2 + 1 := by
    unfold Builtin.Int.intBits
    split <;> omega
  have e : (j.toNat : Int) = j := Int.toNat_of_nonneg h0
  have h2 : (Builtin.Int.intBits i) * j.toNat ≤ 1000000 := Nat.le_trans (Nat.mul_le_mul_right _ b) h1
  have h3 : ((Builtin.Int.intBits i * j.toNat : Nat) : Int) ≤ 1000000 := by
    generalize Builtin.Int.intBits i * j.toNat = n at h2
    omega
  rw [Int.natCast_mul, e] at h3
  have : (2 : Int) ^ 27 = 134217728 := by decide +kernel
  omega
/-- list + list -/
def rCatR : R2 := fun x y H Q => ∃ l b xs zs, x = .ref l ∧ y = .ref b ∧ Rd H l (.lst xs) ∧ Rd H b (.lst zs) ∧ xs.length + zs.length ≤ sizeLine ∧ ∀ p, H p = none → Q (.ref p) (upd H p (.lst (xs ++ zs)))
theorem rCat_ok {X : Cx} : OpR X (binaryOp .Add) rCatR := by
  intro pins s σ H x y v u Q I rx ry h
  obtain ⟨l, b, xs, zs, rfl, rfl, hH, hB, hz, q⟩ := h
  cases rx
  cases ry
  obtain ⟨z, its, n, r, e⟩ := hH.ok I.hok
  obtain ⟨z2, its2, n2, r2, e2⟩ := hB.ok I.hok
  have l1 := r.length
  have l2 := r2.length
  refine PySem.P.add_list e e2 ?_ (by rw [List.size_toArray, List.size_toArray]; omega)
  have ea : its.toArray ++ its2.toArray = (its ++ its2).toArray := List.append_toArray ..
  rw [ea]
  exact ⟨.ref _, _, I.lnew (t' := s.toks) (r.append r2) (by rw [List.length_append]; omega), rfl, q _ I.fresh⟩
def dAdd : D → D → Option Val
  | .int i, .int j => some (.fz (.int (i + j)))
  | .str x, .str y => if x.length + y.length ≤ LINE then some (.fz (.str (x ++ y))) else none
  | .tup xs, .tup ys => if xs.length + ys.length ≤ LINE then some (.fz (.tup (xs ++ ys))) else none
  | .lst xs, .lst ys => if xs.length + ys.length ≤ LINE then some (.own (.lst (xs ++ ys))) else none
  | _, _ => none
def dSub : D → D → Option Val
  | .int i, .int j => some (.fz (.int (i - j)))
  | _, _ => none
def dMul : D → D → Option Val
  | .int i, .int j => if mulOk i j then some (.fz (.int (i * j))) else none
  | _, _ => none
def dDiv : D → D → Option Val
  | .int i, .int j => if divOk j then some (.fz (.int (i / j))) else none
  | _, _ => none
def dMod : D → D → Option Val
  | .int i, .int j => if 0 < j then some (.fz (.int (i % j))) else none
  | _, _ => none
def dPow : D → D → Option Val
  | .int i, .int j => if powOk i j then some (.fz (.int (i ^ j.toNat))) else none
  | _, _ => none
def dLt : D → D → Option Val
  | .int i, .int j => some (.fz (.bl (decide (i < j))))
  | _, _ => none
def dLe : D → D → Option Val
  | .int i, .int j => some (.fz (.bl (decide (i ≤ j))))
  | _, _ => none
def dGt : D → D → Option Val
  | .int i, .int j => some (.fz (.bl (decide (j < i))))
  | _, _ => none
def dGe : D → D → Option Val
  | .int i, .int j => some (.fz (.bl (decide (j ≤ i))))
  | _, _ => none
def dNeg : D → Option Val
  | .int i => some (.fz (.int (-i)))
  | _ => none
section
variable {K : Fr} {X : Cx}
theorem dAdd_ok : OpR X (binaryOp .Add) (fun x y H Q => rI0 (fun i j => .int (i + j)) x y H Q ∨ (∃ i j, x = .str i ∧ y = .str j ∧ i.length + j.length ≤ sizeLine ∧ Q (.str (i ++ j)) H) ∨ rCatA X.K x y H Q ∨ rCatR x y H Q) := op_add.or (op_add_str.or (op_catA.or rCat_ok))
theorem dAdd_r : R2D K (fun x y H Q => rI0 (fun i j => .int (i + j)) x y H Q ∨ (∃ i j, x = .str i ∧ y = .str j ∧ i.length + j.length ≤ sizeLine ∧ Q (.str (i ++ j)) H) ∨ rCatA K x y H Q ∨ rCatR x y H Q) dAdd := by
  intro x y F H da db z Q s hx hy q k
  unfold dAdd at q
  split at q
  · rename_i i j
    cases q
    exact .inl ⟨i, j, hx, hy, fin0 s k (.int _)⟩
  · rename_i a b
    split at q
    · rename_i hl
      cases q
      exact .inr (.inl ⟨a, b, hx, hy, by rw [← line_eq]; exact hl, fin0 s k (.str _)⟩)
    · cases q
  · rename_i xs ys
    split at q
    · rename_i hl
      cases q
      obtain ⟨a, us, rfl, h1, t1⟩ := hx
      obtain ⟨b, ws, rfl, h2, t2⟩ := hy
      refine .inr (.inr (.inl ⟨a, b, us, ws, rfl, rfl, s.seqT h1, s.seqT h2, by rw [t1.length, t2.length, ← line_eq]; exact hl, fun e => ?_, fun _ e => ?_, fun _ _ p hp => finT s k (t1.append t2) p hp⟩))
      · subst e; cases t1; exact fin0 s k (.tup h2 t2)
      · subst e; cases t2; rw [List.append_nil] at k; exact fin0 s k (.tup h1 t1)
    · cases q
  · rename_i xs ys
    split at q
    · rename_i hl
      cases q
      obtain ⟨a, us, rfl, h1, t1⟩ := hx
      obtain ⟨b, ws, rfl, h2, t2⟩ := hy
      exact .inr (.inr (.inr ⟨a, b, us, ws, rfl, rfl, h1, h2, by rw [t1.length, t2.length, ← line_eq]; exact hl, fun p hp => finL s k (t1.append t2) p hp⟩))
    · cases q
  · cases q
theorem rI0_ok {g : Int → Int → V} {gd : D → D → Option Val} {gz : Int → Int → D} (hg : ∀ a b z, gd a b = some z → ∃ i j, a = .int i ∧ b = .int j ∧ z = .fz (gz i j)) (hz : ∀ (F : Hp) i j, Den K F (gz i j) (g i j)) : R2D K (rI0 g) gd := by
  intro x y F H da db z Q s hx hy q k
  obtain ⟨i, j, rfl, rfl, rfl⟩ := hg _ _ _ q
  exact ⟨i, j, hx, hy, fin0 s k (hz F i j)⟩
theorem rI_ok {C : Int → Int → Prop} {g : Int → Int → V} {gd : D → D → Option Val} {gz : Int → Int → D} (hg : ∀ a b z, gd a b = some z → ∃ i j, a = .int i ∧ b = .int j ∧ C i j ∧ z = .fz (gz i j)) (hz : ∀ (F : Hp) i j, Den K F (gz i j) (g i j)) : R2D K (rI C g) gd := by
  intro x y F H da db z Q s hx hy q k
  obtain ⟨i, j, rfl, rfl, c, rfl⟩ := hg _ _ _ q
  exact ⟨i, j, hx, hy, c, fin0 s k (hz F i j)⟩
theorem dSub_r : R2D K (rI0 fun i j => .int (i - j)) dSub := rI0_ok (gz := fun i j => .int (i - j)) (fun a b z q => by unfold dSub at q; split at q <;> cases q; exact ⟨_, _, rfl, rfl, rfl⟩) fun _ _ _ => .int _
theorem dLt_r : R2D K (rI0 fun i j => .bl (decide (i < j))) dLt := rI0_ok (gz := fun i j => .bl (decide (i < j))) (fun a b z q => by unfold dLt at q; split at q <;> cases q; exact ⟨_, _, rfl, rfl, rfl⟩) fun _ _ _ => .bl _
theorem dLe_r : R2D K (rI0 fun i j => .bl (decide (i ≤ j))) dLe := rI0_ok (gz := fun i j => .bl (decide (i ≤ j))) (fun a b z q => by unfold dLe at q; split at q <;> cases q; exact ⟨_, _, rfl, rfl, rfl⟩) fun _ _ _ => .bl _
theorem dGt_r : R2D K (rI0 fun i j => .bl (decide (j < i))) dGt := rI0_ok (gz := fun i j => .bl (decide (j < i))) (fun a b z q => by unfold dGt at q; split at q <;> cases q; exact ⟨_, _, rfl, rfl, rfl⟩) fun _ _ _ => .bl _
theorem dGe_r : R2D K (rI0 fun i j => .bl (decide (j ≤ i))) dGe := rI0_ok (gz := fun i j => .bl (decide (j ≤ i))) (fun a b z q => by unfold dGe at q; split at q <;> cases q; exact ⟨_, _, rfl, rfl, rfl⟩) fun _ _ _ => .bl _
theorem dMul_r : R2D K (rI (fun i j => mulOk i j = true) fun i j => .int (i * j)) dMul := rI_ok (gz := fun i j => .int (i * j)) (fun a b z q => by
  unfold dMul at q; split at q
  · split at q <;> cases q; exact ⟨_, _, rfl, rfl, by assumption, rfl⟩
  · cases q) fun _ _ _ => .int _
theorem dDiv_r : R2D K (rI (fun _ j => divOk j = true) fun i j => .int (i / j)) dDiv := rI_ok (gz := fun i j => .int (i / j)) (fun a b z q => by
  unfold dDiv at q; split at q
  · split at q <;> cases q; exact ⟨_, _, rfl, rfl, by assumption, rfl⟩
  · cases q) fun _ _ _ => .int _
theorem dMod_r : R2D K (rI (fun _ j => 0 < j) fun i j => .int (i % j)) dMod := rI_ok (gz := fun i j => .int (i % j)) (fun a b z q => by
  unfold dMod at q; split at q
  · split at q <;> cases q; exact ⟨_, _, rfl, rfl, by assumption, rfl⟩
  · cases q) fun _ _ _ => .int _
theorem dPow_r : R2D K (rI (fun i j => powOk i j = true) fun i j => .int (i ^ j.toNat)) dPow := rI_ok (gz := fun i j => .int (i ^ j.toNat)) (fun a b z q => by
  unfold dPow at q; split at q
  · split at q <;> cases q; exact ⟨_, _, rfl, rfl, by assumption, rfl⟩
  · cases q) fun _ _ _ => .int _
theorem dNeg_r : UnD K (rU fun i => .int (-i)) dNeg := by
  intro x F H d z Q s hx q k
  unfold dNeg at q; split at q <;> cases q
  exact ⟨_, hx, fin0 s k (.int _)⟩
end
end Pv
end

section
set_option maxRecDepth 100000
set_option maxHeartbeats 4000000
namespace Pv
open PySem PySem.Spec L2 PyProof.Rows

/-! ### equality -/
mutual
def toPy : D → Option PyData
  | .non => some .none
  | .bl b => some (.bool b)
  | .int i => some (.int i)
  | .str x => some (.str x)
  | .tup xs => match toPyAll xs with
    | some ps => some (.tuple ps)
    | none => none
  | .lst xs => match toPyAll xs with
    | some ps => some (.list ps)
    | none => none
  | .scr _ => none
  | .dk _ => none
  | .dt _ => none
def toPyAll : List D → Option (List PyData)
  | [] => some []
  | d :: ds => match toPy d, toPyAll ds with
    | some p, some ps => some (p :: ps)
    | _, _ => none
end
section
variable {K : Fr} {F H : Hp}
mutual
theorem Den.dp (s : Sub F H) : ∀ {d : D} {v : V} {p : PyData}, Den K F d v → toPy d = some p → Dp K H v p
  | _, _, _, .non, q => by cases q; exact .non
  | _, _, _, .bl b, q => by cases q; exact .bl b
  | _, _, _, .int b, q => by cases q; exact .int b
  | _, _, _, .str b, q => by cases q; exact .str b
  | .tup ds, _, _, .tup h t, q => by
    unfold toPy at q
    split at q
    · rename_i ps hp; cases q; exact .tup (s.seqT h) (Dens.dp s t hp)
    · cases q
  | .lst ds, _, _, .lst h t, q => by
    unfold toPy at q
    split at q
    · rename_i ps hp; cases q; exact .lst (.inl (s.rd h)) (Dens.dp s t hp)
    · cases q
  | _, _, _, .scr h t, q => by cases q
  | _, _, _, .dk h t, q => by cases q
  | _, _, _, .dt h t, q => by cases q
theorem Dens.dp (s : Sub F H) : ∀ {d : List D} {v : List V} {p : List PyData}, Dens K F d v → toPyAll d = some p → DpAll K H v p
  | _, _, _, .nil, q => by cases q; exact .nil
  | d :: ds, _, _, .cons h t, q => by
    unfold toPyAll at q
    split at q
    · rename_i p ps h1 h2; cases q; exact .cons (Den.dp s h h1) (Dens.dp s t h2)
    · cases q
end
theorem View.dp (s : Sub F H) {d : D} {v : V} {p : PyData} (h : View K F H d v) (q : toPy d = some p) : Dp K H v p := by
  cases d with
  | lst ds =>
    obtain ⟨a, xs, rfl, h1, t⟩ := h
    unfold toPy at q
    split at q
    · rename_i ps hp; cases q; exact .lst (.inl h1) (Dens.dp s t hp)
    · cases q
  | tup ds => obtain ⟨a, xs, rfl, h1, t⟩ := h; exact Den.dp s (.tup h1 t) q
  | non => exact Den.dp s (den_of_view (K := K) (F := F) (H := H) rfl h F) q
  | bl b => exact Den.dp s (den_of_view (K := K) (F := F) (H := H) rfl h F) q
  | int i => exact Den.dp s (den_of_view (K := K) (F := F) (H := H) rfl h F) q
  | str z => exact Den.dp s (den_of_view (K := K) (F := F) (H := H) rfl h F) q
  | _ => cases q
end
def eqD (a b : D) : Option Bool := match toPy a, toPy b with
  | some p, some q => if SeqAt.shaped p && SeqAt.shaped q then some (PyData.eqv p q) else none
  | _, _ => none
def dEq (a b : D) : Option Val := match a, b with
  | .str x, .str y => some (.fz (.bl (decide (V.str x = V.str y))))
  | a, b => match eqD a b with
    | some r => some (.fz (.bl r))
    | none => none
def dNe (a b : D) : Option Val := match a, b with
  | .str x, .str y => some (.fz (.bl (!decide (V.str x = V.str y))))
  | a, b => match eqD a b with
    | some r => some (.fz (.bl (!r)))
    | none => none
section
variable {K : Fr} {X : Cx}
theorem eqD_some {K : Fr} {F H : Hp} {da db : D} {x y : V} {r : Bool} (s : Sub F H) (hx : View K F H da x) (hy : View K F H db y) (q : eqD da db = some r) : ∃ p p', Dp K H x p ∧ Dp K H y p' ∧ SeqAt.shaped p = true ∧ SeqAt.shaped p' = true ∧ r = PyData.eqv p p' := by
  unfold eqD at q
  split at q
  · rename_i p p' h1 h2
    split at q
    · rename_i hs
      cases q
      rw [Bool.and_eq_true] at hs
      exact ⟨p, p', hx.dp s h1, hy.dp s h2, hs.1, hs.2, rfl⟩
    · cases q
  · cases q
theorem dEq_r : R2D K (fun x y H Q => rEqD K x y H Q ∨ rEq x y H Q) dEq := by
  intro x y F H da db z Q s hx hy q k
  unfold dEq at q
  split at q
  · cases q
    cases (show x = .str _ from hx)
    cases (show y = .str _ from hy)
    exact .inr ⟨rfl, fin0 s k (.bl _)⟩
  · split at q
    · rename_i r hr
      cases q
      obtain ⟨p, p', h1, h2, h3, h4, rfl⟩ := eqD_some s hx hy hr
      exact .inl ⟨p, p', h1, h2, h3, h4, fin0 s k (.bl _)⟩
    · cases q
theorem dNe_r : R2D K (fun x y H Q => rNeD K x y H Q ∨ rNe x y H Q) dNe := by
  intro x y F H da db z Q s hx hy q k
  unfold dNe at q
  split at q
  · cases q
    cases (show x = .str _ from hx)
    cases (show y = .str _ from hy)
    exact .inr ⟨rfl, fin0 s k (.bl _)⟩
  · split at q
    · rename_i r hr
      cases q
      obtain ⟨p, p', h1, h2, h3, h4, rfl⟩ := eqD_some s hx hy hr
      exact .inl ⟨p, p', h1, h2, h3, h4, fin0 s k (.bl _)⟩
    · cases q
end

/-! ### in -/
def vOf : D → V
  | .bl b => .bl b
  | .int i => .int i
  | .str x => .str x
  | _ => .non
def flatD (d : D) : Bool := scal (.fz d)
theorem Den.flat {K : Fr} {F : Hp} {d : D} {v : V} (h : Den K F d v) (f : flatD d = true) : v = vOf d ∧ flatV v = true := by
  cases h with
  | non => exact ⟨rfl, rfl⟩
  | bl => exact ⟨rfl, rfl⟩
  | int => exact ⟨rfl, rfl⟩
  | str => exact ⟨rfl, rfl⟩
  | _ => cases f
theorem Dens.flat {K : Fr} {F : Hp} : ∀ {ds : List D} {vs : List V}, Dens K F ds vs → ds.all flatD = true → vs = ds.map vOf ∧ vs.all flatV = true
  | _, _, .nil, _ => ⟨rfl, rfl⟩
  | d :: ds, _, .cons h t, f => by
    rw [List.all_cons, Bool.and_eq_true] at f
    obtain ⟨h1, h2⟩ := h.flat f.1
    obtain ⟨h3, h4⟩ := t.flat f.2
    exact ⟨by rw [List.map_cons, h1, h3], by rw [List.all_cons, h2, h4]; rfl⟩
def keyOf : D → Option Key
  | .int i => some (.inl i)
  | .str x => some (.inr x)
  | _ => none
theorem keyOf_v {K : Fr} {F H : Hp} {d : D} {v : V} {k : Key} (h : View K F H d v) (q : keyOf d = some k) : v = kV k := by
  cases d with
  | int i => cases q; exact h
  | str z => cases q; exact h
  | _ => cases q
def valD (es : List (Key × D)) (k : Key) : Option D := (es.find? fun kv => decide (kv.1 = k)).map (·.2)
theorem DenK.val {K : Fr} {F : Hp} (k : Key) : ∀ {es : List (Key × D)} {kvs : List (Key × V)}, DenK K F es kvs → (valD es k = none ∧ valV kvs k = none) ∨ ∃ d v, valD es k = some d ∧ valV kvs k = some v ∧ Den K F d v
  | _, _, .nil => .inl ⟨rfl, rfl⟩
  | _, _, .cons (k := k') (d := d) (v := v) (ds := es) (vs := kvs) h t => by
    by_cases e : k' = k
    · right
      exact ⟨d, v, by simp [valD, List.find?_cons, e], valV_pos e, h⟩
    · have e1 : valD ((k', d) :: es) k = valD es k := by simp [valD, List.find?_cons, e]
      rw [e1, valV_neg (p := (k', v)) e]
      exact DenK.val k t
def putD (es : List (Key × D)) (k : Key) (d : D) : List (Key × D) :=
  if (es.any fun kv => decide (kv.1 = k)) = true then es.map (fun kv => if kv.1 = k then (kv.1, d) else kv) else es ++ [(k, d)]
theorem DenK.any {K : Fr} {F : Hp} (k : Key) : ∀ {es : List (Key × D)} {kvs : List (Key × V)}, DenK K F es kvs → (es.any fun kv => decide (kv.1 = k)) = kvs.any fun kv => decide (kv.1 = k)
  | _, _, .nil => rfl
  | _, _, .cons h t => by rw [List.any_cons, List.any_cons, DenK.any k t]
theorem DenK.mapPut {K : Fr} {F : Hp} {k : Key} {d : D} {v : V} (hd : Den K F d v) : ∀ {es : List (Key × D)} {kvs : List (Key × V)}, DenK K F es kvs → DenK K F (es.map fun kv => if kv.1 = k then (kv.1, d) else kv) (kvs.map fun kv => if kv.1 = k then (kv.1, v) else kv)
  | _, _, .nil => .nil
  | _, _, .cons (k := k') (d := d') h t => by
    rw [List.map_cons, List.map_cons]
    by_cases e : k' = k
    · rw [if_pos e, if_pos e]; exact .cons hd (DenK.mapPut hd t)
    · rw [if_neg e, if_neg e]; exact .cons h (DenK.mapPut hd t)
theorem DenK.snoc {K : Fr} {F : Hp} {k : Key} {d : D} {v : V} (hd : Den K F d v) : ∀ {es : List (Key × D)} {kvs : List (Key × V)}, DenK K F es kvs → DenK K F (es ++ [(k, d)]) (kvs ++ [(k, v)])
  | _, _, .nil => .cons hd .nil
  | _, _, .cons h t => .cons h (DenK.snoc hd t)
theorem DenK.put {K : Fr} {F : Hp} {k : Key} {d : D} {v : V} {es : List (Key × D)} {kvs : List (Key × V)} (h : DenK K F es kvs) (hd : Den K F d v) : DenK K F (putD es k d) (putK kvs k v) := by
  unfold putD putK
  rw [h.any k]
  by_cases e : (kvs.any fun kv => decide (kv.1 = k)) = true
  · rw [if_pos e, if_pos e]; exact h.mapPut hd
  · rw [if_neg e, if_neg e]; exact h.snoc hd
def dIn (neg : Bool) (a b : D) : Option Val := match b with
  | .tup ds => if flatD a && ds.all flatD then some (.fz (.bl (if neg then !inV (vOf a) (ds.map vOf) else inV (vOf a) (ds.map vOf)))) else none
  | .lst ds => if flatD a && ds.all flatD then some (.fz (.bl (if neg then !inV (vOf a) (ds.map vOf) else inV (vOf a) (ds.map vOf)))) else none
  | .dk es => match keyOf a with
    | some k => some (.fz (.bl (if neg then !(valD es k).isSome else (valD es k).isSome)))
    | none => none
  | _ => none
def rInD (neg : Bool) : R2 := fun x y H Q => ∃ a o, y = .ref a ∧ DGet H a x o ∧ Q (.bl (if neg then !o.isSome else o.isSome)) H
section
variable {K : Fr} {X : Cx}
theorem rInD_ok (hu : X.A.units + 1 < cLine) : OpR X (compareOp .In) (rInD false) := by
  intro pins s σ H x y v u Q I rx ry h
  obtain ⟨a, o, rfl, g, q⟩ := h
  cases ry
  exact d_in hu I g rx fun s' I' => ⟨.bl _, H, I', rfl, q⟩
theorem rNotInD_ok (hu : X.A.units + 1 < cLine) : OpR X (compareOp .NotIn) (rInD true) := by
  intro pins s σ H x y v u Q I rx ry h
  obtain ⟨a, o, rfl, g, q⟩ := h
  cases ry
  exact d_notIn hu I g rx fun s' I' => ⟨.bl _, H, I', rfl, q⟩
theorem DGet.k' {H : Hp} {a : Addr} {kvs : List (Key × V)} {k : Key} (e : Rd H a (.dK kvs)) : DGet H a (kV k) (valV kvs k) := .inl ⟨kvs, k, e, rfl, rfl⟩
theorem dIn_r {neg : Bool} : R2D K (fun x y H Q => rIn K neg x y H Q ∨ rInD neg x y H Q) (dIn neg) := by
  intro x y F H da db z Q s hx hy q k
  have seq : ∀ {p : Addr} {xs : List V} {ds : List D}, (SqL K H p xs ∨ SqT K H p xs) → Dens K F ds xs → (if flatD da && ds.all flatD then some (Val.fz (.bl (if neg then !inV (vOf da) (ds.map vOf) else inV (vOf da) (ds.map vOf)))) else none) = some z → rIn K neg x (.ref p) H Q := fun {p xs ds} h t q => by
    split at q
    · rename_i hf
      cases q
      rw [Bool.and_eq_true] at hf
      obtain ⟨h1, h2⟩ := (den_of_view (K := K) (F := F) (H := H) hf.1 hx F).flat hf.1
      obtain ⟨h3, h4⟩ := t.flat hf.2
      refine ⟨p, xs, rfl, h, h2, h4, ?_⟩
      rw [h1, h3]
      exact fin0 s k (.bl _)
    · cases q
  unfold dIn at q
  split at q
  · obtain ⟨p, xs, rfl, h1, t⟩ := hy
    exact .inl (seq (.inr (s.seqT h1)) t q)
  · obtain ⟨p, xs, rfl, h1, t⟩ := hy
    exact .inl (seq (.inl (.inl h1)) t q)
  · rename_i es
    obtain ⟨p, kvs, rfl, h1, t⟩ := hy
    split at q
    · rename_i ky hk
      cases q
      have ex := keyOf_v hx hk
      subst ex
      refine .inr ⟨p, _, rfl, DGet.k' h1, ?_⟩
      have es : (valV kvs ky).isSome = (valD es ky).isSome := by
        rcases t.val ky with ⟨e1, e2⟩ | ⟨d, v, e1, e2, _⟩ <;> rw [e1, e2] <;> rfl
      rw [es]
      exact fin0 s k (.bl _)
    · cases q
  · cases q
theorem dInOp_ok (hu : X.A.units + 1 < cLine) : OpR X (compareOp .In) (fun x y H Q => rIn X.K false x y H Q ∨ rInD false x y H Q) := op_in_seq.or (rInD_ok hu)
theorem dNotInOp_ok (hu : X.A.units + 1 < cLine) : OpR X (compareOp .NotIn) (fun x y H Q => rIn X.K true x y H Q ∨ rInD true x y H Q) := op_notIn_seq.or (rNotInD_ok hu)
end

/-! ### x[i] -/
def dIx (a b : D) : Option Val := match a, b with
  | .tup ds, .int i => (atI ds i).map Val.fz
  | .lst ds, .int i => (atI ds i).map Val.fz
  | .scr ds, .int i => (atI ds i).map Val.fz
  | .str z, .int i => if z.length ≤ LINE then (atI z.cps.toList i).map (fun c => Val.fz (.str ⟨#[c]⟩)) else none
  | .dk es, b => match keyOf b with
    | some k => (valD es k).map Val.fz
    | none => none
  | _, _ => none
def rIxD : R2 := fun x y H Q => ∃ a v, x = .ref a ∧ DGet H a y (some v) ∧ Q v H
section
variable {K : Fr} {X : Cx}
theorem rIxD_ok (hu : X.A.units + 1 < cLine) : IxR X rIxD := by
  intro value slice pins s σ H x y v u Q I rx ry h hs
  obtain ⟨a, w, rfl, g, q⟩ := h
  cases rx
  exact tail_any (dict_typeIs I g) PySem.F.slot_dict_getitem.lookup (d_getItem hu I g ry fun w' s' I' r' => ⟨w, H, I', r', q⟩) hs
theorem Dens.atI {K : Fr} {F : Hp} {ds : List D} {vs : List V} {i : Int} {d : D} (h : Dens K F ds vs) (q : L2.atI ds i = some d) : ∃ v, L2.atI vs i = some v ∧ Den K F d v := by
  unfold L2.atI at q ⊢
  rw [h.length]
  cases e : ixN ds.length i with
  | none => rw [e] at q; cases q
  | some j => rw [e] at q; exact h.get q
theorem dIx_r : R2D K (fun x y H Q => rIxL K x y H Q ∨ rIxT K x y H Q ∨ rIxS x y H Q ∨ rIxD x y H Q) dIx := by
  intro x y F H da db z Q s hx hy q k
  unfold dIx at q
  split at q
  · obtain ⟨d, hd, rfl⟩ := Option.map_eq_some_iff.mp q
    obtain ⟨a, xs, rfl, h1, t⟩ := hx
    obtain ⟨v, hv, dn⟩ := t.atI hd
    exact .inr (.inl ⟨a, xs, _, v, rfl, hy, s.seqT h1, hv, fin0 s k dn⟩)
  · obtain ⟨d, hd, rfl⟩ := Option.map_eq_some_iff.mp q
    obtain ⟨a, xs, rfl, h1, t⟩ := hx
    obtain ⟨v, hv, dn⟩ := t.atI hd
    exact .inl ⟨a, xs, _, v, rfl, hy, .inl h1, hv, fin0 s k dn⟩
  · obtain ⟨d, hd, rfl⟩ := Option.map_eq_some_iff.mp q
    obtain ⟨a, xs, rfl, h1, t⟩ := hx
    obtain ⟨v, hv, dn⟩ := t.atI hd
    exact .inl ⟨a, xs, _, v, rfl, hy, h1, hv, fin0 s k dn⟩
  · split at q
    · rename_i hl
      obtain ⟨c, hc, rfl⟩ := Option.map_eq_some_iff.mp q
      exact .inr (.inr (.inl ⟨_, _, c, hx, hy, by rw [← line_eq]; exact hl, hc, fin0 s k (.str _)⟩))
    · cases q
  · split at q
    · rename_i ky hk
      obtain ⟨d, hd, rfl⟩ := Option.map_eq_some_iff.mp q
      obtain ⟨a, kvs, rfl, h1, t⟩ := hx
      have ey := keyOf_v hy hk
      subst ey
      rcases t.val ky with ⟨e1, _⟩ | ⟨d', v, e1, e2, dn⟩
      · rw [e1] at hd; cases hd
      · rw [e1] at hd; cases hd
        exact .inr (.inr (.inr ⟨a, v, rfl, by rw [← e2]; exact DGet.k' h1, fin0 s k dn⟩))
    · cases q
  · cases q
theorem dIx_ok (hu : X.A.units + 1 < cLine) : IxR X (fun x y H Q => rIxL X.K x y H Q ∨ rIxT X.K x y H Q ∨ rIxS x y H Q ∨ rIxD x y H Q) := ix_list.or (ix_tup.or (ix_str.or (rIxD_ok hu)))
end

/-! ### x[i:j] -/
def cutD (xs : List D) (lo hi : Option Int) : List D := (xs.drop (HT.sIx xs.length 0 lo)).take (HT.sIx xs.length xs.length hi - HT.sIx xs.length 0 lo)
theorem Dens.cut {K : Fr} {F : Hp} {ds : List D} {vs : List V} (h : Dens K F ds vs) (lo hi : Option Int) : Dens K F (cutD ds lo hi) (cutV vs lo hi) := by
  unfold cutD cutV
  rw [h.length]
  exact (h.drop _).take _
def dSl (a : D) (lo hi : Option Int) : Option Val := match a with
  | .tup ds => some (.fz (.tup (cutD ds lo hi)))
  | .lst ds => some (.own (.lst (cutD ds lo hi)))
  | .scr ds => some (.own (.lst (cutD ds lo hi)))
  | .str z => if z.length ≤ LINE then some (.fz (.str (cutS z lo hi))) else none
  | _ => none
section
variable {K : Fr} {X : Cx}
theorem dSl_r : SlD K (fun x lo hi H Q => rSlA K x lo hi H Q ∨ rSlL K x lo hi H Q ∨ rSlS x lo hi H Q) dSl := by
  intro x F H d lo hi z Q s hx q k
  unfold dSl at q
  split at q
  · rename_i ds
    cases q
    obtain ⟨a, xs, rfl, h1, t⟩ := hx
    refine .inl ⟨a, xs, rfl, s.seqT h1, fun w => ?_, fun _ p hp => finT s k (t.cut lo hi) p hp⟩
    have e : cutD ds lo hi = ds := by
      unfold cutD
      rw [t.length] at w
      rw [w.1, w.2, List.drop_zero, Nat.sub_zero, List.take_length]
    rw [e] at k
    exact fin0 s k (.tup h1 t)
  · cases q
    obtain ⟨a, xs, rfl, h1, t⟩ := hx
    exact .inr (.inl ⟨a, xs, rfl, .inl h1, fun p hp => finL s k (t.cut lo hi) p hp⟩)
  · cases q
    obtain ⟨a, xs, rfl, h1, t⟩ := hx
    exact .inr (.inl ⟨a, xs, rfl, h1, fun p hp => finL s k (t.cut lo hi) p hp⟩)
  · split at q
    · rename_i hl
      cases q
      exact .inr (.inr ⟨_, hx, by rw [← line_eq]; exact hl, fin0 s k (.str _)⟩)
    · cases q
  · cases q
theorem dSl_ok : SlR X (fun x lo hi H Q => rSlA X.K x lo hi H Q ∨ rSlL X.K x lo hi H Q ∨ rSlS x lo hi H Q) := sl_tupA.or (sl_list.or sl_str)
end
end Pv
end

section
set_option maxRecDepth 100000
set_option maxHeartbeats 4000000
namespace Pv
open PySem PySem.Spec PySem.W L2 PyProof.Rows

/-! ### calls of what is built in -/
def intsOf : List D → Option (List Int)
  | [] => some []
  | .int i :: ds => match intsOf ds with
    | some is => some (i :: is)
    | none => none
  | _ => none
def blsOf : List D → Option (List Bool)
  | [] => some []
  | .bl b :: ds => match blsOf ds with
    | some is => some (b :: is)
    | none => none
  | _ => none
theorem Dens.toInts {K : Fr} {F : Hp} : ∀ {ds : List D} {vs : List V} {ns : List Int}, Dens K F ds vs → intsOf ds = some ns → vs = ns.map V.int ∧ ds = ns.map D.int
  | _, _, _, .nil, q => by cases q; exact ⟨rfl, rfl⟩
  | .int i :: ds, _, _, .cons h t, q => by
    unfold intsOf at q
    split at q
    · rename_i is hi
      cases q
      obtain ⟨h1, h2⟩ := t.toInts hi
      cases h
      exact ⟨by rw [h1]; rfl, by rw [h2]; rfl⟩
    · cases q
  | .non :: _, _, _, .cons _ _, q => by cases q
  | .bl _ :: _, _, _, .cons _ _, q => by cases q
  | .str _ :: _, _, _, .cons _ _, q => by cases q
  | .tup _ :: _, _, _, .cons _ _, q => by cases q
  | .lst _ :: _, _, _, .cons _ _, q => by cases q
  | .scr _ :: _, _, _, .cons _ _, q => by cases q
  | .dk _ :: _, _, _, .cons _ _, q => by cases q
  | .dt _ :: _, _, _, .cons _ _, q => by cases q
theorem Dens.toBls {K : Fr} {F : Hp} : ∀ {ds : List D} {vs : List V} {ns : List Bool}, Dens K F ds vs → blsOf ds = some ns → vs = ns.map V.bl
  | _, _, _, .nil, q => by cases q; exact rfl
  | .bl i :: ds, _, _, .cons h t, q => by
    unfold blsOf at q
    split at q
    · rename_i is hi
      cases q
      have h1 := t.toBls hi
      cases h
      rw [h1]; rfl
    · cases q
  | .non :: _, _, _, .cons _ _, q => by cases q
  | .int _ :: _, _, _, .cons _ _, q => by cases q
  | .str _ :: _, _, _, .cons _ _, q => by cases q
  | .tup _ :: _, _, _, .cons _ _, q => by cases q
  | .lst _ :: _, _, _, .cons _ _, q => by cases q
  | .scr _ :: _, _, _, .cons _ _, q => by cases q
  | .dk _ :: _, _, _, .cons _ _, q => by cases q
  | .dt _ :: _, _, _, .cons _ _, q => by cases q
def dLen : List D → Option Val
  | [.str z] => if z.length ≤ LINE then some (.fz (.int z.length)) else none
  | [.tup ds] => some (.fz (.int ds.length))
  | [.lst ds] => some (.fz (.int ds.length))
  | [.scr ds] => some (.fz (.int ds.length))
  | _ => none
def dAbs : List D → Option Val
  | [.int i] => some (.fz (.int (if i < 0 then -i else i)))
  | _ => none
def dInt : List D → Option Val
  | [.int i] => some (.fz (.int i))
  | [.bl b] => some (.fz (.int (if b then 1 else 0)))
  | _ => none
def foldMin (n : Int) (ns : List Int) : Int := ns.foldl min n
def foldMax (n : Int) (ns : List Int) : Int := ns.foldl max n
def dMax : List D → Option Val
  | [.int i, .int j] => some (.fz (.int (if j > i then j else i)))
  | [.lst ds] => match intsOf ds with
    | some (n :: ns) => some (.fz (.int (foldMax n ns)))
    | _ => none
  | [.tup ds] => match intsOf ds with
    | some (n :: ns) => some (.fz (.int (foldMax n ns)))
    | _ => none
  | _ => none
def dMin : List D → Option Val
  | [.int i, .int j] => some (.fz (.int (if j < i then j else i)))
  | [.lst ds] => match intsOf ds with
    | some (n :: ns) => some (.fz (.int (foldMin n ns)))
    | _ => none
  | [.tup ds] => match intsOf ds with
    | some (n :: ns) => some (.fz (.int (foldMin n ns)))
    | _ => none
  | _ => none
def dSum : List D → Option Val
  | [.lst ds] => match intsOf ds with
    | some ns => some (.fz (.int ns.sum))
    | _ => none
  | _ => none
def dAll : List D → Option Val
  | [.lst ds] => match blsOf ds with
    | some ns => some (.fz (.bl (ns.all id)))
    | _ => none
  | _ => none
def dAny : List D → Option Val
  | [.lst ds] => match blsOf ds with
    | some ns => some (.fz (.bl (ns.any id)))
    | _ => none
  | _ => none
def dList : List D → Option Val
  | [.lst ds] => some (.own (.lst ds))
  | [.scr ds] => some (.own (.lst ds))
  | [.tup ds] => some (.own (.lst ds))
  | _ => none
def dTuple : List D → Option Val
  | [.lst ds] => some (.fz (.tup ds))
  | [.tup ds] => some (.fz (.tup ds))
  | _ => none
def dRepr : List D → Option Val
  | [.int i] => if i.natAbs.log2 < 1920 then some (.fz (.str (toString i))) else none
  | [.tup ds] => match toPy (.tup ds) with
    | some p => if PyData.showable p && decide (p.shown.length ≤ LINE) && decide (p.depth ≤ 60) && !p.hasDict then some (.fz (.str p.shown)) else none
    | none => none
  | [.lst ds] => match toPy (.lst ds) with
    | some p => if PyData.showable p && decide (p.shown.length ≤ LINE) && decide (p.depth ≤ 60) && !p.hasDict then some (.fz (.str p.shown)) else none
    | none => none
  | _ => none
section
variable {K : Fr} {X : Cx}
theorem views1 {F H : Hp} {d : D} {vs : List V} (h : Views K F H [d] vs) : ∃ v, vs = [v] ∧ View K F H d v := by
  cases h with
  | cons h t => cases t; exact ⟨_, rfl, h⟩
theorem views2 {F H : Hp} {d e : D} {vs : List V} (h : Views K F H [d, e] vs) : ∃ v w, vs = [v, w] ∧ View K F H d v ∧ View K F H e w := by
  cases h with
  | cons h t =>
    cases t with
    | cons h' t => cases t; exact ⟨_, _, rfl, h, h'⟩
theorem dLen_r : CallD K (fun xs H Q => ∃ x n, xs = [x] ∧ LenV K x H n ∧ Q (.int n) H) dLen := by
  intro vs F H ds z Q s h q k
  unfold dLen at q
  split at q
  · split at q
    · rename_i hl
      cases q
      obtain ⟨v, rfl, hv⟩ := views1 h
      cases hv
      exact ⟨_, _, rfl, ⟨by rw [← line_eq]; exact hl, rfl⟩, fin0 s k (.int _)⟩
    · cases q
  · cases q
    obtain ⟨v, rfl, a, xs, rfl, h1, t⟩ := views1 h
    exact ⟨_, _, rfl, .inr ⟨xs, s.seqT h1, rfl⟩, by rw [t.length]; exact fin0 s k (.int _)⟩
  · cases q
    obtain ⟨v, rfl, a, xs, rfl, h1, t⟩ := views1 h
    exact ⟨_, _, rfl, .inl ⟨xs, .inl h1, rfl⟩, by rw [t.length]; exact fin0 s k (.int _)⟩
  · cases q
    obtain ⟨v, rfl, a, xs, rfl, h1, t⟩ := views1 h
    exact ⟨_, _, rfl, .inl ⟨xs, h1, rfl⟩, by rw [t.length]; exact fin0 s k (.int _)⟩
  · cases q
theorem dAbs_r : CallD K (fun xs H Q => ∃ i, xs = [.int i] ∧ Q (.int (if i < 0 then -i else i)) H) dAbs := by
  intro vs F H ds z Q s h q k
  unfold dAbs at q
  split at q
  · cases q
    obtain ⟨v, rfl, hv⟩ := views1 h
    cases hv
    exact ⟨_, rfl, fin0 s k (.int _)⟩
  · cases q
theorem dInt_r : CallD K (fun xs H Q => (∃ i, xs = [.int i] ∧ Q (.int i) H) ∨ ∃ k, xs = [.bl k] ∧ Q (.int (if k then 1 else 0)) H) dInt := by
  intro vs F H ds z Q s h q k
  unfold dInt at q
  split at q
  · cases q
    obtain ⟨v, rfl, hv⟩ := views1 h
    cases hv
    exact .inl ⟨_, rfl, fin0 s k (.int _)⟩
  · cases q
    obtain ⟨v, rfl, hv⟩ := views1 h
    cases hv
    exact .inr ⟨_, rfl, fin0 s k (.int _)⟩
  · cases q
/-- the least, the greatest of a list or a tuple of ints -/
def rMnA (K : Fr) (mn : Bool) : List V → Hp → VK → Prop := fun vs H Q => ∃ (a : Addr) (n : Int) (ns : List Int), vs = [V.ref a] ∧ (SqL K H a ((n :: ns).map V.int) ∨ SqT K H a ((n :: ns).map V.int)) ∧ Q (.int (if mn then foldMin n ns else foldMax n ns)) H
theorem dpAll_ints {K : Fr} {H : Hp} : ∀ ns : List Int, DpAll K H (ns.map V.int) (ns.map PyData.int)
  | [] => .nil
  | n :: ns => .cons (.int n) (dpAll_ints ns)
theorem depth_ints : ∀ ns : List Int, PyData.depthAll (ns.map PyData.int) = 0
  | [] => rfl
  | n :: ns => by rw [List.map_cons]; unfold PyData.depthAll; rw [depth_ints ns]; rfl
theorem alike_ints (ns : List Int) : AlikeAll (ns.map PyData.int) := by
  refine ⟨fun x hx y hy => ?_, fun x hx => ?_⟩
  · obtain ⟨i, _, rfl⟩ := List.mem_map.mp hx
    obtain ⟨j, _, rfl⟩ := List.mem_map.mp hy
    rfl
  · obtain ⟨i, _, rfl⟩ := List.mem_map.mp hx
    intro z; cases z
theorem rMn_ok (mn : Bool) (hc : X.calm = true) (hu : X.A.units + 1 < cLine) : CallR X (.builtin (if mn then "min" else "max")) (rMnA X.K mn) := by
  intro pins s σ H vs us Q I r h
  obtain ⟨a, n, ns, rfl, hs, q⟩ := h
  obtain ⟨u, rfl, ru⟩ := vals1 r
  cases ru
  have al := alike_ints (n :: ns)
  have dp := depth_ints (n :: ns)
  have hu' : X.A.units + 1 + PyData.depthAll (PyData.int n :: ns.map PyData.int) < cLine := by
    have dp : PyData.depthAll (PyData.int n :: ns.map PyData.int) = 0 := dp
    rw [dp]; exact hu
  rcases hs with hs | hs
  · obtain ⟨its, rv, pl, _⟩ := I.list hs
    obtain ⟨as, hr⟩ := Dp.readsAll I _ _ its (dpAll_ints (n :: ns)) rv
    cases mn with
    | true =>
      refine min_list_data (I.ok.hd hc) pl.isList hr al hu' fun i v h' tk bs _ rd kp => ?_
      rw [minD_ints] at rd
      obtain ⟨t, rfl, _⟩ := reads_int_inv rd
      exact ⟨.int _, H, I.kept kp, ⟨_, rfl⟩, q⟩
    | false =>
      refine max_list_data (I.ok.hd hc) pl.isList hr al hu' fun i v h' tk bs _ rd kp => ?_
      rw [maxD_ints] at rd
      obtain ⟨t, rfl, _⟩ := reads_int_inv rd
      exact ⟨.int _, H, I.kept kp, ⟨_, rfl⟩, q⟩
  · obtain ⟨its, rv, pl, _⟩ := I.tuple hs
    obtain ⟨as, hr⟩ := Dp.readsAll I _ _ its (dpAll_ints (n :: ns)) rv
    cases mn with
    | true =>
      refine min_tuple_data (I.ok.hd hc) (show s.heap.IsTuple a its.toArray from (by obtain ⟨o, h1, h2, n, h3⟩ := pl; exact ⟨o, h1, h2, n, h3⟩)) hr al hu' fun i v h' tk bs _ rd kp => ?_
      rw [minD_ints] at rd
      obtain ⟨t, rfl, _⟩ := reads_int_inv rd
      exact ⟨.int _, H, I.kept kp, ⟨_, rfl⟩, q⟩
    | false =>
      refine max_tuple_data (I.ok.hd hc) (show s.heap.IsTuple a its.toArray from (by obtain ⟨o, h1, h2, n, h3⟩ := pl; exact ⟨o, h1, h2, n, h3⟩)) hr al hu' fun i v h' tk bs _ rd kp => ?_
      rw [maxD_ints] at rd
      obtain ⟨t, rfl, _⟩ := reads_int_inv rd
      exact ⟨.int _, H, I.kept kp, ⟨_, rfl⟩, q⟩
theorem dMax_ok (hc : X.calm = true) (hu : X.A.units + 1 < cLine) : CallR X (.builtin "max") (fun xs H Q => (∃ i j, xs = [.int i, .int j] ∧ Q (.int (if j > i then j else i)) H) ∨ rMnA X.K false xs H Q) := (call_max2 hc).or (rMn_ok false hc hu)
theorem dMin_ok (hc : X.calm = true) (hu : X.A.units + 1 < cLine) : CallR X (.builtin "min") (fun xs H Q => (∃ i j, xs = [.int i, .int j] ∧ Q (.int (if j < i then j else i)) H) ∨ rMnA X.K true xs H Q) := (call_min2 hc).or (rMn_ok true hc hu)
theorem dMax_r : CallD K (fun xs H Q => (∃ i j, xs = [.int i, .int j] ∧ Q (.int (if j > i then j else i)) H) ∨ rMnA K false xs H Q) dMax := by
  intro vs F H ds z Q s h q k
  unfold dMax at q
  split at q
  · cases q
    obtain ⟨v, w, rfl, hv, hw⟩ := views2 h
    cases hv; cases hw
    exact .inl ⟨_, _, rfl, fin0 s k (.int _)⟩
  · split at q
    · rename_i n ns hi
      cases q
      obtain ⟨v, rfl, a, xs, rfl, h1, t⟩ := views1 h
      obtain ⟨e1, _⟩ := t.toInts hi
      subst e1
      exact .inr ⟨a, n, ns, rfl, .inl (.inl h1), fin0 s k (.int _)⟩
    · cases q
  · split at q
    · rename_i n ns hi
      cases q
      obtain ⟨v, rfl, a, xs, rfl, h1, t⟩ := views1 h
      obtain ⟨e1, _⟩ := t.toInts hi
      subst e1
      exact .inr ⟨a, n, ns, rfl, .inr (s.seqT h1), fin0 s k (.int _)⟩
    · cases q
  · cases q
theorem dMin_r : CallD K (fun xs H Q => (∃ i j, xs = [.int i, .int j] ∧ Q (.int (if j < i then j else i)) H) ∨ rMnA K true xs H Q) dMin := by
  intro vs F H ds z Q s h q k
  unfold dMin at q
  split at q
  · cases q
    obtain ⟨v, w, rfl, hv, hw⟩ := views2 h
    cases hv; cases hw
    exact .inl ⟨_, _, rfl, fin0 s k (.int _)⟩
  · split at q
    · rename_i n ns hi
      cases q
      obtain ⟨v, rfl, a, xs, rfl, h1, t⟩ := views1 h
      obtain ⟨e1, _⟩ := t.toInts hi
      subst e1
      exact .inr ⟨a, n, ns, rfl, .inl (.inl h1), fin0 s k (.int _)⟩
    · cases q
  · split at q
    · rename_i n ns hi
      cases q
      obtain ⟨v, rfl, a, xs, rfl, h1, t⟩ := views1 h
      obtain ⟨e1, _⟩ := t.toInts hi
      subst e1
      exact .inr ⟨a, n, ns, rfl, .inr (s.seqT h1), fin0 s k (.int _)⟩
    · cases q
  · cases q
theorem dSum_r : CallD K (rSum K) dSum := by
  intro vs F H ds z Q s h q k
  unfold dSum at q
  split at q
  · split at q
    · rename_i ns hi
      cases q
      obtain ⟨v, rfl, a, xs, rfl, h1, t⟩ := views1 h
      obtain ⟨e1, _⟩ := t.toInts hi
      subst e1
      exact ⟨a, ns, rfl, .inl h1, fin0 s k (.int _)⟩
    · cases q
  · cases q
theorem dAll_r : CallD K (rAll K) dAll := by
  intro vs F H ds z Q s h q k
  unfold dAll at q
  split at q
  · split at q
    · rename_i ns hi
      cases q
      obtain ⟨v, rfl, a, xs, rfl, h1, t⟩ := views1 h
      have e1 := t.toBls hi
      subst e1
      exact ⟨a, ns, rfl, .inl h1, fin0 s k (.bl _)⟩
    · cases q
  · cases q
theorem dAny_r : CallD K (rAny K) dAny := by
  intro vs F H ds z Q s h q k
  unfold dAny at q
  split at q
  · split at q
    · rename_i ns hi
      cases q
      obtain ⟨v, rfl, a, xs, rfl, h1, t⟩ := views1 h
      have e1 := t.toBls hi
      subst e1
      exact ⟨a, ns, rfl, .inl h1, fin0 s k (.bl _)⟩
    · cases q
  · cases q
theorem dList_r : CallD K (fun xs H Q => ∃ p ys, xs = [.ref p] ∧ (SqL K H p ys ∨ SqT K H p ys) ∧ ∀ l, H l = none → Q (.ref l) (upd H l (.lst ys))) dList := by
  intro vs F H ds z Q s h q k
  unfold dList at q
  split at q
  · cases q
    obtain ⟨v, rfl, a, xs, rfl, h1, t⟩ := views1 h
    exact ⟨a, xs, rfl, .inl (.inl h1), fun p hp => finL s k t p hp⟩
  · cases q
    obtain ⟨v, rfl, a, xs, rfl, h1, t⟩ := views1 h
    exact ⟨a, xs, rfl, .inl h1, fun p hp => finL s k t p hp⟩
  · cases q
    obtain ⟨v, rfl, a, xs, rfl, h1, t⟩ := views1 h
    exact ⟨a, xs, rfl, .inr (s.seqT h1), fun p hp => finL s k t p hp⟩
  · cases q
theorem dTuple_r : CallD K (fun xs H Q => ∃ p ys, xs = [.ref p] ∧ ((SqL K H p ys ∧ ∀ l, H l = none → Q (.ref l) (upd H l (.tup ys))) ∨ (SqT K H p ys ∧ Q (.ref p) H))) dTuple := by
  intro vs F H ds z Q s h q k
  unfold dTuple at q
  split at q
  · cases q
    obtain ⟨v, rfl, a, xs, rfl, h1, t⟩ := views1 h
    exact ⟨a, xs, rfl, .inl ⟨.inl h1, fun p hp => finT s k t p hp⟩⟩
  · cases q
    obtain ⟨v, rfl, a, xs, rfl, h1, t⟩ := views1 h
    exact ⟨a, xs, rfl, .inr ⟨s.seqT h1, fin0 s k (.tup h1 t)⟩⟩
  · cases q
/-- repr -/
def rReprA (K : Fr) : List V → Hp → VK → Prop := fun vs H Q => (∃ i, vs = [.int i] ∧ i.natAbs.log2 < 1920 ∧ Q (.str (toString i)) H) ∨
  ∃ (a : Addr) (p : PyData), vs = [V.ref a] ∧ Dp K H (.ref a) p ∧ p.showable = true ∧ p.shown.length ≤ sizeLine ∧ p.depth ≤ 60 ∧ p.hasDict = false ∧ Q (.str p.shown) H
theorem rRepr_ok (hgd : X.A.guards = some []) (hu : X.A.units + 64 < cLine) : CallR X (.builtin "repr") (rReprA X.K) := by
  intro pins s σ H vs us Q I r h
  rcases h with ⟨i, rfl, hi, q⟩ | ⟨a, p, rfl, hd, h1, h2, h3, h4, q⟩
  · obtain ⟨u, rfl, t, rfl⟩ := vals1 r
    exact PySem.P.repr_of_int hi ⟨.str _, H, I.tok _, ⟨_, rfl⟩, q⟩
  · obtain ⟨u, rfl, ru⟩ := vals1 r
    obtain ⟨as, rd⟩ := Dp.reads I p _ u hd ru
    cases ru
    exact repr_of_reads' rd h1 (fun z => by rw [h4] at z; cases z) hgd (by omega) (fun _ _ e => e) (fun h' u tk kp => ⟨.str _, H, I.kept kp, ⟨_, rfl⟩, q⟩) h2
theorem dRepr_r : CallD K (rReprA K) dRepr := by
  intro vs F H ds z Q s h q k
  unfold dRepr at q
  split at q
  · split at q
    · rename_i hi
      cases q
      obtain ⟨v, rfl, hv⟩ := views1 h
      cases hv
      exact .inl ⟨_, rfl, hi, fin0 s k (.str _)⟩
    · cases q
  · split at q
    · rename_i p hp
      split at q
      · rename_i hc
        cases q
        rw [Bool.and_eq_true, Bool.and_eq_true, Bool.and_eq_true] at hc
        obtain ⟨v, rfl, hv⟩ := views1 h
        have dp := View.dp s hv hp
        obtain ⟨a, xs, rfl, _⟩ := hv
        exact .inr ⟨a, p, rfl, dp, hc.1.1.1, by rw [← line_eq]; exact of_decide_eq_true hc.1.1.2, of_decide_eq_true hc.1.2, by simpa using hc.2, fin0 s k (.str _)⟩
      · cases q
    · cases q
  · split at q
    · rename_i p hp
      split at q
      · rename_i hc
        cases q
        rw [Bool.and_eq_true, Bool.and_eq_true, Bool.and_eq_true] at hc
        obtain ⟨v, rfl, hv⟩ := views1 h
        have dp := View.dp s hv hp
        obtain ⟨a, xs, rfl, _⟩ := hv
        exact .inr ⟨a, p, rfl, dp, hc.1.1.1, by rw [← line_eq]; exact of_decide_eq_true hc.1.1.2, of_decide_eq_true hc.1.2, by simpa using hc.2, fin0 s k (.str _)⟩
      · cases q
    · cases q
  · cases q
end
end Pv
end

section
set_option maxRecDepth 100000
set_option maxHeartbeats 4000000
namespace Pv
open PySem PySem.Spec PySem.W L2 PyProof.Rows

/-! ### isinstance -/
def tyD : D → Option String
  | .non => some "NoneType"
  | .bl _ => some "bool"
  | .int _ => some "int"
  | .str _ => some "str"
  | .tup _ => some "tuple"
  | .lst _ => some "list"
  | .scr _ => some "list"
  | .dk _ => some "dict"
  | .dt _ => none
theorem tyx_view {K : Fr} {F H : Hp} {d : D} {v : V} {t : String} (s : Sub F H) (h : View K F H d v) (q : tyD d = some t) : TyX K H v (.type t) := by
  cases d with
  | non => cases q; cases h; exact .base .non
  | bl b => cases q; cases h; exact .base (.bl b)
  | int b => cases q; cases h; exact .base (.int b)
  | str b => cases q; cases h; exact .base (.str b)
  | tup ds =>
    cases q
    obtain ⟨a, xs, rfl, h1, _⟩ := h
    rcases s.seqT h1 with (h | ⟨o, h⟩) | ⟨o, its, n, h, hc, _⟩
    · exact .base (.tup h)
    · exact .fTuple h
    · exact .kTuple h hc
  | lst ds =>
    cases q
    obtain ⟨a, xs, rfl, h1, _⟩ := h
    rcases h1 with h | ⟨o, h⟩
    · exact .base (.lst h)
    · exact .base (.frz h)
  | scr ds =>
    cases q
    obtain ⟨a, xs, rfl, h1, _⟩ := h
    rcases h1 with (h | ⟨o, h⟩) | ⟨o, its, n, h, hc, _⟩
    · exact .base (.lst h)
    · exact .base (.frz h)
    · exact .kList h hc
  | dk ds =>
    cases q
    obtain ⟨a, xs, rfl, h1, _⟩ := h
    rcases h1 with h | ⟨o, h⟩
    · exact .base (.dK h)
    · exact .fDict h
  | dt ds => cases q
def isD (T : String) (d : D) : Option Bool := match tyD d with
  | some t => kitB t T
  | none => none
def mIsi (T : String) (f : Ev) : Ev := fun e => do
  let (x, e1) ← f e
  let d ← look e1 x
  let b ← isD T d
  some (.fz (.bl b), e1)
section
variable {X : Cx} {c d : Expr} {f : Ev} {p p2 pos : Pos} {T : String} {x : Str}
theorem s_isi (hg : Gl X "isinstance") (hm : X.mg "isinstance" = none) (hc : PE X c (RdE X.K f)) (hd : PE X d (tC (.ty T))) (h1 : starEach (c :: [d]) X.env = (false, eval c X.env) :: starEach [d] X.env) (h2 : starEach (d :: []) X.env = (false, eval d X.env) :: starEach [] X.env)
    (hpl : (backTo pos (starEach [d] X.env)).any (·.1) = false) : PE X (.Call (.Name "isinstance" p) [c, d] [] pos) (RdE X.K (mIsi T f)) :=
  pe_weak (pe_callB call_isi hg hm rfl (pa_cons hc (pa_cons hd pa_nil h2) h1) (he := h1) (hpl := hpl)) fun σ H Q ⟨B, F, e, y, e', R, q, k⟩ => by
    obtain ⟨⟨va, e1⟩, q1, q⟩ := bindS q
    obtain ⟨dd, q2, q⟩ := bindS q
    obtain ⟨b, q3, q⟩ := bindS q
    cases q
    refine ⟨B, F, e, va, _, R, q1, fun v F1 H1 s1 R1 V1 => ?_⟩
    unfold isD at q3
    split at q3
    · rename_i t ht
      exact ⟨v, .ty T, .type t, .type T, b, rfl, .ty T, tyx_view R1.sub (V1.view R1 q2) ht, kit_ty q3, k _ F1 H1 s1 R1 (.bl b)⟩
    · cases q3
end

/-! ### methods -/
section
variable {X : Cx}
theorem mf_append : MFact X "list" "append" "list.append" rAppend := ⟨PySem.F.plainAttrs_list, PySem.F.slot_list_append, PySem.F.type_list_append, mt_append⟩
theorem mf_pop : MFact X "list" "pop" "list.pop" rPop := ⟨PySem.F.plainAttrs_list, PySem.F.slot_list_pop, PySem.F.type_list_pop, mt_pop⟩
theorem mf_popAt : MFact X "list" "pop" "list.pop" rPopAt := ⟨PySem.F.plainAttrs_list, PySem.F.slot_list_pop, PySem.F.type_list_pop, mt_popAt⟩
def rExtR : V → List V → Hp → VK → Prop := fun x vs H Q => ∃ l b xs zs, x = .ref l ∧ vs = [.ref b] ∧ H l = some (.lst xs) ∧ Rd H b (.lst zs) ∧ xs.length + zs.length ≤ sizeLine ∧ Q .non (upd H l (.lst (xs ++ zs)))
theorem mt_extR : MtM X "list.extend" rExtR := by
  intro pins s σ H x vs v us Q I rx rv h
  obtain ⟨l, b, xs, zs, rfl, rfl, hH, hB, hz, q⟩ := h
  cases rx
  obtain ⟨u, rfl, ru⟩ := rv.one
  cases ru
  obtain ⟨z, its, n, r, hl, e⟩ := I.lstM hH
  obtain ⟨z2, its2, n2, r2, e2⟩ := hB.ok I.hok
  have hl2 := r2.length
  have hsz : its.toArray.size + its2.toArray.size ≤ sizeLine := by rw [List.size_toArray, List.size_toArray]; omega
  have hlong : ¬ (!its.toArray.isEmpty && Builtin.List.listTooLong (its.toArray.size + its2.toArray.size)) = true := by
    rw [notLongL hsz, Bool.and_false]
    exact Bool.false_ne_true
  refine call_meets F.slot_list_extend ⟨_, e, rfl⟩ F.entry_list_extend (F.args_list_extend_2 _ _)
    (AutoSeq1.list_extend_list_list_0 l its.toArray n b its2.toArray n2 hlong (by rw [List.size_toArray]; omega) (by omega)) ⟨e, e2, ?_⟩
  refine ⟨.non, _, I.lset (its' := its ++ its2) hH e (by simp) (r.append r2) ?_, rfl, q⟩
  rw [List.length_append]
  omega
theorem mf_extend : MFact X "list" "extend" "list.extend" rExtR := ⟨PySem.F.plainAttrs_list, PySem.F.slot_list_extend, PySem.F.type_list_extend, mt_extR⟩
def gAppend : D → List D → Option (D × D)
  | .lst xs, [d] => if xs.length < LINE then some (.non, .lst (xs ++ [d])) else none
  | _, _ => none
def gExtend : D → List D → Option (D × D)
  | .lst xs, [.lst ys] => if xs.length + ys.length ≤ LINE then some (.non, .lst (xs ++ ys)) else none
  | _, _ => none
def gPop : D → List D → Option (D × D)
  | .lst xs, [] => match xs[xs.length - 1]? with
    | some d => some (d, .lst xs.dropLast)
    | none => none
  | .lst xs, [.int i] => if B62 i then (match seqIndex? i xs.length with
    | some k => match xs[k]? with
      | some d => some (d, .lst (xs.eraseIdx k))
      | none => none
    | none => none) else none
  | _, _ => none
theorem gAppend_ok : MutD X "append" gAppend := by
  intro d ds z d' q
  unfold gAppend at q
  split at q
  · split at q
    · rename_i xs y hl
      cases q
      refine ⟨_, _, (show (1 : Nat) ≠ 0 by decide), mf_append, fun {a vs F H Q} s hF c dn k => ?_⟩
      obtain ⟨us, h1, t⟩ := c
      cases dn with
      | cons h t' =>
        cases t'
        exact ⟨a, us, _, rfl, rfl, h1, by rw [t.length, ← line_eq]; exact hl, k _ _ ⟨_, upd_same, t.snoc h⟩ .non⟩
    · cases q
  · cases q
theorem gExtend_ok : MutD X "extend" gExtend := by
  intro d ds z d' q
  unfold gExtend at q
  split at q
  · split at q
    · rename_i xs y hl
      cases q
      refine ⟨_, _, (show (1 : Nat) ≠ 0 by decide), mf_extend, fun {a vs F H Q} s hF c dn k => ?_⟩
      obtain ⟨us, h1, t⟩ := c
      cases dn with
      | cons h t' =>
        cases t'
        cases h with
        | lst h2 t2 => exact ⟨a, _, us, _, rfl, rfl, h1, s.rd h2, by rw [t.length, t2.length, ← line_eq]; exact hl, k _ _ ⟨_, upd_same, t.append t2⟩ .non⟩
    · cases q
  · cases q
theorem gPop_ok : MutD X "pop" gPop := by
  intro d ds z d' q
  unfold gPop at q
  split at q
  · split at q
    · rename_i xs y hl
      cases q
      refine ⟨_, _, (show (1 : Nat) ≠ 0 by decide), mf_pop, fun {a vs F H Q} s hF c dn k => ?_⟩
      obtain ⟨us, h1, t⟩ := c
      cases dn
      obtain ⟨w, hw, dw⟩ := t.get hl
      exact ⟨a, us, w, rfl, rfl, h1, by rw [t.length]; exact hw, k _ _ ⟨_, upd_same, t.dropLast⟩ dw⟩
    · cases q
  · rename_i xs i
    split at q
    · rename_i hb
      split at q
      · rename_i j hj
        split at q
        · rename_i y hl
          cases q
          refine ⟨_, _, (show (1 : Nat) ≠ 0 by decide), mf_popAt, fun {a vs F H Q} s hF c dn k => ?_⟩
          obtain ⟨us, h1, t⟩ := c
          cases dn with
          | cons h t' =>
            cases t'
            cases h
            obtain ⟨w, hw, dw⟩ := t.get hl
            obtain ⟨b1, b2⟩ := b62_ok hb
            exact ⟨a, us, i, j, w, rfl, rfl, h1, by omega, by omega, by rw [t.length]; exact hj, hw, k _ _ ⟨_, upd_same, t.eraseIdx j⟩ dw⟩
        · cases q
      · cases q
    · cases q
  · cases q
/-! #### methods that change nothing -/
def gCount : D → List D → Option Val
  | .lst xs, [.int k] => match intsOf xs with
    | some ns => some (.fz (.int (ns.count k : Nat)))
    | none => none
  | _, _ => none
theorem gCount_ok : MthD X "count" gCount := by
  intro d ds z q
  unfold gCount at q
  split at q
  · rename_i xs k0
    split at q
    · rename_i ns hn
      cases q
      refine ⟨_, _, (show (1 : Nat) ≠ 0 by decide), ⟨PySem.F.plainAttrs_list, PySem.F.slot_list_count, PySem.F.type_list_count, mt_lcount⟩, fun {x vs F H Q} s hx hv k => ?_⟩
      obtain ⟨v, rfl, hv'⟩ := views1 hv
      cases hv'
      obtain ⟨a, xs, rfl, h1, t⟩ := hx
      obtain ⟨e1, _⟩ := t.toInts hn
      subst e1
      exact ⟨a, ns, k0, rfl, rfl, .inl h1, fin0 s k (.int _)⟩
    · cases q
  · cases q
def rGetA : V → List V → Hp → VK → Prop := fun x vs H Q => ∃ a y o, x = .ref a ∧ DGet H a y o ∧ ((vs = [y] ∧ Q (o.getD .non) H) ∨ ∃ dv, vs = [y, dv] ∧ Q (o.getD dv) H)
theorem mt_get (hu : X.A.units + 1 < cLine) : MtR X "dict.get" rGetA := by
  intro pins s σ H x vs v us Q I rx rv h
  obtain ⟨a, y, o, rfl, g, h⟩ := h
  cases rx
  rcases h with ⟨rfl, q⟩ | ⟨dv, rfl, q⟩
  · obtain ⟨u, rfl, ru⟩ := rv.one
    exact d_get1 hu I g ru fun w' s' I' r' => ⟨_, H, I', r', q⟩
  · obtain ⟨u, w, rfl, ru, rw'⟩ := rv.two
    exact d_get2 hu I g ru rw' fun w' s' I' r' => ⟨_, H, I', r', q⟩
def gGet : D → List D → Option Val
  | .dk es, [y] => match keyOf y with
    | some k => some (.fz ((valD es k).getD .non))
    | none => none
  | .dk es, [y, d] => match keyOf y with
    | some k => match valD es k with
      | some z => some (.fz z)
      | none => if scal (.fz d) then some (.fz d) else none
    | none => none
  | _, _ => none
theorem gGet_ok (hu : X.A.units + 1 < cLine) : MthD X "get" gGet := by
  intro d ds z q
  unfold gGet at q
  split at q
  · rename_i es y
    split at q
    · rename_i ky hk
      cases q
      refine ⟨_, _, (show (2 : Nat) ≠ 0 by decide), ⟨PySem.F.plainAttrs_dict, PySem.F.slot_dict_get, PySem.F.type_dict_get, mt_get hu⟩, fun {x vs F H Q} s hx hv k => ?_⟩
      obtain ⟨v, rfl, hv'⟩ := views1 hv
      have e := keyOf_v hv' hk
      subst e
      obtain ⟨a, kvs, rfl, h1, t⟩ := hx
      refine ⟨a, _, _, rfl, DGet.k' h1, .inl ⟨rfl, ?_⟩⟩
      rcases t.val ky with ⟨e1, e2⟩ | ⟨d', v', e1, e2, dn⟩
      · rw [e2]; rw [e1] at k; exact fin0 s k .non
      · rw [e2]; rw [e1] at k; exact fin0 s k dn
    · cases q
  · rename_i es y d
    split at q
    · rename_i ky hk
      refine ⟨_, _, (show (2 : Nat) ≠ 0 by decide), ⟨PySem.F.plainAttrs_dict, PySem.F.slot_dict_get, PySem.F.type_dict_get, mt_get hu⟩, fun {x vs F H Q} s hx hv k => ?_⟩
      obtain ⟨v, w, rfl, hv', hw⟩ := views2 hv
      have e := keyOf_v hv' hk
      subst e
      obtain ⟨a, kvs, rfl, h1, t⟩ := hx
      refine ⟨a, _, _, rfl, DGet.k' h1, .inr ⟨w, rfl, ?_⟩⟩
      rcases t.val ky with ⟨e1, e2⟩ | ⟨d', v', e1, e2, dn⟩
      · rw [e1] at q
        dsimp only at q
        split at q
        · rename_i hs
          cases q
          rw [e2]; exact fin0 s k (den_of_view hs hw F)
        · cases q
      · rw [e1] at q
        cases q
        rw [e2]; exact fin0 s k dn
    · cases q
  · cases q
end

/-! ### x[i] = v -/
def gSet : D → D → D → Option D
  | .lst xs, .int k, w => match ixN xs.length k with
    | some j => some (.lst (xs.set j w))
    | none => none
  | .dk es, y, w => match keyOf y with
    | some k => if es.length < LINE then some (.dk (putD es k w)) else none
    | none => none
  | _, _, _ => none
def rPutD : TSet := fun o i v H Q => ∃ a H', o = .ref a ∧ DPut H a i v H' ∧ Q H'
def rSetA : TSet := fun o i v H Q => rSetL o i v H Q ∨ rPutD o i v H Q
section
variable {X : Cx} {K : Fr}
theorem rSetA_ok (hu : X.A.units + 1 < cLine) : PSet X rSetA := by
  intro pins s σ H o i v ov iv u Q I ro ri rv h
  rcases h with h | ⟨a, H', rfl, g, q⟩
  · exact set_list pins s σ H o i v ov iv u Q I ro ri rv h
  · cases ro
    exact d_setItem hu I g ri rv fun s' I' => ⟨H', I', q⟩
theorem gSet_r : SetD K rSetA gSet := by
  intro a y w F H d dy dw d' Q s hF c hy hw q k
  unfold gSet at q
  split at q
  · split at q
    · rename_i xs i _ j hj
      cases q
      cases hy
      obtain ⟨us, h1, t⟩ := c
      exact .inl ⟨a, us, _, j, rfl, rfl, h1, by rw [t.length]; exact hj, k _ ⟨_, upd_same, t.set j hw⟩⟩
    · cases q
  · split at q
    · rename_i es _ _ ky hk
      split at q
      · rename_i hl
        cases q
        have e := keyOf_v hy hk
        subst e
        obtain ⟨kvs, h1, t⟩ := c
        exact .inr ⟨a, _, rfl, DPut.k h1 (by rw [t.length, ← line_eq]; exact hl), k _ ⟨_, upd_same, t.put hw⟩⟩
      · cases q
    · cases q
  · cases q
end
end Pv
end

section
set_option maxRecDepth 100000
set_option maxHeartbeats 4000000
namespace Pv
open PySem PySem.Spec PySem.W L2 PyProof.Rows

/-! ### the rules in the form that the printed proofs use -/
/-- what a body's context gives -/
structure Ctx (X : Cx) (k : Nat) : Prop where
  calm : X.calm = true
  gd : X.A.guards = some []
  room : Room k X.A
theorem Ctx.hu {X : Cx} {k : Nat} (C : Ctx X k) : X.A.units + 1 < cLine := hu_of C.room
theorem Ctx.hu64 {X : Cx} {k : Nat} (C : Ctx X k) : X.A.units + 64 < cLine := C.room.units
theorem Ctx.blk {X : Cx} {k : Nat} (C : Ctx X k) (s : Shared) (H : Hp) (scope : Scope) (e : Env) (fp : List Addr) : Ctx (X.blk s H scope e fp) k := ⟨C.calm, C.gd, C.room⟩
section
variable {X : Cx} {k : Nat} {a b c : Expr} {f g h : Ev} {fa : EvA} {fd : EvD} {t u : EvT} {x y : Str} {p p2 p3 pos : Pos} {es : List Expr}
theorem z_int {i : Int} {j : Nat} : PE X (.Constant (.int i) j p) (RdE X.K (mFz (.int i))) := s_fz pe_int fun _ => .int _
theorem z_str {i : Str} {j : Nat} : PE X (.Constant (.str i) j p) (RdE X.K (mFz (.str i))) := s_fz pe_str fun _ => .str _
theorem z_bl {i : Bool} {j : Nat} : PE X (.Constant (.bool i) j p) (RdE X.K (mFz (.bl i))) := s_fz pe_bl fun _ => .bl _
theorem z_non {j : Nat} : PE X (.Constant .none j p) (RdE X.K (mFz .non)) := s_fz pe_non fun _ => .non
theorem z_glI {i : Int} (m : ∃ t, X.mg x = some (.int i t)) (hg : Gl X x := by rfl) (hd : (x == ("__debug__" : Str)) = false := by decide) : PE X (.Name x p) (RdE X.K (mFz (.int i))) := by
  obtain ⟨t, m⟩ := m
  exact s_fz (pe_glob (v := .int i) hg m ⟨t, rfl⟩ hd) fun _ => .int _
theorem z_glS {i : Str} (m : ∃ t, X.mg x = some (.str i t)) (hg : Gl X x := by rfl) (hd : (x == ("__debug__" : Str)) = false := by decide) : PE X (.Name x p) (RdE X.K (mFz (.str i))) := by
  obtain ⟨t, m⟩ := m
  exact s_fz (pe_glob (v := .str i) hg m ⟨t, rfl⟩ hd) fun _ => .str _
theorem z_add (ha : PE X a (RdE X.K f)) (hb : PE X b (RdE X.K g)) : PE X (.BinOp a .Add b pos) (RdE X.K (mBin dAdd f g)) := s_bin dAdd_ok dAdd_r ha hb
theorem z_sub (ha : PE X a (RdE X.K f)) (hb : PE X b (RdE X.K g)) : PE X (.BinOp a .Sub b pos) (RdE X.K (mBin dSub f g)) := s_bin op_sub dSub_r ha hb
theorem z_mul (ha : PE X a (RdE X.K f)) (hb : PE X b (RdE X.K g)) : PE X (.BinOp a .Mult b pos) (RdE X.K (mBin dMul f g)) := s_bin rMul_ok dMul_r ha hb
theorem z_div (ha : PE X a (RdE X.K f)) (hb : PE X b (RdE X.K g)) : PE X (.BinOp a .FloorDiv b pos) (RdE X.K (mBin dDiv f g)) := s_bin rDiv_ok dDiv_r ha hb
theorem z_mod (ha : PE X a (RdE X.K f)) (hb : PE X b (RdE X.K g)) : PE X (.BinOp a .Mod b pos) (RdE X.K (mBin dMod f g)) := s_bin op_mod dMod_r ha hb
theorem z_pow (ha : PE X a (RdE X.K f)) (hb : PE X b (RdE X.K g)) : PE X (.BinOp a .Pow b pos) (RdE X.K (mBin dPow f g)) := s_bin rPow_ok dPow_r ha hb
theorem z_neg (ha : PE X a (RdE X.K f)) : PE X (.UnaryOp .USub a pos) (RdE X.K (mUn dNeg f)) := s_un un_neg dNeg_r ha
theorem z_eq (C : Ctx X k) (ha : PE X a (RdE X.K f)) (hb : PE X b (RdE X.K g)) : PE X (.Compare a [.Eq] [b] pos) (RdE X.K (mBin dEq f g)) := s_cmp ((op_eqD C.hu64).or op_eq) dEq_r ha hb (nomark b)
theorem z_ne (C : Ctx X k) (ha : PE X a (RdE X.K f)) (hb : PE X b (RdE X.K g)) : PE X (.Compare a [.NotEq] [b] pos) (RdE X.K (mBin dNe f g)) := s_cmp ((op_neD C.hu64).or op_ne) dNe_r ha hb (nomark b)
theorem z_lt (ha : PE X a (RdE X.K f)) (hb : PE X b (RdE X.K g)) : PE X (.Compare a [.Lt] [b] pos) (RdE X.K (mBin dLt f g)) := s_cmp op_lt dLt_r ha hb (nomark b)
theorem z_le (ha : PE X a (RdE X.K f)) (hb : PE X b (RdE X.K g)) : PE X (.Compare a [.LtE] [b] pos) (RdE X.K (mBin dLe f g)) := s_cmp op_le dLe_r ha hb (nomark b)
theorem z_gt (ha : PE X a (RdE X.K f)) (hb : PE X b (RdE X.K g)) : PE X (.Compare a [.Gt] [b] pos) (RdE X.K (mBin dGt f g)) := s_cmp op_gt dGt_r ha hb (nomark b)
theorem z_ge (ha : PE X a (RdE X.K f)) (hb : PE X b (RdE X.K g)) : PE X (.Compare a [.GtE] [b] pos) (RdE X.K (mBin dGe f g)) := s_cmp op_ge dGe_r ha hb (nomark b)
theorem z_in (C : Ctx X k) (ha : PE X a (RdE X.K f)) (hb : PE X b (RdE X.K g)) (hm : behindInMarks .In b = false := by rfl) : PE X (.Compare a [.In] [b] pos) (RdE X.K (mBin (dIn false) f g)) := s_cmp (dInOp_ok C.hu) dIn_r ha hb hm
theorem z_notIn (C : Ctx X k) (ha : PE X a (RdE X.K f)) (hb : PE X b (RdE X.K g)) (hm : behindInMarks .NotIn b = false := by rfl) : PE X (.Compare a [.NotIn] [b] pos) (RdE X.K (mBin (dIn true) f g)) := s_cmp (dNotInOp_ok C.hu) dIn_r ha hb hm
theorem t_eq (C : Ctx X k) (ha : PE X a (RdE X.K f)) (hb : PE X b (RdE X.K g)) : PT X (.Compare a [.Eq] [b] pos) (RdT X.K (mTestB (mBin dEq f g))) := st_cmp ((op_eqD C.hu64).or op_eq) dEq_r ha hb (nomark b)
theorem t_ne (C : Ctx X k) (ha : PE X a (RdE X.K f)) (hb : PE X b (RdE X.K g)) : PT X (.Compare a [.NotEq] [b] pos) (RdT X.K (mTestB (mBin dNe f g))) := st_cmp ((op_neD C.hu64).or op_ne) dNe_r ha hb (nomark b)
theorem t_lt (ha : PE X a (RdE X.K f)) (hb : PE X b (RdE X.K g)) : PT X (.Compare a [.Lt] [b] pos) (RdT X.K (mTestB (mBin dLt f g))) := st_cmp op_lt dLt_r ha hb (nomark b)
theorem t_le (ha : PE X a (RdE X.K f)) (hb : PE X b (RdE X.K g)) : PT X (.Compare a [.LtE] [b] pos) (RdT X.K (mTestB (mBin dLe f g))) := st_cmp op_le dLe_r ha hb (nomark b)
theorem t_gt (ha : PE X a (RdE X.K f)) (hb : PE X b (RdE X.K g)) : PT X (.Compare a [.Gt] [b] pos) (RdT X.K (mTestB (mBin dGt f g))) := st_cmp op_gt dGt_r ha hb (nomark b)
theorem t_ge (ha : PE X a (RdE X.K f)) (hb : PE X b (RdE X.K g)) : PT X (.Compare a [.GtE] [b] pos) (RdT X.K (mTestB (mBin dGe f g))) := st_cmp op_ge dGe_r ha hb (nomark b)
theorem t_in (C : Ctx X k) (ha : PE X a (RdE X.K f)) (hb : PE X b (RdE X.K g)) (hm : behindInMarks .In b = false := by rfl) : PT X (.Compare a [.In] [b] pos) (RdT X.K (mTestB (mBin (dIn false) f g))) := st_cmp (dInOp_ok C.hu) dIn_r ha hb hm
theorem t_notIn (C : Ctx X k) (ha : PE X a (RdE X.K f)) (hb : PE X b (RdE X.K g)) (hm : behindInMarks .NotIn b = false := by rfl) : PT X (.Compare a [.NotIn] [b] pos) (RdT X.K (mTestB (mBin (dIn true) f g))) := st_cmp (dNotInOp_ok C.hu) dIn_r ha hb hm
theorem t_tru (h : PE X a (RdE X.K f)) (he : ∀ whole, isTrue a X.env whole = (do let v ← whole; standAt a.pos; holding [v] (truthy v)) := by intro _; rfl) : PT X a (RdT X.K (mTruth f)) := st_truth h he
/-- a <= b <= c and the like -/
theorem z_lele (ha : PE X a (RdE X.K f)) (hb : PE X b (RdE X.K g)) (hc : PE X c (RdE X.K h)) (hm : lastMarks [.LtE, .LtE] [b, c] = false := by with_unfolding_all rfl) : PE X (.Compare a [.LtE, .LtE] [b, c] pos) (RdE X.K (mChain dLe dLe f g h)) :=
  s_chain op_le dLe_r op_le dLe_r ha hb hc (fun b => nomark b) (nomark c) (pe_chain op_le op_le ha hb hc hm)
theorem z_lelt (ha : PE X a (RdE X.K f)) (hb : PE X b (RdE X.K g)) (hc : PE X c (RdE X.K h)) (hm : lastMarks [.LtE, .Lt] [b, c] = false := by with_unfolding_all rfl) : PE X (.Compare a [.LtE, .Lt] [b, c] pos) (RdE X.K (mChain dLe dLt f g h)) :=
  s_chain op_le dLe_r op_lt dLt_r ha hb hc (fun b => nomark b) (nomark c) (pe_chain op_le op_lt ha hb hc hm)
theorem z_ltle (ha : PE X a (RdE X.K f)) (hb : PE X b (RdE X.K g)) (hc : PE X c (RdE X.K h)) (hm : lastMarks [.Lt, .LtE] [b, c] = false := by with_unfolding_all rfl) : PE X (.Compare a [.Lt, .LtE] [b, c] pos) (RdE X.K (mChain dLt dLe f g h)) :=
  s_chain op_lt dLt_r op_le dLe_r ha hb hc (fun b => nomark b) (nomark c) (pe_chain op_lt op_le ha hb hc hm)
theorem z_ltlt (ha : PE X a (RdE X.K f)) (hb : PE X b (RdE X.K g)) (hc : PE X c (RdE X.K h)) (hm : lastMarks [.Lt, .Lt] [b, c] = false := by with_unfolding_all rfl) : PE X (.Compare a [.Lt, .Lt] [b, c] pos) (RdE X.K (mChain dLt dLt f g h)) :=
  s_chain op_lt dLt_r op_lt dLt_r ha hb hc (fun b => nomark b) (nomark c) (pe_chain op_lt op_lt ha hb hc hm)
theorem z_ix (C : Ctx X k) (ha : PE X a (RdE X.K f)) (hb : PE X b (RdE X.K g)) (hs : PlainIx b := by intro _ _; rfl) : PE X (.Subscript a b pos) (RdE X.K (mBin dIx f g)) := s_ix (dIx_ok C.hu) dIx_r ha hb hs
theorem z_sl {lo hi : Option Expr} {fl fh : EvO} (ha : PE X a (RdE X.K f)) (hl : PO X lo (RdO X.K fl)) (hh : PO X hi (RdO X.K fh)) : PE X (.Subscript a (.Slice lo hi none p2) pos) (RdE X.K (mSlice dSl f fl fh)) := s_slice dSl_ok dSl_r ha hl hh
/-! #### arguments -/
theorem a_cons (ha : PE X c (RdE X.K f)) (hr : PA X es (RdA X.K fa)) (hs : starEach (c :: es) X.env = (false, eval c X.env) :: starEach es X.env := by rfl) : PA X (c :: es) (RdA X.K (mConsA f fa)) := sa_cons ha hr hs
theorem d_cons (ha : PE X c (RdE X.K f)) (hr : PA X es (RdD X.K fd)) (hs : starEach (c :: es) X.env = (false, eval c X.env) :: starEach es X.env := by rfl) : PA X (c :: es) (RdD X.K (mConsD f fd)) := sd_cons ha hr hs
theorem v_cons {fv : EvV} (ha : PE X c (RdE X.K f)) (hr : PA X es (RdV X.K fv)) (hs : starEach (c :: es) X.env = (false, eval c X.env) :: starEach es X.env := by rfl) : PA X (c :: es) (RdV X.K (mConsV f fv)) := sv_cons ha hr hs
/-! #### calls -/
theorem z_len (m : X.mg "len" = none) (ha : PA X (c :: es) (RdA X.K fa)) (hg : Gl X "len" := by rfl) (he : starEach (c :: es) X.env = (false, eval c X.env) :: starEach es X.env := by rfl) (hpl : (backTo pos (starEach es X.env)).any (·.1) = false := by rfl) :
    PE X (.Call (.Name "len" p) (c :: es) [] pos) (RdE X.K (mCall dLen fa)) := s_callB call_len dLen_r hg m (by first | rfl | decide +kernel) ha (by decide) (by decide) he hpl
theorem z_abs (m : X.mg "abs" = none) (ha : PA X (c :: es) (RdA X.K fa)) (hg : Gl X "abs" := by rfl) (he : starEach (c :: es) X.env = (false, eval c X.env) :: starEach es X.env := by rfl) (hpl : (backTo pos (starEach es X.env)).any (·.1) = false := by rfl) :
    PE X (.Call (.Name "abs" p) (c :: es) [] pos) (RdE X.K (mCall dAbs fa)) := s_callB call_abs dAbs_r hg m (by first | rfl | decide +kernel) ha (by decide) (by decide) he hpl
theorem z_max (C : Ctx X k) (m : X.mg "max" = none) (ha : PA X (c :: es) (RdA X.K fa)) (hg : Gl X "max" := by rfl) (he : starEach (c :: es) X.env = (false, eval c X.env) :: starEach es X.env := by rfl) (hpl : (backTo pos (starEach es X.env)).any (·.1) = false := by rfl) :
    PE X (.Call (.Name "max" p) (c :: es) [] pos) (RdE X.K (mCall dMax fa)) := s_callB (dMax_ok C.calm C.hu) dMax_r hg m (by first | rfl | decide +kernel) ha (by decide) (by decide) he hpl
theorem z_min (C : Ctx X k) (m : X.mg "min" = none) (ha : PA X (c :: es) (RdA X.K fa)) (hg : Gl X "min" := by rfl) (he : starEach (c :: es) X.env = (false, eval c X.env) :: starEach es X.env := by rfl) (hpl : (backTo pos (starEach es X.env)).any (·.1) = false := by rfl) :
    PE X (.Call (.Name "min" p) (c :: es) [] pos) (RdE X.K (mCall dMin fa)) := s_callB (dMin_ok C.calm C.hu) dMin_r hg m (by first | rfl | decide +kernel) ha (by decide) (by decide) he hpl
theorem z_sum (C : Ctx X k) (m : X.mg "sum" = none) (ha : PA X (c :: es) (RdA X.K fa)) (hg : Gl X "sum" := by rfl) (he : starEach (c :: es) X.env = (false, eval c X.env) :: starEach es X.env := by rfl) (hpl : (backTo pos (starEach es X.env)).any (·.1) = false := by rfl) :
    PE X (.Call (.Name "sum" p) (c :: es) [] pos) (RdE X.K (mCall dSum fa)) := s_callB (cr_sum C.calm) dSum_r hg m (by first | rfl | decide +kernel) ha (by decide) (by decide) he hpl
theorem z_all (C : Ctx X k) (m : X.mg "all" = none) (ha : PA X (c :: es) (RdA X.K fa)) (hg : Gl X "all" := by rfl) (he : starEach (c :: es) X.env = (false, eval c X.env) :: starEach es X.env := by rfl) (hpl : (backTo pos (starEach es X.env)).any (·.1) = false := by rfl) :
    PE X (.Call (.Name "all" p) (c :: es) [] pos) (RdE X.K (mCall dAll fa)) := s_callB (cr_all C.calm) dAll_r hg m (by first | rfl | decide +kernel) ha (by decide) (by decide) he hpl
theorem z_any (C : Ctx X k) (m : X.mg "any" = none) (ha : PA X (c :: es) (RdA X.K fa)) (hg : Gl X "any" := by rfl) (he : starEach (c :: es) X.env = (false, eval c X.env) :: starEach es X.env := by rfl) (hpl : (backTo pos (starEach es X.env)).any (·.1) = false := by rfl) :
    PE X (.Call (.Name "any" p) (c :: es) [] pos) (RdE X.K (mCall dAny fa)) := s_callB (cr_any C.calm) dAny_r hg m (by first | rfl | decide +kernel) ha (by decide) (by decide) he hpl
theorem z_repr (C : Ctx X k) (m : X.mg "repr" = none) (ha : PA X (c :: es) (RdA X.K fa)) (hg : Gl X "repr" := by rfl) (he : starEach (c :: es) X.env = (false, eval c X.env) :: starEach es X.env := by rfl) (hpl : (backTo pos (starEach es X.env)).any (·.1) = false := by rfl) :
    PE X (.Call (.Name "repr" p) (c :: es) [] pos) (RdE X.K (mCall dRepr fa)) := s_callB (rRepr_ok C.gd C.hu64) dRepr_r hg m (by first | rfl | decide +kernel) ha (by decide) (by decide) he hpl
theorem z_cint (m : X.mg "int" = none) (ha : PA X (c :: es) (RdA X.K fa)) (hg : Gl X "int" := by rfl) (he : starEach (c :: es) X.env = (false, eval c X.env) :: starEach es X.env := by rfl) (hpl : (backTo pos (starEach es X.env)).any (·.1) = false := by rfl) :
    PE X (.Call (.Name "int" p) (c :: es) [] pos) (RdE X.K (mCall dInt fa)) := s_callTy call_int1 dInt_r hg m (by first | rfl | decide +kernel) ha (by decide) (by decide) he hpl
theorem z_list (m : X.mg "list" = none) (ha : PA X (c :: es) (RdA X.K fa)) (hg : Gl X "list" := by rfl) (he : starEach (c :: es) X.env = (false, eval c X.env) :: starEach es X.env := by rfl) (hpl : (backTo pos (starEach es X.env)).any (·.1) = false := by rfl) :
    PE X (.Call (.Name "list" p) (c :: es) [] pos) (RdE X.K (mCall dList fa)) := s_callTy call_list_of dList_r hg m (by first | rfl | decide +kernel) ha (by decide) (by decide) he hpl
theorem z_tuple (m : X.mg "tuple" = none) (ha : PA X (c :: es) (RdA X.K fa)) (hg : Gl X "tuple" := by rfl) (he : starEach (c :: es) X.env = (false, eval c X.env) :: starEach es X.env := by rfl) (hpl : (backTo pos (starEach es X.env)).any (·.1) = false := by rfl) :
    PE X (.Call (.Name "tuple" p) (c :: es) [] pos) (RdE X.K (mCall dTuple fa)) := s_callTy call_tuple_of dTuple_r hg m (by first | rfl | decide +kernel) ha (by decide) (by decide) he hpl
theorem z_isi {T : String} {x : Str} (m : X.mg "isinstance" = none) (mT : X.mg x = none) (hc : PE X c (RdE X.K f)) (hv : bootBuiltins x = some (.type T) := by first | rfl | decide +kernel) (hgT : Gl X x := by rfl) (hn : x ≠ "__name__" := by decide) (hd : (x == ("__debug__" : Str)) = false := by decide) (hg : Gl X "isinstance" := by rfl)
    (h1 : starEach (c :: [.Name x p2]) X.env = (false, eval c X.env) :: starEach [.Name x p2] X.env := by rfl) (h2 : starEach ((.Name x p2) :: []) X.env = (false, eval (.Name x p2) X.env) :: starEach [] X.env := by rfl)
    (hpl : (backTo pos (starEach [.Name x p2] X.env)).any (·.1) = false := by rfl) : PE X (.Call (.Name "isinstance" p) [c, .Name x p2] [] pos) (RdE X.K (mIsi T f)) :=
  s_isi hg m hc (pe_bltn hgT mT hv rfl hn hd) h1 h2 hpl
theorem z_fn {F : FRun} {j : Nat} (C : Ctx X k) (c' : Cal X.prog X.w X.K X.mg X.base j x (spN X.K F)) (hj : j ≤ k) (ha : PA X (c :: es) (RdA X.K fa)) (hg : Gl X x := by rfl) (hdb : (x == ("__debug__" : Str)) = false := by decide)
    (he : starEach (c :: es) X.env = (false, eval c X.env) :: starEach es X.env := by rfl) (hpl : (backTo pos (starEach es X.env)).any (·.1) = false := by rfl) : PE X (.Call (.Name x p) (c :: es) [] pos) (RdE X.K (mFn F fa)) := s_fn (c'.mono hj) C.gd C.room hg ha hdb he hpl
theorem z_fn0 {F : FRun} {j : Nat} (C : Ctx X k) (c' : Cal X.prog X.w X.K X.mg X.base j x (spN X.K F)) (hj : j ≤ k) (hg : Gl X x := by rfl) (hdb : (x == ("__debug__" : Str)) = false := by decide) : PE X (.Call (.Name x p) [] [] pos) (RdE X.K (mFn F mNilA)) := s_fn0 (c'.mono hj) C.gd C.room hg hdb
theorem z_io {F : FRun} {i j : Nat} (C : Ctx X k) (c' : Cal X.prog X.w X.K X.mg X.base j x (spIO X.K F)) (hj : j ≤ k) (hc : PE X c (tVar i)) (ha : PA X es (RdD X.K fd)) (hg : Gl X x := by rfl) (hdb : (x == ("__debug__" : Str)) = false := by decide)
    (he : starEach (c :: es) X.env = (false, eval c X.env) :: starEach es X.env := by rfl) (hpl : (backTo pos (starEach es X.env)).any (·.1) = false := by rfl) : PE X (.Call (.Name x p) (c :: es) [] pos) (RdE X.K (mFnIO F i fd)) := s_fnIO (c'.mono hj) C.gd C.room hg hc ha hdb he hpl
/-! #### methods -/
theorem z_mth {gm : D → List D → Option Val} {m : Str} {apos : Pos} (G : MthD X m gm) (ho : PE X a (RdE X.K f)) (ha : PA X (c :: es) (RdA X.K fa)) (hbase : attributeBase a m X.env (eval a X.env) = eval a X.env := by rfl)
    (hfew : ((backTo pos (starEach (c :: es) X.env)).all (fun x => !x.1) && (backToKw pos (keywordEach [] X.env)).all (fun x => x.1.isSome)
      && decide ((c :: es).length + ([] : List Keyword).length + (if ([] : List Keyword).isEmpty then 0 else 1) < 30)) = true := by rfl)
    (hline : (apos.endLine == pos.line) = true := by rfl) (hs : starEach (c :: es) X.env = (false, eval c X.env) :: starEach es X.env := by rfl) (hplain : (backTo pos (starEach es X.env)).any (·.1) = false := by rfl) : PE X (.Call (.Attribute a m apos) (c :: es) [] pos) (RdE X.K (mMth gm f fa)) := s_mth G ho ha hbase hfew hline hs hplain
theorem z_mth0 {gm : D → List D → Option Val} {m : Str} {apos : Pos} (G : MthD X m gm) (ho : PE X a (RdE X.K f)) (hbase : attributeBase a m X.env (eval a X.env) = eval a X.env := by rfl) (hline : (apos.endLine == pos.line) = true := by rfl) : PE X (.Call (.Attribute a m apos) [] [] pos) (RdE X.K (mMth gm f mNilA)) := s_mth0 G ho hbase hline
theorem z_mut {gm : D → List D → Option (D × D)} {i : Nat} {m : Str} {apos : Pos} (G : MutD X m gm) (ho : PE X a (tVar i)) (ha : PA X (c :: es) (RdD X.K fd)) (hbase : attributeBase a m X.env (eval a X.env) = eval a X.env := by rfl)
    (hfew : ((backTo pos (starEach (c :: es) X.env)).all (fun x => !x.1) && (backToKw pos (keywordEach [] X.env)).all (fun x => x.1.isSome)
      && decide ((c :: es).length + ([] : List Keyword).length + (if ([] : List Keyword).isEmpty then 0 else 1) < 30)) = true := by rfl)
    (hline : (apos.endLine == pos.line) = true := by rfl) (hs : starEach (c :: es) X.env = (false, eval c X.env) :: starEach es X.env := by rfl) (hplain : (backTo pos (starEach es X.env)).any (·.1) = false := by rfl) : PE X (.Call (.Attribute a m apos) (c :: es) [] pos) (RdE X.K (mMut gm i fd)) := s_mut G ho ha hbase hfew hline hs hplain
theorem z_mut0 {gm : D → List D → Option (D × D)} {i : Nat} {m : Str} {apos : Pos} (G : MutD X m gm) (ho : PE X a (tVar i)) (hbase : attributeBase a m X.env (eval a X.env) = eval a X.env := by rfl) (hline : (apos.endLine == pos.line) = true := by rfl) : PE X (.Call (.Attribute a m apos) [] [] pos) (RdE X.K (mMut gm i mNilD)) := s_mut0 G ho hbase hline
/-! #### comprehensions -/
theorem z_comp {elt tg iter : Expr} {ifs : List Expr} {scope : Scope} {own : List (Str × Nat)} {fi : EvI} {bd : Bd} {us : List Nat} (C : Ctx X k) (hN : X.N.Nodup) (hi : PI X tg iter (RdI X.K fi)) (ok : blkC X.N X.env.scope scope own = true) (hus : us.all (fun j => (own.map (·.2)).contains j) = true)
    (hg : ∀ (s : Shared) (H : Hp) (C : Addr) (cl : List (Str × Addr)) (fp : List Addr), PG (X.blk s H scope (compEnvC scope cl C X.env) fp) tg (RdG X.K bd us)) (ht : ∀ (s : Shared) (H : Hp) (C' : Addr) (cl : List (Str × Addr)) (fp : List Addr), Ctx (X.blk s H scope (compEnvC scope cl C' X.env) fp) k → PTs (X.blk s H scope (compEnvC scope cl C' X.env) fp) ifs (RdT X.K t))
    (he : ∀ (s : Shared) (H : Hp) (C' : Addr) (cl : List (Str × Addr)) (fp : List Addr), Ctx (X.blk s H scope (compEnvC scope cl C' X.env) fp) k → PE (X.blk s H scope (compEnvC scope cl C' X.env) fp) elt (RdE X.K f)) (hs : ∀ x, foldedSetIterable iter X.env x = pure x := by intro _; rfl) :
    PE X (.ListComp elt [⟨tg, iter, ifs, 0⟩] scope pos) (RdE X.K (mComp fi bd t f (own.map (·.2)))) :=
  pe_weak (pe_lc C.calm hN hi (blkOk_by ok) hg (fun s H C' cl fp => ht s H C' cl fp (C.blk ..)) (fun s H C' cl fp => s_ret (he s H C' cl fp (C.blk ..))) hs) fun _ _ _ h => rd_comp (fun j hj => by
    have := List.all_eq_true.mp hus j hj
    exact List.contains_iff_mem.mp this) h
theorem y_setC {elt tg iter : Expr} {ifs : List Expr} {scope : Scope} {own : List (Str × Nat)} {fi : EvI} {bd : Bd} {us : List Nat} {i : Nat} {py spos : Pos} (C : Ctx X k) (hN : X.N.Nodup) (hi : PI X tg iter (RdI X.K fi)) (ok : blkC X.N X.env.scope scope own = true) (hus : us.all (fun j => (own.map (·.2)).contains j) = true)
    (hg : ∀ (s : Shared) (H : Hp) (C : Addr) (cl : List (Str × Addr)) (fp : List Addr), PG (X.blk s H scope (compEnvC scope cl C X.env) fp) tg (RdG X.K bd us)) (ht : ∀ (s : Shared) (H : Hp) (C' : Addr) (cl : List (Str × Addr)) (fp : List Addr), Ctx (X.blk s H scope (compEnvC scope cl C' X.env) fp) k → PTs (X.blk s H scope (compEnvC scope cl C' X.env) fp) ifs (RdT X.K t))
    (he : ∀ (s : Shared) (H : Hp) (C' : Addr) (cl : List (Str × Addr)) (fp : List Addr), Ctx (X.blk s H scope (compEnvC scope cl C' X.env) fp) k → PE (X.blk s H scope (compEnvC scope cl C' X.env) fp) elt (RdE X.K f)) (hs : ∀ x, foldedSetIterable iter X.env x = pure x := by intro _; rfl)
    (hy : X.N[i]? = some y := by rfl) (hyl : X.env.scope.names.lookup y = some .local := by rfl) (hsw : swapsWith (.ListComp elt [⟨tg, iter, ifs, 0⟩] scope pos) (some (.Name y py)) spos.line X.env = pure true := by rfl) :
    PS X (.Assign [.Name y py] (.ListComp elt [⟨tg, iter, ifs, 0⟩] scope pos) spos) (RdS X.K (xSet i (mComp fi bd t f (own.map (·.2))))) :=
  s_set (ps_setLc C.calm hN hy hyl hsw hi (blkOk_by ok) hg (fun s H C' cl fp => ht s H C' cl fp (C.blk ..)) (fun s H C' cl fp => s_ret (he s H C' cl fp (C.blk ..))) hs) fun _ _ _ h => rd_comp (fun j hj => by
    have := List.all_eq_true.mp hus j hj
    exact List.contains_iff_mem.mp this) h
theorem t_yes : PTs X [] (RdT X.K mYes) := ⟨fun pins s σ H Q I h => by
  obtain ⟨B, F, e, b, e', R, q, kk⟩ := h
  cases q
  exact pts_nil.run pins s σ H Q I (kk F H (.refl F) R)⟩
theorem t_if (h : PT X a (RdT X.K t)) : PTs X [a] (RdT X.K t) := pts_one h
/-! #### statements -/
theorem y_set {i : Nat} (hN : X.N.Nodup) (he : PE X a (RdE X.K f)) (hi : X.N[i]? = some x := by rfl) (hx : Loc X.env.scope x := by first | exact .inl rfl | exact .inr rfl) (hs : swapsWith a (some (.Name x p)) pos.line X.env = pure false := by rfl) (hf : X.fn x = true ∨ X.env.scope.names.lookup x = some .local := by first | exact .inl rfl | exact .inr rfl) :
    PS X (.Assign [.Name x p] a pos) (RdS X.K (xSet i f)) := s_set (ps_set hN hi hx he hs hf) fun _ _ _ h => h
theorem y_bind {tg : Expr} {bd : Bd} {vs : List Nat} (he : PE X a (RdE X.K f)) (hg : PG X tg (RdG X.K bd vs)) (hs : swapsWithSole [tg] a pos.line X.env = pure false := by rfl) (hw : swappedStores [tg] a X.env = pure none := by rfl)
    (h1 : (assignEach [tg] X.env).map (·.2) = [assign tg X.env] := by rfl) : PS X (.Assign [tg] a pos) (RdS X.K (xBind bd f)) := s_bind he hg hs hw h1
theorem y_put {o ix : Expr} {i : Nat} {pos' : Pos} (C : Ctx X k) (ho : PE X o (tVar i)) (hi : PE X ix (RdE X.K f)) (hv : PE X a (RdE X.K g)) (hs : swapsWithSole [.Subscript o ix pos'] a pos.line X.env = pure false := by rfl) (hw : swappedStores [.Subscript o ix pos'] a X.env = pure none := by rfl)
    (hsub : ∀ v, assign (.Subscript o ix pos') X.env v = (do
      let ov ← holding [v] (eval o X.env)
      let iv ← holding [v, ov] (eval ix X.env)
      standAt pos'
      holding [v, ov, iv] (setItem ov iv v)
      release [v, ov, iv] []) := by intro _; rfl) (h1 : (assignEach [.Subscript o ix pos'] X.env).map (·.2) = [assign (.Subscript o ix pos') X.env] := by rfl) : PS X (.Assign [.Subscript o ix pos'] a pos) (RdS X.K (xPut gSet i f g)) :=
  s_put (rSetA_ok C.hu) gSet_r ho hi hv hs hw hsub h1
theorem y_drop (h : PE X a (RdE X.K f)) (hs : swapsWith a none pos.line X.env = pure false := by rfl) : PS X (.Expr a pos) (RdS X.K (xDrop f)) := s_drop h hs
theorem y_for {tg iter : Expr} {body : List Stmt} {fi : EvI} {bd : Bd} {vs : List Nat} {xs : ExS} (hp : PassesOwn (model X.prog X.w) X.A X.env X.xe) (C : Ctx X k) (hi : PI X tg iter (RdI X.K fi)) (hg : PG X tg (RdG X.K bd vs)) (hb : PSs X body (RdS X.K xs))
    (hs : ∀ x, foldedSetIterable iter X.env x = pure x := by intro _; rfl) : PS X (.For tg iter body [] pos) (RdS X.K (xFor fi bd xs)) := s_for hp C.calm hi hg hb hs
/-! #### targets -/
theorem g_name {i : Nat} (hN : X.N.Nodup) (hi : X.N[i]? = some x := by rfl) (hx : Loc X.env.scope x := by first | exact .inl rfl | exact .inr rfl) (hf : X.fn x = true ∨ X.env.scope.names.lookup x = some .local := by first | exact .inl rfl | exact .inr rfl) : PG X (.Name x p) (RdG X.K (bName i) [i]) := sg_name hN hi hx hf
theorem gs_cons {bd : Bd} {bs : Bds} {vs us : List Nat} (h1 : PG X a (RdG X.K bd vs)) (h2 : PGs X es (RdGs X.K bs us)) (hs : (assignEach (a :: es) X.env).map (·.2) = assign a X.env :: (assignEach es X.env).map (·.2) := by rfl) : PGs X (a :: es) (RdGs X.K (bCons bd bs) (vs ++ us)) := sgs_cons h1 h2 hs
theorem g_tup {bs : Bds} {vs : List Nat} {n j : Nat} (C : Ctx X k) (h : PGs X es (RdGs X.K bs vs)) (hn : (assignEach es X.env).length = n := by rfl) (hst : (assignEach es X.env).findIdx? (·.1) = none := by rfl) : PG X (.Tuple es j pos) (RdG X.K (bTup n bs) vs) := sg_tup C.calm h hn hst
/-! #### sources -/
theorem i_r1 {tg : Expr} (m : X.mg "range" = none) (ha : PA X [c] (RdD X.K fd)) (hg : Gl X "range" := by rfl) (hs : starEach [c] X.env = [(false, eval c X.env)] := by rfl) : PI X tg (.Call (.Name "range" p) [c] [] pos) (RdI X.K (iRange1 fd)) := si_range1 hg m ha hs
theorem i_r2 {tg d : Expr} (m : X.mg "range" = none) (ha : PA X [c, d] (RdD X.K fd)) (hg : Gl X "range" := by rfl) (hs : starEach [c, d] X.env = [(false, eval c X.env), (false, eval d X.env)] := by rfl) (hs2 : starEach [d] X.env = [(false, eval d X.env)] := by rfl) : PI X tg (.Call (.Name "range" p) [c, d] [] pos) (RdI X.K (iRange2 fd)) := si_range2 hg m ha hs hs2
theorem i_en {elts : List Expr} {j : Nat} (m : X.mg "enumerate" = none) (ha : PA X [c] (RdD X.K fd)) (hg : Gl X "enumerate" := by rfl) (hs : starEach [c] X.env = [(false, eval c X.env)] := by rfl) : PI X (.Tuple elts j p2) (.Call (.Name "enumerate" p) [c] [] pos) (RdI X.K (iEnumD fd)) := si_enum hg m ha hs
theorem i_zip {elts : List Expr} {d : Expr} {j : Nat} (m : X.mg "zip" = none) (ha : PA X [c, d] (RdD X.K fd)) (hg : Gl X "zip" := by rfl) (hs : starEach [c, d] X.env = (false, eval c X.env) :: starEach [d] X.env := by rfl) (hpl : (backTo pos (starEach [d] X.env)).any (·.1) = false := by rfl) :
    PI X (.Tuple elts j p2) (.Call (.Name "zip" p) [c, d] [] pos) (RdI X.K (iZipD fd)) := si_zip hg m ha hs hpl
theorem i_items {elts : List Expr} {j : Nat} {apos : Pos} (h : PE X c (RdE X.K f)) (hbase : attributeBase c "items" X.env (eval c X.env) = eval c X.env := by rfl) (hline : (apos.endLine == pos.line) = true := by rfl) : PI X (.Tuple elts j p2) (.Call (.Attribute c "items" apos) [] [] pos) (RdI X.K (iItemsD f)) := si_items h hbase hline
theorem i_values {tg : Expr} {apos : Pos} (h : PE X c (RdE X.K f)) (hbase : attributeBase c "values" X.env (eval c X.env) = eval c X.env := by rfl) (hline : (apos.endLine == pos.line) = true := by rfl) : PI X tg (.Call (.Attribute c "values" apos) [] [] pos) (RdI X.K (iValuesD f)) := si_values h hbase hline
end
end Pv
end

section
set_option maxRecDepth 100000
set_option maxHeartbeats 4000000
namespace Pv
open PySem PySem.Spec PySem.W L2 PyProof.Rows
section
variable {X : Cx} {k : Nat} {a b c : Expr} {f g h : Ev} {fa : EvA} {fd : EvD} {p p1 p2 p3 pos : Pos} {es : List Expr}
theorem i_rN {tg d e : Expr} (m : X.mg "range" = none) (ha : PA X [c, d, e] (RdD X.K fd)) (hg : Gl X "range" := by rfl) (hs : starEach [c, d, e] X.env = (false, eval c X.env) :: starEach [d, e] X.env := by rfl) (hpl : (backTo pos (starEach [d, e] X.env)).any (·.1) = false := by rfl) :
    PI X tg (.Call (.Name "range" p) [c, d, e] [] pos) (RdI X.K (iRangeN fd)) := si_rangeN hg m ha (pi_range3 hg m ha hs hpl)
/-! ### list(range(..)) -/
def RgB (a b : Int) : Bool := B62 a && B62 b && decide ((b - a).toNat ≤ 16777216)
def mLr1 (f : Ev) : Ev := fun e => do
  let (x, e1) ← f e
  match x with
  | .fz (.int n) => if RgB 0 n then some (.own (.lst (rangeD 0 1 n.toNat)), e1) else none
  | _ => none
def mLr2 (f g : Ev) : Ev := fun e => do
  let (x, e1) ← f e
  match x with
  | .fz (.int i) => do
    let (y, e2) ← g e1
    match y with
    | .fz (.int n) => if RgB i n then some (.own (.lst (rangeD i 1 (n - i).toNat)), e2) else none
    | _ => none
  | _ => none
theorem rgB_ok {a b : Int} (h : RgB a b = true) : RgOk a b := by
  unfold RgB at h
  rw [Bool.and_eq_true, Bool.and_eq_true] at h
  obtain ⟨h1, h2⟩ := b62_ok h.1.1
  obtain ⟨h3, h4⟩ := b62_ok h.1.2
  exact ⟨h1, h2, h3, h4, by have := of_decide_eq_true h.2; omega⟩
theorem dens_rg {K : Fr} {F : Hp} (a b : Int) : Dens K F (rangeD a 1 (b - a).toNat) (rgV a b) := by
  unfold rangeD rgV
  exact Dens.map fun i _ => by rw [Int.mul_one]; exact .int _
theorem z_lr1 (C : Ctx X k) (ml : X.mg "list" = none) (m : X.mg "range" = none) (ha : PE X a (RdE X.K f)) (hgl : Gl X "list" := by rfl) (hg : Gl X "range" := by rfl) (na : starEach [a] X.env = (false, eval a X.env) :: starEach [] X.env := by rfl)
    (nb : starEach [.Call (.Name "range" p1) [a] [] p2] X.env = (false, eval (.Call (.Name "range" p1) [a] [] p2) X.env) :: starEach [] X.env := by rfl) : PE X (.Call (.Name "list" p) [.Call (.Name "range" p1) [a] [] p2] [] pos) (RdE X.K (mLr1 f)) :=
  pe_weak (pe_listRg C.calm hgl ml (prg_1 hg m ha na) nb) fun σ H Q ⟨B, F, e, x, e', R, q, kk⟩ => by
    obtain ⟨⟨va, e1⟩, q1, q⟩ := bindS q
    dsimp only at q
    split at q
    · split at q
      · rename_i n hb
        cases q
        refine ⟨B, F, e, _, _, R, q1, fun v F1 H1 s1 R1 V1 => ?_⟩
        cases (show Den X.K F1 (.int n) v from V1)
        refine ⟨n, rfl, rgB_ok hb, fun p hp => ?_⟩
        have x := Ext.new (o := .lst (rgV 0 n)) R1.sub hp
        have dr : Dens X.K F1 (rangeD 0 1 n.toNat) (rgV 0 n) := by have := dens_rg (K := X.K) (F := F1) 0 n; rwa [Int.sub_zero] at this
        exact kk _ _ _ (s1.trans x.f) (R1.ext x) ((R0.newL R1.sub hp dr).vok R1 x)
      · cases q
    · cases q
theorem z_lr2 (C : Ctx X k) (ml : X.mg "list" = none) (m : X.mg "range" = none) (ha : PE X a (RdE X.K f)) (hb : PE X b (RdE X.K g)) (hgl : Gl X "list" := by rfl) (hg : Gl X "range" := by rfl) (na : starEach [a, b] X.env = (false, eval a X.env) :: starEach [b] X.env := by rfl)
    (nb : starEach [b] X.env = (false, eval b X.env) :: starEach [] X.env := by rfl) (hp : (backTo p2 (starEach [b] X.env)).any (·.1) = false := by rfl)
    (nc : starEach [.Call (.Name "range" p1) [a, b] [] p2] X.env = (false, eval (.Call (.Name "range" p1) [a, b] [] p2) X.env) :: starEach [] X.env := by rfl) : PE X (.Call (.Name "list" p) [.Call (.Name "range" p1) [a, b] [] p2] [] pos) (RdE X.K (mLr2 f g)) :=
  pe_weak (pe_listRg C.calm hgl ml (prg_2 hg m ha hb na nb hp) nc) fun σ H Q ⟨B, F, e, x, e', R, q, kk⟩ => by
    obtain ⟨⟨va, e1⟩, q1, q⟩ := bindS q
    dsimp only at q
    split at q
    · rename_i i
      obtain ⟨⟨vb, e2⟩, q2, q⟩ := bindS q
      dsimp only at q
      split at q
      · split at q
        · rename_i n hb
          cases q
          refine ⟨B, F, e, _, _, R, q1, fun v F1 H1 s1 R1 V1 => ⟨B, F1, e1, _, _, R1, q2, fun w F2 H2 s2 R2 V2 => ?_⟩⟩
          cases (show Den X.K F1 (.int i) v from V1)
          cases (show Den X.K F2 (.int n) w from V2)
          refine ⟨i, n, rfl, rfl, rgB_ok hb, fun p hp => ?_⟩
          have x := Ext.new (o := .lst (rgV i n)) R2.sub hp
          exact kk _ _ _ ((s1.trans s2).trans x.f) (R2.ext x) ((R0.newL R2.sub hp (dens_rg i n)).vok R2 x)
        · cases q
      · cases q
    · cases q
/-! ### xs[::-1] -/
def mRev (f : Ev) : Ev := fun e => do
  let (x, e1) ← f e
  match look e1 x with
  | some (.lst ds) => some (.own (.lst ds.reverse), e1)
  | _ => none
theorem z_rev {j : Nat} (ha : PE X a (RdE X.K f)) : PE X (.Subscript a (.Slice none none (some (.UnaryOp .USub (.Constant (.int 1) j p1) p2)) p3) pos) (RdE X.K (mRev f)) :=
  pe_weak (pe_revL ha) fun σ H Q ⟨B, F, e, x, e', R, q, kk⟩ => by
    obtain ⟨⟨va, e1⟩, q1, q⟩ := bindS q
    dsimp only at q
    split at q
    · rename_i ds hl
      cases q
      refine ⟨B, F, e, _, _, R, q1, fun v F1 H1 s1 R1 V1 => ?_⟩
      obtain ⟨a, xs, rfl, h1, t⟩ := V1.view R1 hl
      refine ⟨a, xs, rfl, .inl h1, fun p hp => ?_⟩
      have x := Ext.new (o := .lst xs.reverse) R1.sub hp
      exact kk _ _ _ (s1.trans x.f) (R1.ext x) ((R0.newL R1.sub hp t.rev).vok R1 x)
    · cases q
/-! ### {}, {k: v} -/
def mNewD : Ev := fun e => some (.own (.dk []), e)
theorem z_newD : PE X (.Dict [] [] pos) (RdE X.K mNewD) := pe_weak pe_dnewK fun σ H Q ⟨B, F, e, x, e', R, q, kk⟩ => by
  cases q
  intro p hp
  have x := Ext.new (o := .dK []) R.sub hp
  have r0 : R0 X.K F H F (upd H p (.dK [])) (.ref p) (.own (.dk [])) := ⟨p, rfl, hp, R.sub.none hp, [], upd_same, .nil⟩
  exact kk _ F _ x.f (R.ext x) (r0.vok R x)
def mDisp1 (f g : Ev) : Ev := fun e => do
  let (x, e1) ← f e
  match x with
  | .fz d => match keyOf d with
    | some ky => do
      let (y, e2) ← mRet g e1
      match y with
      | .fz w => some (.own (.dk [(ky, w)]), e2)
      | _ => none
    | none => none
  | _ => none
theorem z_disp1 (ha : PE X a (RdE X.K f)) (hb : PE X b (RdE X.K g)) : PE X (.Dict [some a] [b] pos) (RdE X.K (mDisp1 f g)) :=
  pe_weak (pe_disp (pps_cons ha (s_ret hb) pps_nil) rfl rfl (by simp) (by simp)) fun σ H Q ⟨B, F, e, x, e', R, q, kk⟩ => by
    obtain ⟨⟨va, e1⟩, q1, q⟩ := bindS q
    dsimp only at q
    split at q
    · rename_i d
      split at q
      · rename_i ky hk
        obtain ⟨⟨vb, e2⟩, q2, q⟩ := bindS q
        obtain ⟨w, rfl⟩ := mRet_fz q2
        cases q
        intro p hp
        have x := Ext.new (o := .dK []) R.sub hp
        have hF : F p = none := R.sub.none hp
        have h0 : B.H0 p = none := by
          cases z : B.H0 p with
          | none => rfl
          | some o =>
            by_cases w : B.io = some p
            · exact absurd (.inl hp) (R.iof p w).2.1
            · rw [R.old p o z w] at hp; cases hp
        have hF0 : B.F0 p = none := R.inc.none hF
        have hio : B.io ≠ some p := fun z => (R.iof p z).2.1 (.inl hp)
        have nosl : ∀ i, (mutAt e i).isSome → σ[i]? ≠ some (some (.ref p)) := fun i hi z => by
          obtain ⟨d, hd⟩ := Option.isSome_iff_exists.mp hi
          obtain ⟨a, h1, _, h3, _⟩ := R.mutC hd
          rw [z] at h1; cases h1
          obtain ⟨o, ho⟩ := h3.some
          rw [hp] at ho; cases ho
        have R1 := (R.ext x).aside (D := p) (o := .dK []) upd_same hF h0 nosl
        refine ⟨_, F, e, _, e1, R1, q1, fun v F1 H1 s1 R2 V1 => ⟨_, F1, e1, _, _, R2, q2, fun u F2 H2 s2 R3 V2 => ?_⟩⟩
        have ev := keyOf_v (View.of R2.sub (show Den X.K F1 d v from V1)) hk
        subst ev
        obtain ⟨r1, r2, r3, r4⟩ := R3.back h0 hF0 hio (fun xs z => nomatch z)
        refine ⟨r2, [(ky, u)], rfl, by simp, ?_⟩
        have R4 := r1.other (o' := .dK [(ky, u)]) r2 r3 h0 r4
        have e0 : mergeK [] [(ky, u)] = [(ky, u)] := rfl
        rw [e0]
        exact kk _ F2 _ (s1.trans s2) R4 ⟨p, rfl, r3, h0, ⟨_, upd_same, .cons V2 .nil⟩, r4⟩
      · cases q
    · cases q
/-! ### a table of the module: PARTS.get(k, d) -/
structure KTab (K : Fr) (w : World) (d : Addr) (es : List (Str × D)) : Prop where
  ex : ∃ (ds : Array DictEntry) (n : Nat), KDict K w d ds n
  at_ : ∀ q ∈ es, ∃ (u : Value) (v : V), PySem.W.nsIn K d q.1 = some (some u) ∧ RelV v u ∧ ∀ F, Den K F q.2 v
def mTab (es : List (Str × D)) (f g : Ev) : Ev := fun e => do
  let (x, e1) ← mArg f e
  let (y, e2) ← mArg g e1
  match x with
  | .fz (.str z) => match es.find? (fun q => decide (q.1 = z)) with
    | some q => some (.fz q.2, e2)
    | none => none
  | _ => none
def rTab (K : Fr) (d : Addr) : V → List V → Hp → VK → Prop := fun x vs H Q => ∃ (z : Str) (y : V) (u : Value) (v : V), x = .ref d ∧ vs = [.str z, y] ∧ PySem.W.nsIn K d z = some (some u) ∧ RelV v u ∧ Q v H
theorem mt_tab {d : Addr} {ds : Array DictEntry} {n : Nat} (D : KDict X.K X.w d ds n) : MtR X "dict.get" (rTab X.K d) := by
  intro pins s σ H x vs v us Q I rx rv h
  obtain ⟨z, y, u, w, rfl, rfl, e, r, q⟩ := h
  cases rx
  obtain ⟨u1, u2, rfl, ru, _⟩ := rv.two
  obtain ⟨t, rfl⟩ := ru
  have M := PySem.W.mapOf_K (prog := X.prog) (w := X.w) I.kIn D.at_ D.lit
  refine call_meetsIn PySem.F.slot_dict_get (kd_type D I) PySem.F.entry_dict_get (PySem.F.args_dict_get_3 _ _ _) (meets_dict_get_default _ d (PySem.strKind_is X.prog X.w z t) D.low u2) ⟨_, M, ?_⟩
  have ef := PySem.W.find_K D.at_ e
  rw [ef]
  exact ⟨w, H, I.tok _, r, q⟩
theorem z_tab {x : Str} {d : Addr} {tb : List (Str × Pv.D)} {apos : Pos} (T : KTab X.K X.w d tb) (m : X.mg x = some (.ref d)) (ha : PE X a (RdE X.K f)) (hb : PE X b (RdE X.K g)) (hg : Gl X x := by rfl) (hd : (x == ("__debug__" : Str)) = false := by decide)
    (hbase : attributeBase (.Name x p) "get" X.env (eval (.Name x p) X.env) = eval (.Name x p) X.env := by rfl)
    (hfew : ((backTo pos (starEach [a, b] X.env)).all (fun x => !x.1) && (backToKw pos (keywordEach [] X.env)).all (fun x => x.1.isSome)
      && decide (([a, b] : List Expr).length + ([] : List Keyword).length + (if ([] : List Keyword).isEmpty then 0 else 1) < 30)) = true := by rfl)
    (hline : (apos.endLine == pos.line) = true := by rfl) (hs : starEach [a, b] X.env = (false, eval a X.env) :: starEach [b] X.env := by rfl) (hs2 : starEach [b] X.env = (false, eval b X.env) :: starEach [] X.env := by rfl) (hplain : (backTo pos (starEach [b] X.env)).any (·.1) = false := by rfl) :
    PE X (.Call (.Attribute (.Name x p) "get" apos) [a, b] [] pos) (RdE X.K (mTab tb f g)) := by
  obtain ⟨ds, n, D⟩ := T.ex
  refine pe_weak (pe_mth (pe_glob (v := .ref d) hg m rfl hd) (pa_cons (s_arg ha) (pa_cons (s_arg hb) pa_nil hs2) hs) hbase hfew hline hs hplain) fun σ H Q ⟨B, F, e, y, e', R, q, kk⟩ => ?_
  obtain ⟨⟨va, e1⟩, q1, q⟩ := bindS q
  obtain ⟨⟨vb, e2⟩, q2, q⟩ := bindS q
  dsimp only at q
  split at q
  · rename_i z _
    split at q
    · rename_i r hr
      cases q
      refine ⟨"dict", _, rTab X.K d, ⟨PySem.F.plainAttrs_dict, PySem.F.slot_dict_get, PySem.F.type_dict_get, mt_tab D⟩, ?_, B, F, e, _, e1, R, q1, fun v F1 H1 s1 R1 V1 => ⟨B, F1, e1, vb, _, R1, q2, fun w F2 H2 s2 R2 V2 => ?_⟩⟩
      · intro pins s σ v I r
        cases r
        refine ⟨kd_type D I, fun a ea => ?_⟩
        cases ea
        exact ⟨_, I.kIn _ _ D.at_, rfl⟩
      · cases (show Den X.K F1 (.str z) v from V1)
        have hm := List.mem_of_find?_eq_some hr
        have hz := of_decide_eq_true (List.find?_some (p := fun (q : Str × Pv.D) => decide (q.1 = z)) hr)
        obtain ⟨u, vv, h1, h2, h3⟩ := T.at_ r hm
        rw [hz] at h1
        exact ⟨z, w, u, vv, rfl, rfl, h1, h2, kk vv F2 H2 (s1.trans s2) R2 (h3 F2)⟩
    · cases q
  · cases q
end
end Pv
end

section
set_option maxRecDepth 100000
set_option maxHeartbeats 4000000
namespace Pv
open PySem PySem.Spec L2 PyProof.Rows

/-! ### a law's end, over defs that run where no repr is under way -/
section
variable {P : Program} {w : World} {K : Fr} {mg mb : Str → Option Value} {k : Nat} {fa a : Addr} {fd : FuncData} {x : Str} {sp : Sp} {s₁ : Shared} {vs : List Value} {ns : List Int}
/-- the heap behind the top, seen through H: nothing but the script at a may be tracked -/
structure Seen (P : Program) (w : World) (K : Fr) (s₁ : Shared) (a : Addr) (vs : List Value) (ns : List Int) (H : Hp) : Prop where
  hok : HOk P w H s₁.heap
  sq : SqL K H a (ns.map V.int)
  only : ∀ b, H b = none ∨ (b = a ∧ K.lookup a = none ∧ ∃ o xs, H b = some (.frz o (.lst xs)))
theorem seen (KX : K.In s₁.heap) (ha : s₁.heap.get? a = some { cls := .type "list", data := .seq vs.toArray }) (hi : IntsAre vs ns) (hl : ns.length ≤ sizeLine) : ∃ H, Seen P w K s₁ a vs ns H := by
  have rv := vals_ints hi
  cases hk : K.lookup a with
  | some o =>
    have e := KX a o hk
    rw [ha] at e
    cases e
    refine ⟨fun _ => none, fun b u z => (nomatch z), .inr ⟨_, vs.toArray, _, hk, rfl, rfl, rfl, ?_, rv⟩, fun b => .inl rfl⟩
    rw [List.size_toArray, hi.length]; exact hl
  | none =>
    refine ⟨upd (fun _ => none) a (.frz { cls := .type "list", data := .seq vs.toArray } (.lst (ns.map V.int))), fun b u z => ?_, .inl (.inr ⟨_, upd_same⟩), fun b => ?_⟩
    · by_cases hb : b = a
      · subst hb
        rw [upd_same] at z
        cases z
        exact ⟨ha, by rw [List.length_map]; exact hl, vs, _, rv, ha⟩
      · rw [upd_ne hb] at z; cases z
    · by_cases hb : b = a
      · exact .inr ⟨hb, hk, by rw [hb]; exact ⟨_, _, upd_same⟩⟩
      · exact .inl (upd_ne hb)
theorem law_G (KX : K.In s₁.heap) (hns : s₁.heap.Ns mainGlobals mg) (hb : s₁.heap.Ns builtinsNs mb) (hbb : ∀ x : Str, x ≠ "__name__" → mb x = bootBuiltins x) (hlim : s₁.heap.NoLimit) (hg : s₁.gens = #[])
    (ha : s₁.heap.get? a = some { cls := .type "list", data := .seq vs.toArray }) (hi : IntsAre vs ns) (hl : ns.length ≤ sizeLine) (hr : Room k callerA)
    (F : ∀ base : Heap, K.In base → base.Ns mainGlobals mg → FnG P w K mg base k fa fd [x] sp) (hbind : ∀ (s : Shared) (u : Value), BindsTo s fd ⟨[u], []⟩ [(x, u)])
    (hsp : ∀ H : Hp, SqL K H a (ns.map V.int) → sp [.ref a] H (fun v _ => v = .bl true) fun _ _ _ => False) :
    codeAny (model P w) callerA (.call (.ref fa) ⟨[.ref a], []⟩) (fun r s' => r = .ok (.ret (.bool true)) ∧ OldK s₁.heap s'.heap ∧ s'.os = s₁.os ∧ AllBare s'.gens) s₁ := by
  obtain ⟨H, S⟩ := seen (P := P) (w := w) KX ha hi hl
  have unseen : ∀ {b : Addr} {o : Obj}, s₁.heap.get? b = some o → (∃ es ep, o.data = .dict es ep) ∨ K.lookup b = some o → H b = none := fun {b o} e d => by
    rcases S.only b with z | ⟨rfl, hk, _⟩
    · exact z
    · rcases d with ⟨es, ep, d⟩ | d
      · rw [ha] at e
        cases e
        have d' : Data.seq vs.toArray _ = Data.dict es ep := d
        cases d'
      · rw [hk] at d; cases d
  have ns' : ∀ {b : Addr} {m : Str → Option Value}, s₁.heap.Ns b m → (hidT s₁.heap H).Ns b m := fun {b m} ⟨o, es, ep, e, d, r⟩ => ⟨o, es, ep, hidT_get e (unseen e (.inl ⟨es, ep, d⟩)), d, r⟩
  have kin : K.In (hidT s₁.heap H) := fun b o e => hidT_get (KX b o e) (unseen (KX b o e) (.inr e))
  obtain ⟨mc, l1, l2⟩ := hlim
  have e0 : Env0 P w K mg (hidT s₁.heap H) callerA [] s₁ H :=
    ⟨rfl, ⟨kin, ns' hns, ⟨mb, ns' hb, hbb⟩, ⟨mc, ns' l1, l2⟩⟩, fun b o e => of_hidT e, Nat.le_of_eq (hidT_size _ _), trivial, fun b z => (nomatch z), S.hok, .of_eq hg⟩
  refine codeAny_mono ((F _ kin (ns' hns)).run callerA [] s₁ H ⟨[.ref a], []⟩ [.ref a] [.ref a] _ _ rfl hr e0 (hbind s₁ (.ref a)) (.cons rfl .nil) (hsp H S.sq)) fun r s' h => ?_
  match r, h with
  | .ok (.ret u), ⟨v, H', os, bare, un, hok', r', q⟩ =>
    have q : v = .bl true := q
    subst q
    obtain rfl : u = Value.bool true := r'
    refine ⟨rfl, OldK.of_keep fun b o e => ?_, os, bare⟩
    rcases S.only b with z | ⟨_, _, ob, xs, z⟩
    · exact un.keep b o e z (fun z => nomatch z) (fun z => nomatch z)
    · obtain ⟨e1, _⟩ := S.hok b _ z
      obtain ⟨e2, _⟩ := hok' b _ (un.frzs b ob _ z)
      rw [e] at e1; cases e1
      exact e2
end
/-- a law: F gives the written part, the function object, the def's promise over every base; m answers True -/
theorem walk_G {l : PySem.W.OpenLaw} {n k : Nat} {q : Program} {loose : List Str} {XP : (Str → Option Value) → Heap → Prop} {YP : World → Heap → Prop} {d : DefRec} {x : Str} {m : FRun}
    (hn : l.most = some n) (hn2 : n ≤ sizeLine) (hdf : d.params.defaults = []) (hr : Room k callerA)
    (F : ∀ (w : World) (mg : Str → Option Value) (fa : Addr) (h : Heap), YP w h → h.Ns mainGlobals mg → mg d.name = some (.ref fa) →
      ∃ (K : Fr) (fd : FuncData), K.In h ∧ (∀ (s : Shared) (u : Value), BindsTo s fd ⟨[u], []⟩ [(x, u)]) ∧
        ∀ base : Heap, K.In base → base.Ns mainGlobals mg → FnG l.prog w K mg base k fa fd [x] (spN K m))
    (hm : ∀ ns : List Int, ns.length ≤ n → m [.scr (ns.map .int)] = some ⟨.fz (.bl true), .non⟩) :
    PySem.W.WalkO q loose XP YP l.row.toRowW d [] (fun f vs => PySem.call f vs) := by
  refine Att.attach_call hn hdf fun w s₀ s₁ mg mb fa o pm cd doc a vs ns G Y ho hd hcd hmg hobj hints hlen hg => ?_
  obtain ⟨K, fd, KX, hb, hF⟩ := F w mg fa _ Y G.T.g hmg
  refine law_G KX G.T.g G.T.b G.T.builtins G.T.nolimit hg hobj hints (Nat.le_trans hlen hn2) hr hF hb fun H hS => ?_
  refine ⟨H, [.scr (ns.map .int)], _, .refl H, .cons (.scr hS ?_) .nil, hm ns hlen, fun v F' H' _ r0 => ?_⟩
  · exact Dens.map fun i _ => .int i
  · cases (show Den K F' (.bl true) v from r0); rfl
section
variable {P : Program} {w : World} {K : Fr} {mg : Str → Option Value} {base : Heap} {f : Addr} {fd : FuncData} {x : Str} {params : Arguments} {body : List Stmt} {scope : Scope}
theorem fn_N {N ps : List Str} {np n k : Nat} {xs : ExS} {m : FRun} (F : FunD K x x params body scope [] [] f fd) (hm : m = runN xs np n) (hn : N.length = n) (hl : np ≤ n) (hp : ps.length = np) (S : FnScope N ps scope)
    (h : ∀ (cdv : Value) (A : Around) (outer : List Env) (s : Shared) (H : Hp) (E : XK), (A.deeper (envOfC x scope s.heap.objs.size f cdv)).guards = some [] → Room k (A.deeper (envOfC x scope s.heap.objs.size f cdv)) → PSs (cxOf CX0 P w K mg base N x scope f cdv A outer s H E).nox body (RdS K xs)) : FnG P w K mg base (k + 1) f fd ps (spN K m) :=
  fnG_of F S (fun vs H Q E ⟨F, ds, r, s, dn, q, _⟩ => by rw [dn.length, hp]; exact runN_len (hm ▸ q)) (fun cdv A outer s H vs Q E hgd hr hsp => ⟨_, PSs.nox (h cdv A outer s H E hgd hr), body_N hm hn hl hsp⟩)
end
/-- of a def that may be called: its object -/
theorem Cal.fn {P : Program} {w : World} {K : Fr} {mg : Str → Option Value} {base : Heap} {k : Nat} {x : Str} {sp : Sp} {f : Addr} (c : Cal P w K mg base k x sp) (h : mg x = some (.ref f)) : ∃ fd ps, FnG P w K mg base k f fd ps sp := by
  obtain ⟨f', fd, ps, F, e, _⟩ := c.ex
  rw [h] at e; cases e
  exact ⟨fd, ps, F⟩
end Pv
end

section
set_option maxRecDepth 100000
set_option maxHeartbeats 4000000
namespace Pv
open PySem PySem.Spec L2 PyProof.Rows He

/-! ### a head's hook: defs, facts, tables with their values -/
abbrev TabV : Type := Str × List (Str × Dv)
def tabs (vl : List TabV) : List Tab := vl.map fun q => (fun K => ga K q.1, q.2.map (·.1))
def obsP (fa : List Fa) (fn : List DefD) (vl : List TabV) (K : Fr) : AlT × Bool := (obsT fa fn (tabs vl) K, vl.all fun q => valsB K (ga K q.1) q.2 && eqO (PySem.W.nsIn K mainGlobals q.1) (some (some (.ref (ga K q.1)))))
def SaysP (fa : List Fa) (fn : List DefD) (vl : List TabV) (w : World) (K : Fr) : Prop := obsP fa fn vl K = (valT fn (tabs vl) w, true)
def obsPG (n : Nat) (fa : List Fa) (fn : List DefD) (vl : List TabV) (g : Addr → Option Obj) : AlT × Bool := obsP fa fn vl (frG g (asD g n))
def hookP (n : Nat) (fa : List Fa) (fn : List DefD) (vl : List TabV) : PySem.W.Hook where
  α := AlT × Bool
  obs := fun s => obsPG n fa fn vl s.heap.get?
  val := fun w => (valT fn (tabs vl) w, true)
  says := fun w h => ∃ K : Fr, K.In h ∧ SaysP fa fn vl w K
  of := fun _ _ e => ⟨_, frG_in, e⟩
  keeps := fun _ _ _ ⟨K, hK, c⟩ k => ⟨K, PySem.W.Frag.In.keeps hK k, c⟩
theorem obsPG_eq {n : Nat} {fa : List Fa} {fn : List DefD} {vl : List TabV} {g : Addr → Option Obj} {s : Shared} (h : ∀ a, g a = s.heap.get? a) : obsPG n fa fn vl g = (hookP n fa fn vl).obs s := by
  have e : g = s.heap.get? := funext h
  rw [e] <;> rfl
section
variable {fa : List Fa} {fn : List DefD} {vl : List TabV} {w : World} {K : Fr}
theorem SaysP.t (c : SaysP fa fn vl w K) : SaysT fa fn (tabs vl) w K := congrArg (fun z : AlT × Bool => z.1) c
theorem SaysP.d (c : SaysP fa fn vl w K) : SaysD fa fn K := c.t.d
def dOf : Dv → D
  | .int i => .int i
  | .str x => .str x
  | .bl b => .bl b
  | _ => .non
def dvOk : Dv → Bool
  | .int _ => true
  | .str _ => true
  | .bl _ => true
  | .non => true
  | _ => false
theorem SaysP.tab {h : Heap} {mg : Str → Option Value} (c : SaysP fa fn vl w K) (X : K.In h) (G : h.Ns mainGlobals mg) (i : Nat) {q : TabV} (e : vl[i]? = some q) (ok : q.2.all (fun r => dvOk r.2) = true) :
    KTab K w (ga K q.1) (q.2.map fun r => (r.1, dOf r.2)) ∧ mg q.1 = some (.ref (ga K q.1)) := by
  have c2 : (vl.all fun q => valsB K (ga K q.1) q.2 && eqO (PySem.W.nsIn K mainGlobals q.1) (some (some (.ref (ga K q.1))))) = true := congrArg (fun z : AlT × Bool => z.2) c
  have c3 := List.all_eq_true.mp c2 q (List.mem_of_getElem? e)
  rw [Bool.and_eq_true] at c3
  have et : (tabs vl)[i]? = some (fun K => ga K q.1, q.2.map (·.1)) := by unfold tabs; rw [List.getElem?_map, e]; rfl
  refine ⟨⟨c.t.tab i et, fun r hr => ?_⟩, PySem.W.mg_of X G (eqO_ok c3.2)⟩
  obtain ⟨r', hr', rfl⟩ := List.mem_map.mp hr
  obtain ⟨u, h1, h2⟩ := valsB_ok c3.1 hr'
  refine ⟨u, _, h1, h2, fun F => ?_⟩
  have o := List.all_eq_true.mp ok r' hr'
  generalize r'.2 = dv at o h2
  cases dv with
  | int i => exact .int i
  | str i => exact .str i
  | bl i => exact .bl i
  | non => exact .non
  | _ => cases o
end
end Pv
end

section
set_option maxRecDepth 100000
set_option maxHeartbeats 4000000
namespace Pv
open PySem PySem.Spec PySem.W L2 PyProof.Rows
def top (i : Nat) : Stmt := PySem.Challenge.pw_everyslipcaught_k62_whole_fairness_of_fi.main.body.getD i (.Pass ⟨0, 0, 0, 0⟩)
def tb_PARTS : List (Str × D) := [("weights", .int 5), ("tables", .int 5), ("square", .int 5), ("value", .int 4)]
def ad_PARTS (K : Fr) : Addr := He.ga K "PARTS"
structure Gs (w : World) (K : Fr) (mg : Str → Option Value) : Prop where
  g_len : mg "len" = none
  g_min : mg "min" = none
  g_max : mg "max" = none
  g_list : mg "list" = none
  g_range : mg "range" = none
  g_int : mg "int" = none
  g_abs : mg "abs" = none
  g_sum : mg "sum" = none
  g_isinstance : mg "isinstance" = none
  g_bool : mg "bool" = none
  g_tuple : mg "tuple" = none
  g_all : mg "all" = none
  g_VALUE : ∃ t, mg "VALUE" = some (.str "value" t)
  g_MOST_SIZE : ∃ t, mg "MOST_SIZE" = some (.int 12 t)
  g_WEIGHTS : ∃ t, mg "WEIGHTS" = some (.str "weights" t)
  g_MOST_WHOLE : ∃ t, mg "MOST_WHOLE" = some (.int 97 t)
  g_LEAST_WHOLE : ∃ t, mg "LEAST_WHOLE" = some (.int 2 t)
  g_SQUARE : ∃ t, mg "SQUARE" = some (.str "square" t)
  g_PARTS : KTab K w (ad_PARTS K) tb_PARTS ∧ mg "PARTS" = some (.ref (ad_PARTS K))
  g_MOST_BASE : ∃ t, mg "MOST_BASE" = some (.int 16 t)
  g_LEAST_BASE : ∃ t, mg "LEAST_BASE" = some (.int 2 t)
  g_str : mg "str" = none
  g_MOST_LABELS : ∃ t, mg "MOST_LABELS" = some (.int 5000 t)
  g_TABLES : ∃ t, mg "TABLES" = some (.str "tables" t)
  g_enumerate : mg "enumerate" = none
  g_repr : mg "repr" = none
section
variable {P : Program} {w : World} {K : Fr} {mg : Str → Option Value} {base : Heap}
/-! ### _law_cells -/
def x__law_cells : ExS := xRet (mLr1 (mCall dMax (mConsA (mFz (.int 1)) (mConsA (mCall dMin (mConsA (mVar 1) (mConsA (mCall dLen (mConsA (mVar 0) (mNilA))) (mNilA)))) (mNilA)))))
def m__law_cells : FRun := runN x__law_cells 2 2
theorem sc__law_cells : FnScope ["script", "most"] ["script", "most"] (defScope (top 54)) := C8.fnScope_by (by decide +kernel)
set_option maxRecDepth 100000 in
theorem b__law_cells (G : Gs w K mg)  {f : Addr} {fd : FuncData} (F : FunD K "_law_cells" "_law_cells" (defArgs (top 54)) (defBody (top 54)) (defScope (top 54)) [] [] f fd) (hm : mg "_law_cells" = some (.ref f)) : Cal P w K mg base 1 "_law_cells" (spN K m__law_cells) :=
  def_N (N := ["script", "most"]) (ps := ["script", "most"]) F (xs := x__law_cells) (np := 2) (n := 2) rfl rfl (by decide) rfl sc__law_cells hm (fun _ _ _ _ _ _ us hl => match us, hl with | [_, _], _ => rfl) fun cdv A outer s H E hgd hr => by
    have C : Ctx (cxOf CX0 P w K mg base ["script", "most"] "_law_cells" (defScope (top 54)) f cdv A outer s H E).nox 0 := ⟨rfl, hgd, hr⟩
    have nd : (["script", "most"] : List Str).Nodup := sc__law_cells.nd
    unfold x__law_cells
    exact ss_one (s_return (z_lr1 C G.g_list G.g_range (z_max C G.g_max (a_cons (z_int) (a_cons (z_min C G.g_min (a_cons (s_var (pv 1)) (a_cons (z_len G.g_len (a_cons (s_var (pv 0)) (sa_nil))) (sa_nil)))) (sa_nil))))))
/-! ### _law_pot -/
def x__law_pot : ExS := xSeq (xSet 2 (mIf (mTestB (mBin dLt (mVar 1) (mCall dLen (mConsA (mVar 0) (mNilA))))) (mBin dIx (mVar 0) (mVar 1)) (mBin dAdd (mBin dAdd (mBin dMod (mCall dSum (mConsA (mSlice dSl (mVar 0) (mNoO) (mSomeO (mFz (.int 1)))) (mNilA))) (mFz (.int 1000319))) (mBin dMul (mFz (.int 5113)) (mVar 1))) (mFz (.int 811))))) (xSeq (xSet 3 (mBin dMul (mBin dMod (mCall dInt (mConsA (mCall dAbs (mConsA (mVar 2) (mNilA))) (mNilA))) (mBin dPow (mBin dPow (mFz (.int 10)) (mFz (.int 60))) (mFz (.int 5)))) (mCall dInt (mConsA (mBin dGe (mCall dAbs (mConsA (mVar 2) (mNilA))) (mBin dPow (mFz (.int 10)) (mFz (.int 18)))) (mNilA))))) (xSeq (xSet 4 (mBin dMod (mCall dInt (mConsA (mVar 2) (mNilA))) (mFz (.int 2305843009213693951)))) (xRet (mLst (mConsD (mVar 3) (mConsD (mBin dMod (mCall dInt (mConsA (mBin dAdd (mBin dAdd (mBin dMul (mVar 4) (mFz (.int 66301))) (mBin dMul (mBin dMul (mFz (.int 6791)) (mVar 1)) (mVar 1))) (mFz (.int 977))) (mNilA))) (mFz (.int 2305843009213693921))) (mConsD (mFz (.int 0)) (mNilD))))))))
def m__law_pot : FRun := runN x__law_pot 2 5
theorem sc__law_pot : FnScope ["script", "place", "cell", "own", "small"] ["script", "place"] (defScope (top 50)) := C8.fnScope_by (by decide +kernel)
set_option maxRecDepth 100000 in
theorem b__law_pot (G : Gs w K mg)  {f : Addr} {fd : FuncData} (F : FunD K "_law_pot" "_law_pot" (defArgs (top 50)) (defBody (top 50)) (defScope (top 50)) [] [] f fd) (hm : mg "_law_pot" = some (.ref f)) : Cal P w K mg base 1 "_law_pot" (spN K m__law_pot) :=
  def_N (N := ["script", "place", "cell", "own", "small"]) (ps := ["script", "place"]) F (xs := x__law_pot) (np := 2) (n := 5) rfl rfl (by decide) rfl sc__law_pot hm (fun _ _ _ _ _ _ us hl => match us, hl with | [_, _], _ => rfl) fun cdv A outer s H E hgd hr => by
    have C : Ctx (cxOf CX0 P w K mg base ["script", "place", "cell", "own", "small"] "_law_pot" (defScope (top 50)) f cdv A outer s H E).nox 0 := ⟨rfl, hgd, hr⟩
    have nd : (["script", "place", "cell", "own", "small"] : List Str).Nodup := sc__law_pot.nd
    unfold x__law_pot
    exact ss_cons (y_set (i := 2) nd (s_ite (t_lt (s_var (pv 1)) (z_len G.g_len (a_cons (s_var (pv 0)) (sa_nil)))) (z_ix C (s_var (pv 0)) (s_var (pv 1))) (z_add (z_add (z_mod (z_sum C G.g_sum (a_cons (z_sl (s_var (pv 0)) (so_none) (so_some (z_int))) (sa_nil))) (z_int)) (z_mul (z_int) (s_var (pv 1)))) (z_int)))) (ss_cons (y_set (i := 3) nd (z_mul (z_mod (z_cint G.g_int (a_cons (z_abs G.g_abs (a_cons (s_var (pv 2)) (sa_nil))) (sa_nil))) (z_pow (z_pow (z_int) (z_int)) (z_int))) (z_cint G.g_int (a_cons (z_ge (z_abs G.g_abs (a_cons (s_var (pv 2)) (sa_nil))) (z_pow (z_int) (z_int))) (sa_nil))))) (ss_cons (y_set (i := 4) nd (z_mod (z_cint G.g_int (a_cons (s_var (pv 2)) (sa_nil))) (z_int))) (ss_one (s_return (s_lst (d_cons (s_var (pv 3)) (d_cons (z_mod (z_cint G.g_int (a_cons (z_add (z_add (z_mul (s_var (pv 4)) (z_int)) (z_mul (z_mul (z_int) (s_var (pv 1))) (s_var (pv 1)))) (z_int)) (sa_nil))) (z_int)) (d_cons (z_int) (sd_nil)))))))))
/-! ### is_integer -/
def x_is_integer : ExS := xRet (mAndV (mIsi "int" (mVar 0)) (mNotB (mIsi "bool" (mVar 0))))
def m_is_integer : FRun := runN x_is_integer 1 1
theorem sc_is_integer : FnScope ["value"] ["value"] (defScope (top 8)) := C8.fnScope_by (by decide +kernel)
set_option maxRecDepth 100000 in
theorem b_is_integer (G : Gs w K mg)  {f : Addr} {fd : FuncData} (F : FunD K "is_integer" "is_integer" (defArgs (top 8)) (defBody (top 8)) (defScope (top 8)) [] [] f fd) (hm : mg "is_integer" = some (.ref f)) : Cal P w K mg base 1 "is_integer" (spN K m_is_integer) :=
  def_N (N := ["value"]) (ps := ["value"]) F (xs := x_is_integer) (np := 1) (n := 1) rfl rfl (by decide) rfl sc_is_integer hm (fun _ _ _ _ _ _ us hl => match us, hl with | [_], _ => rfl) fun cdv A outer s H E hgd hr => by
    have C : Ctx (cxOf CX0 P w K mg base ["value"] "is_integer" (defScope (top 8)) f cdv A outer s H E).nox 0 := ⟨rfl, hgd, hr⟩
    have nd : (["value"] : List Str).Nodup := sc_is_integer.nd
    unfold x_is_integer
    exact ss_one (s_return (s_and (z_isi (T := "int") G.g_isinstance G.g_int (s_var (pv 0))) (s_one (s_not (z_isi (T := "bool") G.g_isinstance G.g_bool (s_var (pv 0)))))))
/-! ### is_between -/
def x_is_between : ExS := xRet (mAndV (mFn m_is_integer (mConsA (mVar 0) (mNilA))) (mChain dLe dLe (mVar 1) (mVar 0) (mVar 2)))
def m_is_between : FRun := runN x_is_between 3 3
theorem sc_is_between : FnScope ["value", "low", "high"] ["value", "low", "high"] (defScope (top 9)) := C8.fnScope_by (by decide +kernel)
set_option maxRecDepth 100000 in
theorem b_is_between (c_is_integer : Cal P w K mg base 1 "is_integer" (spN K m_is_integer)) {f : Addr} {fd : FuncData} (F : FunD K "is_between" "is_between" (defArgs (top 9)) (defBody (top 9)) (defScope (top 9)) [] [] f fd) (hm : mg "is_between" = some (.ref f)) : Cal P w K mg base 2 "is_between" (spN K m_is_between) :=
  def_N (N := ["value", "low", "high"]) (ps := ["value", "low", "high"]) F (xs := x_is_between) (np := 3) (n := 3) rfl rfl (by decide) rfl sc_is_between hm (fun _ _ _ _ _ _ us hl => match us, hl with | [_, _, _], _ => rfl) fun cdv A outer s H E hgd hr => by
    have C : Ctx (cxOf CX0 P w K mg base ["value", "low", "high"] "is_between" (defScope (top 9)) f cdv A outer s H E).nox 1 := ⟨rfl, hgd, hr⟩
    have nd : (["value", "low", "high"] : List Str).Nodup := sc_is_between.nd
    unfold x_is_between
    exact ss_one (s_return (s_and (z_fn C c_is_integer (by decide) (a_cons (s_var (pv 0)) (sa_nil))) (s_one (z_lele (s_var (pv 1)) (s_var (pv 0)) (s_var (pv 2))))))
/-! ### are_between -/
def x_are_between_1 : Ev := mFn m_is_between (mConsA (mVar 3) (mConsA (mVar 1) (mConsA (mVar 2) (mNilA))))
def x_are_between : ExS := xRet (mAndV (mIsi "tuple" (mVar 0)) (mCall dAll (mConsA (mComp (iSeq (mVar 0)) (bName 3) (mYes) (x_are_between_1) [3]) (mNilA))))
def m_are_between : FRun := runN x_are_between 3 4
theorem sc_are_between : FnScope ["value", "low", "high", "one"] ["value", "low", "high"] (defScope (top 10)) := C8.fnScope_by (by decide +kernel)
set_option maxRecDepth 100000 in
theorem b_are_between (G : Gs w K mg) (c_is_between : Cal P w K mg base 2 "is_between" (spN K m_is_between)) {f : Addr} {fd : FuncData} (F : FunD K "are_between" "are_between" (defArgs (top 10)) (defBody (top 10)) (defScope (top 10)) [] [] f fd) (hm : mg "are_between" = some (.ref f)) : Cal P w K mg base 3 "are_between" (spN K m_are_between) :=
  def_N (N := ["value", "low", "high", "one"]) (ps := ["value", "low", "high"]) F (xs := x_are_between) (np := 3) (n := 4) rfl rfl (by decide) rfl sc_are_between hm (fun _ _ _ _ _ _ us hl => match us, hl with | [_, _, _], _ => rfl) fun cdv A outer s H E hgd hr => by
    have C : Ctx (cxOf CX0 P w K mg base ["value", "low", "high", "one"] "are_between" (defScope (top 10)) f cdv A outer s H E).nox 2 := ⟨rfl, hgd, hr⟩
    have nd : (["value", "low", "high", "one"] : List Str).Nodup := sc_are_between.nd
    unfold x_are_between x_are_between_1
    exact ss_one (s_return (s_and (z_isi (T := "tuple") G.g_isinstance G.g_tuple (s_var (pv 0))) (s_one (z_all C G.g_all (a_cons (z_comp (own := [("one", 3)]) C nd (si_seq (s_var (pv 0))) (by rfl) (by decide) (fun _ _ _ _ _ => g_name nd) (fun _ _ _ _ _ C => t_yes) (fun _ _ _ _ _ C => z_fn C c_is_between (by decide) (a_cons (s_var (pv 3)) (a_cons (s_var (pv 1)) (a_cons (s_var (pv 2)) (sa_nil)))))) (sa_nil))))))
/-! ### are_rows -/
def x_are_rows_1 : Ev := mAndV (mFn m_are_between (mConsA (mVar 4) (mConsA (mVar 2) (mConsA (mVar 3) (mNilA))))) (mBin dEq (mCall dLen (mConsA (mVar 4) (mNilA))) (mVar 1))
def x_are_rows : ExS := xSeq (xIf (mNotT (mTruth (mIsi "tuple" (mVar 0)))) (xRet (mFz (.bl false))) (xNil)) (xRet (mCall dAll (mConsA (mComp (iSeq (mVar 0)) (bName 4) (mYes) (x_are_rows_1) [4]) (mNilA))))
def m_are_rows : FRun := runN x_are_rows 4 5
theorem sc_are_rows : FnScope ["value", "many", "low", "most", "row"] ["value", "many", "low", "most"] (defScope (top 27)) := C8.fnScope_by (by decide +kernel)
set_option maxRecDepth 100000 in
theorem b_are_rows (G : Gs w K mg) (c_are_between : Cal P w K mg base 3 "are_between" (spN K m_are_between)) {f : Addr} {fd : FuncData} (F : FunD K "are_rows" "are_rows" (defArgs (top 27)) (defBody (top 27)) (defScope (top 27)) [] [] f fd) (hm : mg "are_rows" = some (.ref f)) : Cal P w K mg base 4 "are_rows" (spN K m_are_rows) :=
  def_N (N := ["value", "many", "low", "most", "row"]) (ps := ["value", "many", "low", "most"]) F (xs := x_are_rows) (np := 4) (n := 5) rfl rfl (by decide) rfl sc_are_rows hm (fun _ _ _ _ _ _ us hl => match us, hl with | [_, _, _, _], _ => rfl) fun cdv A outer s H E hgd hr => by
    have C : Ctx (cxOf CX0 P w K mg base ["value", "many", "low", "most", "row"] "are_rows" (defScope (top 27)) f cdv A outer s H E).nox 3 := ⟨rfl, hgd, hr⟩
    have nd : (["value", "many", "low", "most", "row"] : List Str).Nodup := sc_are_rows.nd
    unfold x_are_rows x_are_rows_1
    exact ss_cons (s_if (st_not (t_tru (z_isi (T := "tuple") G.g_isinstance G.g_tuple (s_var (pv 0))))) (ss_one (s_return (z_bl))) (ss_nil)) (ss_one (s_return (z_all C G.g_all (a_cons (z_comp (own := [("row", 4)]) C nd (si_seq (s_var (pv 0))) (by rfl) (by decide) (fun _ _ _ _ _ => g_name nd) (fun _ _ _ _ _ C => t_yes) (fun _ _ _ _ _ C => s_and (z_fn C c_are_between (by decide) (a_cons (s_var (pv 4)) (a_cons (s_var (pv 2)) (a_cons (s_var (pv 3)) (sa_nil))))) (s_one (z_eq C (z_len G.g_len (a_cons (s_var (pv 4)) (sa_nil))) (s_var (pv 1)))))) (sa_nil)))))
/-! ### is_square_rule -/
def x_is_square_rule : ExS := xSeq (xBind (bTup 3 (bCons (bName 2) (bCons (bName 3) (bCons (bName 4) (bNil))))) (mVar 1)) (xSeq (xIf (mOrT (mNotT (mTruth (mFn m_are_rows (mConsA (mVar 2) (mConsA (mVar 0) (mConsA (mFz (.int 0)) (mConsA (mBin dSub (mVar 0) (mFz (.int 1))) (mNilA)))))))) (mTestB (mBin dNe (mCall dLen (mConsA (mVar 2) (mNilA))) (mVar 0)))) (xRet (mFz (.bl false))) (xNil)) (xRet (mAndV (mFn m_is_between (mConsA (mVar 3) (mConsA (mFz (.int 0)) (mConsA (mBin dSub (mVar 0) (mFz (.int 1))) (mNilA))))) (mFn m_is_between (mConsA (mVar 4) (mConsA (mFz (.int 0)) (mConsA (mBin dSub (mVar 0) (mFz (.int 1))) (mNilA))))))))
def m_is_square_rule : FRun := runN x_is_square_rule 2 5
theorem sc_is_square_rule : FnScope ["base", "value", "square", "start", "end"] ["base", "value"] (defScope (top 28)) := C8.fnScope_by (by decide +kernel)
set_option maxRecDepth 100000 in
theorem b_is_square_rule (G : Gs w K mg) (c_is_between : Cal P w K mg base 2 "is_between" (spN K m_is_between)) (c_are_rows : Cal P w K mg base 4 "are_rows" (spN K m_are_rows)) {f : Addr} {fd : FuncData} (F : FunD K "is_square_rule" "is_square_rule" (defArgs (top 28)) (defBody (top 28)) (defScope (top 28)) [] [] f fd) (hm : mg "is_square_rule" = some (.ref f)) : Cal P w K mg base 5 "is_square_rule" (spN K m_is_square_rule) :=
  def_N (N := ["base", "value", "square", "start", "end"]) (ps := ["base", "value"]) F (xs := x_is_square_rule) (np := 2) (n := 5) rfl rfl (by decide) rfl sc_is_square_rule hm (fun _ _ _ _ _ _ us hl => match us, hl with | [_, _], _ => rfl) fun cdv A outer s H E hgd hr => by
    have C : Ctx (cxOf CX0 P w K mg base ["base", "value", "square", "start", "end"] "is_square_rule" (defScope (top 28)) f cdv A outer s H E).nox 4 := ⟨rfl, hgd, hr⟩
    have nd : (["base", "value", "square", "start", "end"] : List Str).Nodup := sc_is_square_rule.nd
    unfold x_is_square_rule
    exact ss_cons (y_bind (s_var (pv 1)) (g_tup C (gs_cons (g_name nd) (gs_cons (g_name nd) (gs_cons (g_name nd) (sgs_nil)))))) (ss_cons (s_if (PW.pt (sw_or (st_not (t_tru (z_fn C c_are_rows (by decide) (a_cons (s_var (pv 2)) (a_cons (s_var (pv 0)) (a_cons (z_int) (a_cons (z_sub (s_var (pv 0)) (z_int)) (sa_nil)))))))) (sw_or1 (t_ne C (z_len G.g_len (a_cons (s_var (pv 2)) (sa_nil))) (s_var (pv 0)))))) (ss_one (s_return (z_bl))) (ss_nil)) (ss_one (s_return (s_and (z_fn C c_is_between (by decide) (a_cons (s_var (pv 3)) (a_cons (z_int) (a_cons (z_sub (s_var (pv 0)) (z_int)) (sa_nil))))) (s_one (z_fn C c_is_between (by decide) (a_cons (s_var (pv 4)) (a_cons (z_int) (a_cons (z_sub (s_var (pv 0)) (z_int)) (sa_nil))))))))))
/-! ### is_rule -/
def x_is_rule : ExS := xSeq (xIf (mOrT (mNotT (mTruth (mIsi "tuple" (mVar 0)))) (mOrT (mTestB (mBin dEq (mVar 0) (mTup (mNilD)))) (mNotT (mTruth (mIsi "str" (mBin dIx (mVar 0) (mFz (.int 0)))))))) (xRet (mFz (.bl false))) (xNil)) (xSeq (xIf (mOrT (mTestB (mBin dNe (mCall dLen (mConsA (mVar 0) (mNilA))) (mTab tb_PARTS (mBin dIx (mVar 0) (mFz (.int 0))) (mFz (.int 0))))) (mNotT (mTruth (mFn m_is_between (mConsA (mBin dIx (mVar 0) (mFz (.int 1))) (mConsA (mFz (.int 2)) (mConsA (mFz (.int 16)) (mNilA)))))))) (xRet (mFz (.bl false))) (xNil)) (xSeq (xIf (mTestB (mBin dEq (mBin dIx (mVar 0) (mFz (.int 0))) (mFz (.str "square")))) (xRet (mFn m_is_square_rule (mConsA (mBin dIx (mVar 0) (mFz (.int 1))) (mConsA (mSlice dSl (mVar 0) (mSomeO (mFz (.int 2))) (mNoO)) (mNilA))))) (xNil)) (xSeq (xIf (mOrT (mNotT (mTruth (mFn m_is_between (mConsA (mBin dIx (mVar 0) (mFz (.int 2))) (mConsA (mFz (.int 2)) (mConsA (mFz (.int 97)) (mNilA))))))) (mNotT (mTruth (mFn m_is_between (mConsA (mBin dIx (mVar 0) (mUn dNeg (mFz (.int 1)))) (mConsA (mFz (.int 0)) (mConsA (mBin dSub (mBin dIx (mVar 0) (mFz (.int 2))) (mFz (.int 1))) (mNilA)))))))) (xRet (mFz (.bl false))) (xNil)) (xSeq (xIf (mTestB (mBin dEq (mBin dIx (mVar 0) (mFz (.int 0))) (mFz (.str "weights")))) (xRet (mAndV (mFn m_are_between (mConsA (mBin dIx (mVar 0) (mFz (.int 3))) (mConsA (mFz (.int 0)) (mConsA (mBin dSub (mBin dIx (mVar 0) (mFz (.int 2))) (mFz (.int 1))) (mNilA))))) (mChain dLe dLe (mFz (.int 1)) (mCall dLen (mConsA (mBin dIx (mVar 0) (mFz (.int 3))) (mNilA))) (mFz (.int 12))))) (xNil)) (xRet (mOrV (mBin dEq (mBin dIx (mVar 0) (mFz (.int 0))) (mFz (.str "value"))) (mAndV (mFn m_are_rows (mConsA (mBin dIx (mVar 0) (mFz (.int 3))) (mConsA (mBin dIx (mVar 0) (mFz (.int 1))) (mConsA (mFz (.int 0)) (mConsA (mBin dSub (mBin dIx (mVar 0) (mFz (.int 2))) (mFz (.int 1))) (mNilA)))))) (mChain dLe dLe (mFz (.int 1)) (mCall dLen (mConsA (mBin dIx (mVar 0) (mFz (.int 3))) (mNilA))) (mFz (.int 12))))))))))
def m_is_rule : FRun := runN x_is_rule 1 1
theorem sc_is_rule : FnScope ["value"] ["value"] (defScope (top 29)) := C8.fnScope_by (by decide +kernel)
set_option maxRecDepth 100000 in
theorem b_is_rule (G : Gs w K mg) (c_are_rows : Cal P w K mg base 4 "are_rows" (spN K m_are_rows)) (c_are_between : Cal P w K mg base 3 "are_between" (spN K m_are_between)) (c_is_between : Cal P w K mg base 2 "is_between" (spN K m_is_between)) (c_is_square_rule : Cal P w K mg base 5 "is_square_rule" (spN K m_is_square_rule)) {f : Addr} {fd : FuncData} (F : FunD K "is_rule" "is_rule" (defArgs (top 29)) (defBody (top 29)) (defScope (top 29)) [] [] f fd) (hm : mg "is_rule" = some (.ref f)) : Cal P w K mg base 6 "is_rule" (spN K m_is_rule) :=
  def_N (N := ["value"]) (ps := ["value"]) F (xs := x_is_rule) (np := 1) (n := 1) rfl rfl (by decide) rfl sc_is_rule hm (fun _ _ _ _ _ _ us hl => match us, hl with | [_], _ => rfl) fun cdv A outer s H E hgd hr => by
    have C : Ctx (cxOf CX0 P w K mg base ["value"] "is_rule" (defScope (top 29)) f cdv A outer s H E).nox 5 := ⟨rfl, hgd, hr⟩
    have nd : (["value"] : List Str).Nodup := sc_is_rule.nd
    unfold x_is_rule
    exact ss_cons (s_if (PW.pt (sw_or (st_not (t_tru (z_isi (T := "tuple") G.g_isinstance G.g_tuple (s_var (pv 0))))) (sw_or (t_eq C (s_var (pv 0)) (s_tup (sd_nil))) (sw_or1 (st_not (t_tru (z_isi (T := "str") G.g_isinstance G.g_str (z_ix C (s_var (pv 0)) (z_int))))))))) (ss_one (s_return (z_bl))) (ss_nil)) (ss_cons (s_if (PW.pt (sw_or (t_ne C (z_len G.g_len (a_cons (s_var (pv 0)) (sa_nil))) (z_tab G.g_PARTS.1 G.g_PARTS.2 (z_ix C (s_var (pv 0)) (z_int)) (z_int))) (sw_or1 (st_not (t_tru (z_fn C c_is_between (by decide) (a_cons (z_ix C (s_var (pv 0)) (z_int)) (a_cons (z_glI G.g_LEAST_BASE) (a_cons (z_glI G.g_MOST_BASE) (sa_nil)))))))))) (ss_one (s_return (z_bl))) (ss_nil)) (ss_cons (s_if (t_eq C (z_ix C (s_var (pv 0)) (z_int)) (z_glS G.g_SQUARE)) (ss_one (s_return (z_fn C c_is_square_rule (by decide) (a_cons (z_ix C (s_var (pv 0)) (z_int)) (a_cons (z_sl (s_var (pv 0)) (so_some (z_int)) (so_none)) (sa_nil)))))) (ss_nil)) (ss_cons (s_if (PW.pt (sw_or (st_not (t_tru (z_fn C c_is_between (by decide) (a_cons (z_ix C (s_var (pv 0)) (z_int)) (a_cons (z_glI G.g_LEAST_WHOLE) (a_cons (z_glI G.g_MOST_WHOLE) (sa_nil))))))) (sw_or1 (st_not (t_tru (z_fn C c_is_between (by decide) (a_cons (z_ix C (s_var (pv 0)) (z_neg (z_int))) (a_cons (z_int) (a_cons (z_sub (z_ix C (s_var (pv 0)) (z_int)) (z_int)) (sa_nil)))))))))) (ss_one (s_return (z_bl))) (ss_nil)) (ss_cons (s_if (t_eq C (z_ix C (s_var (pv 0)) (z_int)) (z_glS G.g_WEIGHTS)) (ss_one (s_return (s_and (z_fn C c_are_between (by decide) (a_cons (z_ix C (s_var (pv 0)) (z_int)) (a_cons (z_int) (a_cons (z_sub (z_ix C (s_var (pv 0)) (z_int)) (z_int)) (sa_nil))))) (s_one (z_lele (z_int) (z_len G.g_len (a_cons (z_ix C (s_var (pv 0)) (z_int)) (sa_nil))) (z_glI G.g_MOST_SIZE)))))) (ss_nil)) (ss_one (s_return (s_or (z_eq C (z_ix C (s_var (pv 0)) (z_int)) (z_glS G.g_VALUE)) (s_one (s_and (z_fn C c_are_rows (by decide) (a_cons (z_ix C (s_var (pv 0)) (z_int)) (a_cons (z_ix C (s_var (pv 0)) (z_int)) (a_cons (z_int) (a_cons (z_sub (z_ix C (s_var (pv 0)) (z_int)) (z_int)) (sa_nil)))))) (s_one (z_lele (z_int) (z_len G.g_len (a_cons (z_ix C (s_var (pv 0)) (z_int)) (sa_nil))) (z_glI G.g_MOST_SIZE))))))))))))
/-! ### check_rule -/
def x_check_rule : ExS := xIf (mNotT (mTruth (mFn m_is_rule (mConsA (mVar 0) (mNilA))))) (xNo) (xNil)
def m_check_rule : FRun := runN x_check_rule 1 1
theorem sc_check_rule : FnScope ["value"] ["value"] (defScope (top 30)) := C8.fnScope_by (by decide +kernel)
set_option maxRecDepth 100000 in
theorem b_check_rule (c_is_rule : Cal P w K mg base 6 "is_rule" (spN K m_is_rule)) {f : Addr} {fd : FuncData} (F : FunD K "check_rule" "check_rule" (defArgs (top 30)) (defBody (top 30)) (defScope (top 30)) [] [] f fd) (hm : mg "check_rule" = some (.ref f)) : Cal P w K mg base 7 "check_rule" (spN K m_check_rule) :=
  def_N (N := ["value"]) (ps := ["value"]) F (xs := x_check_rule) (np := 1) (n := 1) rfl rfl (by decide) rfl sc_check_rule hm (fun _ _ _ _ _ _ us hl => match us, hl with | [_], _ => rfl) fun cdv A outer s H E hgd hr => by
    have C : Ctx (cxOf CX0 P w K mg base ["value"] "check_rule" (defScope (top 30)) f cdv A outer s H E).nox 6 := ⟨rfl, hgd, hr⟩
    have nd : (["value"] : List Str).Nodup := sc_check_rule.nd
    unfold x_check_rule
    exact ss_one (s_if (st_not (t_tru (z_fn C c_is_rule (by decide) (a_cons (s_var (pv 0)) (sa_nil))))) (ss_one (s_no)) (ss_nil))
/-! ### check_size -/
def x_check_size : ExS := xIf (mNotT (mTruth (mFn m_is_between (mConsA (mVar 0) (mConsA (mFz (.int 1)) (mConsA (mFz (.int 12)) (mNilA))))))) (xNo) (xNil)
def m_check_size : FRun := runN x_check_size 1 1
theorem sc_check_size : FnScope ["size"] ["size"] (defScope (top 15)) := C8.fnScope_by (by decide +kernel)
set_option maxRecDepth 100000 in
theorem b_check_size (G : Gs w K mg) (c_is_between : Cal P w K mg base 2 "is_between" (spN K m_is_between)) {f : Addr} {fd : FuncData} (F : FunD K "check_size" "check_size" (defArgs (top 15)) (defBody (top 15)) (defScope (top 15)) [] [] f fd) (hm : mg "check_size" = some (.ref f)) : Cal P w K mg base 3 "check_size" (spN K m_check_size) :=
  def_N (N := ["size"]) (ps := ["size"]) F (xs := x_check_size) (np := 1) (n := 1) rfl rfl (by decide) rfl sc_check_size hm (fun _ _ _ _ _ _ us hl => match us, hl with | [_], _ => rfl) fun cdv A outer s H E hgd hr => by
    have C : Ctx (cxOf CX0 P w K mg base ["size"] "check_size" (defScope (top 15)) f cdv A outer s H E).nox 2 := ⟨rfl, hgd, hr⟩
    have nd : (["size"] : List Str).Nodup := sc_check_size.nd
    unfold x_check_size
    exact ss_one (s_if (st_not (t_tru (z_fn C c_is_between (by decide) (a_cons (s_var (pv 0)) (a_cons (z_int) (a_cons (z_glI G.g_MOST_SIZE) (sa_nil))))))) (ss_one (s_no)) (ss_nil))
/-! ### does_take -/
def x_does_take : ExS := xRet (mOrV (mBin (dIn false) (mBin dIx (mVar 0) (mFz (.int 0))) (mTup (mConsD (mFz (.str "square")) (mConsD (mFz (.str "value")) (mNilD))))) (mBin dEq (mCall dLen (mConsA (mBin dIx (mVar 0) (mFz (.int 3))) (mNilA))) (mVar 1)))
def m_does_take : FRun := runN x_does_take 2 2
theorem sc_does_take : FnScope ["rule", "size"] ["rule", "size"] (defScope (top 31)) := C8.fnScope_by (by decide +kernel)
set_option maxRecDepth 100000 in
theorem b_does_take (G : Gs w K mg)  {f : Addr} {fd : FuncData} (F : FunD K "does_take" "does_take" (defArgs (top 31)) (defBody (top 31)) (defScope (top 31)) [] [] f fd) (hm : mg "does_take" = some (.ref f)) : Cal P w K mg base 1 "does_take" (spN K m_does_take) :=
  def_N (N := ["rule", "size"]) (ps := ["rule", "size"]) F (xs := x_does_take) (np := 2) (n := 2) rfl rfl (by decide) rfl sc_does_take hm (fun _ _ _ _ _ _ us hl => match us, hl with | [_, _], _ => rfl) fun cdv A outer s H E hgd hr => by
    have C : Ctx (cxOf CX0 P w K mg base ["rule", "size"] "does_take" (defScope (top 31)) f cdv A outer s H E).nox 0 := ⟨rfl, hgd, hr⟩
    have nd : (["rule", "size"] : List Str).Nodup := sc_does_take.nd
    unfold x_does_take
    exact ss_one (s_return (s_or (z_in C (z_ix C (s_var (pv 0)) (z_int)) (s_tup (d_cons (z_glS G.g_SQUARE) (d_cons (z_glS G.g_VALUE) (sd_nil))))) (s_one (z_eq C (z_len G.g_len (a_cons (z_ix C (s_var (pv 0)) (z_int)) (sa_nil))) (s_var (pv 1))))))
/-! ### check_sized -/
def x_check_sized : ExS := xSeq (xDrop (mFn m_check_rule (mConsA (mVar 0) (mNilA)))) (xSeq (xDrop (mFn m_check_size (mConsA (mVar 1) (mNilA)))) (xIf (mNotT (mTruth (mFn m_does_take (mConsA (mVar 0) (mConsA (mVar 1) (mNilA)))))) (xNo) (xNil)))
def m_check_sized : FRun := runN x_check_sized 2 2
theorem sc_check_sized : FnScope ["rule", "size"] ["rule", "size"] (defScope (top 32)) := C8.fnScope_by (by decide +kernel)
set_option maxRecDepth 100000 in
theorem b_check_sized (c_does_take : Cal P w K mg base 1 "does_take" (spN K m_does_take)) (c_check_size : Cal P w K mg base 3 "check_size" (spN K m_check_size)) (c_check_rule : Cal P w K mg base 7 "check_rule" (spN K m_check_rule)) {f : Addr} {fd : FuncData} (F : FunD K "check_sized" "check_sized" (defArgs (top 32)) (defBody (top 32)) (defScope (top 32)) [] [] f fd) (hm : mg "check_sized" = some (.ref f)) : Cal P w K mg base 8 "check_sized" (spN K m_check_sized) :=
  def_N (N := ["rule", "size"]) (ps := ["rule", "size"]) F (xs := x_check_sized) (np := 2) (n := 2) rfl rfl (by decide) rfl sc_check_sized hm (fun _ _ _ _ _ _ us hl => match us, hl with | [_, _], _ => rfl) fun cdv A outer s H E hgd hr => by
    have C : Ctx (cxOf CX0 P w K mg base ["rule", "size"] "check_sized" (defScope (top 32)) f cdv A outer s H E).nox 7 := ⟨rfl, hgd, hr⟩
    have nd : (["rule", "size"] : List Str).Nodup := sc_check_sized.nd
    unfold x_check_sized
    exact ss_cons (y_drop (z_fn C c_check_rule (by decide) (a_cons (s_var (pv 0)) (sa_nil)))) (ss_cons (y_drop (z_fn C c_check_size (by decide) (a_cons (s_var (pv 1)) (sa_nil)))) (ss_one (s_if (st_not (t_tru (z_fn C c_does_take (by decide) (a_cons (s_var (pv 0)) (a_cons (s_var (pv 1)) (sa_nil)))))) (ss_one (s_no)) (ss_nil))))
/-! ### power -/
def x_power_1 : ExS := xSet 2 (mBin dMul (mVar 2) (mVar 0))
def x_power : ExS := xSeq (xSet 2 (mFz (.int 1))) (xSeq (xFor (iRange1 (mConsD (mVar 1) (mNilD))) (bName 3) (x_power_1)) (xRet (mVar 2)))
def m_power : FRun := runN x_power 2 4
theorem sc_power : FnScope ["base", "size", "found", "lap"] ["base", "size"] (defScope (top 17)) := C8.fnScope_by (by decide +kernel)
set_option maxRecDepth 100000 in
theorem b_power (G : Gs w K mg)  {f : Addr} {fd : FuncData} (F : FunD K "power" "power" (defArgs (top 17)) (defBody (top 17)) (defScope (top 17)) [] [] f fd) (hm : mg "power" = some (.ref f)) : Cal P w K mg base 1 "power" (spN K m_power) :=
  def_N (N := ["base", "size", "found", "lap"]) (ps := ["base", "size"]) F (xs := x_power) (np := 2) (n := 4) rfl rfl (by decide) rfl sc_power hm (fun _ _ _ _ _ _ us hl => match us, hl with | [_, _], _ => rfl) fun cdv A outer s H E hgd hr => by
    have C : Ctx (cxOf CX0 P w K mg base ["base", "size", "found", "lap"] "power" (defScope (top 17)) f cdv A outer s H E).nox 0 := ⟨rfl, hgd, hr⟩
    have nd : (["base", "size", "found", "lap"] : List Str).Nodup := sc_power.nd
    unfold x_power x_power_1
    exact ss_cons (y_set (i := 2) nd (z_int)) (ss_cons (y_for PassesOwn.never C (i_r1 G.g_range (d_cons (s_var (pv 1)) (sd_nil))) (g_name nd) (ss_one (y_set (i := 2) nd (z_mul (s_var (pv 2)) (s_var (pv 0)))))) (ss_one (s_return (s_var (pv 2)))))
/-! ### check_few -/
def x_check_few : ExS := xIf (mTestB (mBin dGt (mFn m_power (mConsA (mBin dIx (mVar 0) (mFz (.int 1))) (mConsA (mVar 1) (mNilA)))) (mFz (.int 5000)))) (xNo) (xNil)
def m_check_few : FRun := runN x_check_few 2 2
theorem sc_check_few : FnScope ["rule", "size"] ["rule", "size"] (defScope (top 33)) := C8.fnScope_by (by decide +kernel)
set_option maxRecDepth 100000 in
theorem b_check_few (G : Gs w K mg) (c_power : Cal P w K mg base 1 "power" (spN K m_power)) {f : Addr} {fd : FuncData} (F : FunD K "check_few" "check_few" (defArgs (top 33)) (defBody (top 33)) (defScope (top 33)) [] [] f fd) (hm : mg "check_few" = some (.ref f)) : Cal P w K mg base 2 "check_few" (spN K m_check_few) :=
  def_N (N := ["rule", "size"]) (ps := ["rule", "size"]) F (xs := x_check_few) (np := 2) (n := 2) rfl rfl (by decide) rfl sc_check_few hm (fun _ _ _ _ _ _ us hl => match us, hl with | [_, _], _ => rfl) fun cdv A outer s H E hgd hr => by
    have C : Ctx (cxOf CX0 P w K mg base ["rule", "size"] "check_few" (defScope (top 33)) f cdv A outer s H E).nox 1 := ⟨rfl, hgd, hr⟩
    have nd : (["rule", "size"] : List Str).Nodup := sc_check_few.nd
    unfold x_check_few
    exact ss_one (s_if (t_gt (z_fn C c_power (by decide) (a_cons (z_ix C (s_var (pv 0)) (z_int)) (a_cons (s_var (pv 1)) (sa_nil)))) (z_glI G.g_MOST_LABELS)) (ss_one (s_no)) (ss_nil))
/-! ### begins -/
def x_begins : ExS := xRet (mIf (mTestB (mBin dEq (mBin dIx (mVar 0) (mFz (.int 0))) (mFz (.str "square")))) (mBin dIx (mVar 0) (mFz (.int 3))) (mFz (.int 0)))
def m_begins : FRun := runN x_begins 1 1
theorem sc_begins : FnScope ["rule"] ["rule"] (defScope (top 34)) := C8.fnScope_by (by decide +kernel)
set_option maxRecDepth 100000 in
theorem b_begins (G : Gs w K mg)  {f : Addr} {fd : FuncData} (F : FunD K "begins" "begins" (defArgs (top 34)) (defBody (top 34)) (defScope (top 34)) [] [] f fd) (hm : mg "begins" = some (.ref f)) : Cal P w K mg base 1 "begins" (spN K m_begins) :=
  def_N (N := ["rule"]) (ps := ["rule"]) F (xs := x_begins) (np := 1) (n := 1) rfl rfl (by decide) rfl sc_begins hm (fun _ _ _ _ _ _ us hl => match us, hl with | [_], _ => rfl) fun cdv A outer s H E hgd hr => by
    have C : Ctx (cxOf CX0 P w K mg base ["rule"] "begins" (defScope (top 34)) f cdv A outer s H E).nox 0 := ⟨rfl, hgd, hr⟩
    have nd : (["rule"] : List Str).Nodup := sc_begins.nd
    unfold x_begins
    exact ss_one (s_return (s_ite (t_eq C (z_ix C (s_var (pv 0)) (z_int)) (z_glS G.g_SQUARE)) (z_ix C (s_var (pv 0)) (z_int)) (z_int)))
/-! ### goes_on -/
def x_goes_on : ExS := xSeq (xIf (mTestB (mBin dEq (mBin dIx (mVar 0) (mFz (.int 0))) (mFz (.str "weights")))) (xRet (mBin dMod (mBin dAdd (mVar 2) (mBin dMul (mBin dIx (mBin dIx (mVar 0) (mFz (.int 3))) (mVar 1)) (mVar 3))) (mBin dIx (mVar 0) (mFz (.int 2))))) (xNil)) (xSeq (xIf (mTestB (mBin dEq (mBin dIx (mVar 0) (mFz (.int 0))) (mFz (.str "tables")))) (xRet (mBin dMod (mBin dAdd (mVar 2) (mBin dIx (mBin dIx (mBin dIx (mVar 0) (mFz (.int 3))) (mVar 1)) (mVar 3))) (mBin dIx (mVar 0) (mFz (.int 2))))) (xNil)) (xRet (mIf (mTestB (mBin dEq (mBin dIx (mVar 0) (mFz (.int 0))) (mFz (.str "square")))) (mBin dIx (mBin dIx (mBin dIx (mVar 0) (mFz (.int 2))) (mVar 2)) (mVar 3)) (mBin dMod (mBin dAdd (mBin dMul (mVar 2) (mBin dIx (mVar 0) (mFz (.int 1)))) (mVar 3)) (mBin dIx (mVar 0) (mFz (.int 2)))))))
def m_goes_on : FRun := runN x_goes_on 4 4
theorem sc_goes_on : FnScope ["rule", "place", "here", "figure"] ["rule", "place", "here", "figure"] (defScope (top 35)) := C8.fnScope_by (by decide +kernel)
set_option maxRecDepth 100000 in
theorem b_goes_on (G : Gs w K mg)  {f : Addr} {fd : FuncData} (F : FunD K "goes_on" "goes_on" (defArgs (top 35)) (defBody (top 35)) (defScope (top 35)) [] [] f fd) (hm : mg "goes_on" = some (.ref f)) : Cal P w K mg base 1 "goes_on" (spN K m_goes_on) :=
  def_N (N := ["rule", "place", "here", "figure"]) (ps := ["rule", "place", "here", "figure"]) F (xs := x_goes_on) (np := 4) (n := 4) rfl rfl (by decide) rfl sc_goes_on hm (fun _ _ _ _ _ _ us hl => match us, hl with | [_, _, _, _], _ => rfl) fun cdv A outer s H E hgd hr => by
    have C : Ctx (cxOf CX0 P w K mg base ["rule", "place", "here", "figure"] "goes_on" (defScope (top 35)) f cdv A outer s H E).nox 0 := ⟨rfl, hgd, hr⟩
    have nd : (["rule", "place", "here", "figure"] : List Str).Nodup := sc_goes_on.nd
    unfold x_goes_on
    exact ss_cons (s_if (t_eq C (z_ix C (s_var (pv 0)) (z_int)) (z_glS G.g_WEIGHTS)) (ss_one (s_return (z_mod (z_add (s_var (pv 2)) (z_mul (z_ix C (z_ix C (s_var (pv 0)) (z_int)) (s_var (pv 1))) (s_var (pv 3)))) (z_ix C (s_var (pv 0)) (z_int))))) (ss_nil)) (ss_cons (s_if (t_eq C (z_ix C (s_var (pv 0)) (z_int)) (z_glS G.g_TABLES)) (ss_one (s_return (z_mod (z_add (s_var (pv 2)) (z_ix C (z_ix C (z_ix C (s_var (pv 0)) (z_int)) (s_var (pv 1))) (s_var (pv 3)))) (z_ix C (s_var (pv 0)) (z_int))))) (ss_nil)) (ss_one (s_return (s_ite (t_eq C (z_ix C (s_var (pv 0)) (z_int)) (z_glS G.g_SQUARE)) (z_ix C (z_ix C (z_ix C (s_var (pv 0)) (z_int)) (s_var (pv 2))) (s_var (pv 3))) (z_mod (z_add (z_mul (s_var (pv 2)) (z_ix C (s_var (pv 0)) (z_int))) (s_var (pv 3))) (z_ix C (s_var (pv 0)) (z_int)))))))
/-! ### ahead_of -/
def x_ahead_of_1 : ExS := xSeq (xSet 8 (mFn m_goes_on (mConsA (mVar 0) (mConsA (mVar 3) (mConsA (mVar 5) (mConsA (mVar 7) (mNilA))))))) (xPut gSet 4 (mVar 8) (mBin dAdd (mMth gGet (mVar 4) (mConsA (mVar 8) (mConsA (mFz (.int 0)) (mNilA)))) (mVar 6)))
def x_ahead_of_2 : ExS := xFor (iRange1 (mConsD (mBin dIx (mVar 0) (mFz (.int 1))) (mNilD))) (bName 7) (x_ahead_of_1)
def x_ahead_of_3 : ExS := xSeq (xSet 4 (mNewD)) (xSeq (xFor (iItemsD (mBin dIx (mVar 2) (mUn dNeg (mFz (.int 1))))) (bTup 2 (bCons (bName 5) (bCons (bName 6) (bNil)))) (x_ahead_of_2)) (xDrop (mMut gAppend 2 (mConsD (mVar 4) (mNilD)))))
def x_ahead_of : ExS := xSeq (xSet 2 (mLst (mConsD (mDisp1 (mFn m_begins (mConsA (mVar 0) (mNilA))) (mFz (.int 1))) (mNilD)))) (xSeq (xFor (iRange1 (mConsD (mVar 1) (mNilD))) (bName 3) (x_ahead_of_3)) (xRet (mVar 2)))
def m_ahead_of : FRun := runN x_ahead_of 2 9
theorem sc_ahead_of : FnScope ["rule", "size", "found", "place", "later", "here", "ways", "figure", "there"] ["rule", "size"] (defScope (top 42)) := C8.fnScope_by (by decide +kernel)
set_option maxRecDepth 100000 in
theorem b_ahead_of (G : Gs w K mg) (c_goes_on : Cal P w K mg base 1 "goes_on" (spN K m_goes_on)) (c_begins : Cal P w K mg base 1 "begins" (spN K m_begins)) {f : Addr} {fd : FuncData} (F : FunD K "ahead_of" "ahead_of" (defArgs (top 42)) (defBody (top 42)) (defScope (top 42)) [] [] f fd) (hm : mg "ahead_of" = some (.ref f)) : Cal P w K mg base 2 "ahead_of" (spN K m_ahead_of) :=
  def_N (N := ["rule", "size", "found", "place", "later", "here", "ways", "figure", "there"]) (ps := ["rule", "size"]) F (xs := x_ahead_of) (np := 2) (n := 9) rfl rfl (by decide) rfl sc_ahead_of hm (fun _ _ _ _ _ _ us hl => match us, hl with | [_, _], _ => rfl) fun cdv A outer s H E hgd hr => by
    have C : Ctx (cxOf CX0 P w K mg base ["rule", "size", "found", "place", "later", "here", "ways", "figure", "there"] "ahead_of" (defScope (top 42)) f cdv A outer s H E).nox 1 := ⟨rfl, hgd, hr⟩
    have nd : (["rule", "size", "found", "place", "later", "here", "ways", "figure", "there"] : List Str).Nodup := sc_ahead_of.nd
    unfold x_ahead_of x_ahead_of_3 x_ahead_of_2 x_ahead_of_1
    exact ss_cons (y_set (i := 2) nd (s_lst (d_cons (z_disp1 (z_fn C c_begins (by decide) (a_cons (s_var (pv 0)) (sa_nil))) (z_int)) (sd_nil)))) (ss_cons (y_for PassesOwn.never C (i_r1 G.g_range (d_cons (s_var (pv 1)) (sd_nil))) (g_name nd) (ss_cons (y_set (i := 4) nd (z_newD)) (ss_cons (y_for PassesOwn.never C (i_items (z_ix C (s_var (pv 2)) (z_neg (z_int)))) (g_tup C (gs_cons (g_name nd) (gs_cons (g_name nd) (sgs_nil)))) (ss_one (y_for PassesOwn.never C (i_r1 G.g_range (d_cons (z_ix C (s_var (pv 0)) (z_int)) (sd_nil))) (g_name nd) (ss_cons (y_set (i := 8) nd (z_fn C c_goes_on (by decide) (a_cons (s_var (pv 0)) (a_cons (s_var (pv 3)) (a_cons (s_var (pv 5)) (a_cons (s_var (pv 7)) (sa_nil))))))) (ss_one (y_put C (pv 4) (s_var (pv 8)) (z_add (z_mth (gGet_ok C.hu) (s_var (pv 4)) (a_cons (s_var (pv 8)) (a_cons (z_int) (sa_nil)))) (s_var (pv 6))))))))) (ss_one (y_drop (z_mut gAppend_ok (pv 2) (d_cons (s_var (pv 4)) (sd_nil)))))))) (ss_one (s_return (s_var (pv 2)))))
/-! ### behind_of -/
def x_behind_of_1 : Ev := mMth gGet (mBin dIx (mVar 3) (mUn dNeg (mFz (.int 1)))) (mConsA (mFn m_goes_on (mConsA (mVar 0) (mConsA (mVar 4) (mConsA (mVar 6) (mConsA (mVar 8) (mNilA)))))) (mConsA (mFz (.int 0)) (mNilA)))
def x_behind_of_2 : ExS := xSeq (xSet 7 (mComp (iRange1 (mConsD (mBin dIx (mVar 0) (mFz (.int 1))) (mNilD))) (bName 8) (mYes) (x_behind_of_1) [8])) (xPut gSet 5 (mVar 6) (mCall dSum (mConsA (mVar 7) (mNilA))))
def x_behind_of_3 : ExS := xSeq (xSet 5 (mNewD)) (xSeq (xFor (iSeq (mBin dIx (mVar 2) (mVar 4))) (bName 6) (x_behind_of_2)) (xDrop (mMut gAppend 3 (mConsD (mVar 5) (mNilD)))))
def x_behind_of : ExS := xSeq (xSet 3 (mLst (mConsD (mDisp1 (mBin dIx (mVar 0) (mUn dNeg (mFz (.int 1)))) (mFz (.int 1))) (mNilD)))) (xSeq (xFor (iRangeN (mConsD (mBin dSub (mVar 1) (mFz (.int 1))) (mConsD (mUn dNeg (mFz (.int 1))) (mConsD (mUn dNeg (mFz (.int 1))) (mNilD))))) (bName 4) (x_behind_of_3)) (xRet (mRev (mVar 3))))
def m_behind_of : FRun := runN x_behind_of 3 9
theorem sc_behind_of : FnScope ["rule", "size", "ahead", "found", "place", "now", "here", "ways", "figure"] ["rule", "size", "ahead"] (defScope (top 43)) := C8.fnScope_by (by decide +kernel)
set_option maxRecDepth 100000 in
theorem b_behind_of (G : Gs w K mg) (c_goes_on : Cal P w K mg base 1 "goes_on" (spN K m_goes_on)) {f : Addr} {fd : FuncData} (F : FunD K "behind_of" "behind_of" (defArgs (top 43)) (defBody (top 43)) (defScope (top 43)) [] [] f fd) (hm : mg "behind_of" = some (.ref f)) : Cal P w K mg base 2 "behind_of" (spN K m_behind_of) :=
  def_N (N := ["rule", "size", "ahead", "found", "place", "now", "here", "ways", "figure"]) (ps := ["rule", "size", "ahead"]) F (xs := x_behind_of) (np := 3) (n := 9) rfl rfl (by decide) rfl sc_behind_of hm (fun _ _ _ _ _ _ us hl => match us, hl with | [_, _, _], _ => rfl) fun cdv A outer s H E hgd hr => by
    have C : Ctx (cxOf CX0 P w K mg base ["rule", "size", "ahead", "found", "place", "now", "here", "ways", "figure"] "behind_of" (defScope (top 43)) f cdv A outer s H E).nox 1 := ⟨rfl, hgd, hr⟩
    have nd : (["rule", "size", "ahead", "found", "place", "now", "here", "ways", "figure"] : List Str).Nodup := sc_behind_of.nd
    unfold x_behind_of x_behind_of_3 x_behind_of_2 x_behind_of_1
    exact ss_cons (y_set (i := 3) nd (s_lst (d_cons (z_disp1 (z_ix C (s_var (pv 0)) (z_neg (z_int))) (z_int)) (sd_nil)))) (ss_cons (y_for PassesOwn.never C (i_rN G.g_range (d_cons (z_sub (s_var (pv 1)) (z_int)) (d_cons (z_neg (z_int)) (d_cons (z_neg (z_int)) (sd_nil))))) (g_name nd) (ss_cons (y_set (i := 5) nd (z_newD)) (ss_cons (y_for PassesOwn.never C (si_seq (z_ix C (s_var (pv 2)) (s_var (pv 4)))) (g_name nd) (ss_cons (y_setC (i := 7) (own := [("figure", 8)]) C nd (i_r1 G.g_range (d_cons (z_ix C (s_var (pv 0)) (z_int)) (sd_nil))) (by rfl) (by decide) (fun _ _ _ _ _ => g_name nd) (fun _ _ _ _ _ C => t_yes) (fun _ _ _ _ _ C => z_mth (gGet_ok C.hu) (z_ix C (s_var (pv 3)) (z_neg (z_int))) (a_cons (z_fn C c_goes_on (by decide) (a_cons (s_var (pv 0)) (a_cons (s_var (pv 4)) (a_cons (s_var (pv 6)) (a_cons (s_var (pv 8)) (sa_nil)))))) (a_cons (z_int) (sa_nil))))) (ss_one (y_put C (pv 5) (s_var (pv 6)) (z_sum C G.g_sum (a_cons (s_var (pv 7)) (sa_nil))))))) (ss_one (y_drop (z_mut gAppend_ok (pv 3) (d_cons (s_var (pv 5)) (sd_nil)))))))) (ss_one (s_return (z_rev (s_var (pv 3))))))
/-! ### ways_by -/
def x_ways_by : ExS := xSeq (xSet 2 (mFn m_ahead_of (mConsA (mVar 0) (mConsA (mVar 1) (mNilA))))) (xRet (mTup (mConsD (mVar 2) (mConsD (mFn m_behind_of (mConsA (mVar 0) (mConsA (mVar 1) (mConsA (mVar 2) (mNilA))))) (mNilD)))))
def m_ways_by : FRun := runN x_ways_by 2 3
theorem sc_ways_by : FnScope ["rule", "size", "ahead"] ["rule", "size"] (defScope (top 45)) := C8.fnScope_by (by decide +kernel)
set_option maxRecDepth 100000 in
theorem b_ways_by (c_behind_of : Cal P w K mg base 2 "behind_of" (spN K m_behind_of)) (c_ahead_of : Cal P w K mg base 2 "ahead_of" (spN K m_ahead_of)) {f : Addr} {fd : FuncData} (F : FunD K "ways_by" "ways_by" (defArgs (top 45)) (defBody (top 45)) (defScope (top 45)) [] [] f fd) (hm : mg "ways_by" = some (.ref f)) : Cal P w K mg base 3 "ways_by" (spN K m_ways_by) :=
  def_N (N := ["rule", "size", "ahead"]) (ps := ["rule", "size"]) F (xs := x_ways_by) (np := 2) (n := 3) rfl rfl (by decide) rfl sc_ways_by hm (fun _ _ _ _ _ _ us hl => match us, hl with | [_, _], _ => rfl) fun cdv A outer s H E hgd hr => by
    have C : Ctx (cxOf CX0 P w K mg base ["rule", "size", "ahead"] "ways_by" (defScope (top 45)) f cdv A outer s H E).nox 2 := ⟨rfl, hgd, hr⟩
    have nd : (["rule", "size", "ahead"] : List Str).Nodup := sc_ways_by.nd
    unfold x_ways_by
    exact ss_cons (y_set (i := 2) nd (z_fn C c_ahead_of (by decide) (a_cons (s_var (pv 0)) (a_cons (s_var (pv 1)) (sa_nil))))) (ss_one (s_return (s_tup (d_cons (s_var (pv 2)) (d_cons (z_fn C c_behind_of (by decide) (a_cons (s_var (pv 0)) (a_cons (s_var (pv 1)) (a_cons (s_var (pv 2)) (sa_nil))))) (sd_nil))))))
/-! ### count_at -/
def x_count_at_1 : ExS := xSet 4 (mBin dAdd (mVar 4) (mBin dMul (mVar 8) (mMth gGet (mBin dIx (mVar 6) (mBin dAdd (mVar 2) (mFz (.int 1)))) (mConsA (mFn m_goes_on (mConsA (mVar 0) (mConsA (mVar 2) (mConsA (mVar 7) (mConsA (mVar 3) (mNilA)))))) (mConsA (mFz (.int 0)) (mNilA))))))
def x_count_at : ExS := xSeq (xBind (bTup 2 (bCons (bName 5) (bCons (bName 6) (bNil)))) (mVar 1)) (xSeq (xSet 4 (mFz (.int 0))) (xSeq (xFor (iItemsD (mBin dIx (mVar 5) (mVar 2))) (bTup 2 (bCons (bName 7) (bCons (bName 8) (bNil)))) (x_count_at_1)) (xRet (mVar 4))))
def m_count_at : FRun := runN x_count_at 4 9
theorem sc_count_at : FnScope ["rule", "ways", "place", "figure", "found", "ahead", "behind", "here", "many"] ["rule", "ways", "place", "figure"] (defScope (top 44)) := C8.fnScope_by (by decide +kernel)
set_option maxRecDepth 100000 in
theorem b_count_at (c_goes_on : Cal P w K mg base 1 "goes_on" (spN K m_goes_on)) {f : Addr} {fd : FuncData} (F : FunD K "count_at" "count_at" (defArgs (top 44)) (defBody (top 44)) (defScope (top 44)) [] [] f fd) (hm : mg "count_at" = some (.ref f)) : Cal P w K mg base 2 "count_at" (spN K m_count_at) :=
  def_N (N := ["rule", "ways", "place", "figure", "found", "ahead", "behind", "here", "many"]) (ps := ["rule", "ways", "place", "figure"]) F (xs := x_count_at) (np := 4) (n := 9) rfl rfl (by decide) rfl sc_count_at hm (fun _ _ _ _ _ _ us hl => match us, hl with | [_, _, _, _], _ => rfl) fun cdv A outer s H E hgd hr => by
    have C : Ctx (cxOf CX0 P w K mg base ["rule", "ways", "place", "figure", "found", "ahead", "behind", "here", "many"] "count_at" (defScope (top 44)) f cdv A outer s H E).nox 1 := ⟨rfl, hgd, hr⟩
    have nd : (["rule", "ways", "place", "figure", "found", "ahead", "behind", "here", "many"] : List Str).Nodup := sc_count_at.nd
    unfold x_count_at x_count_at_1
    exact ss_cons (y_bind (s_var (pv 1)) (g_tup C (gs_cons (g_name nd) (gs_cons (g_name nd) (sgs_nil))))) (ss_cons (y_set (i := 4) nd (z_int)) (ss_cons (y_for PassesOwn.never C (i_items (z_ix C (s_var (pv 5)) (s_var (pv 2)))) (g_tup C (gs_cons (g_name nd) (gs_cons (g_name nd) (sgs_nil)))) (ss_one (y_set (i := 4) nd (z_add (s_var (pv 4)) (z_mul (s_var (pv 8)) (z_mth (gGet_ok C.hu) (z_ix C (s_var (pv 6)) (z_add (s_var (pv 2)) (z_int))) (a_cons (z_fn C c_goes_on (by decide) (a_cons (s_var (pv 0)) (a_cons (s_var (pv 2)) (a_cons (s_var (pv 7)) (a_cons (s_var (pv 3)) (sa_nil)))))) (a_cons (z_int) (sa_nil))))))))) (ss_one (s_return (s_var (pv 4))))))
/-! ### figure_counts -/
def x_figure_counts_1 : Ev := mFn m_count_at (mConsA (mVar 0) (mConsA (mVar 3) (mConsA (mVar 2) (mConsA (mVar 5) (mNilA)))))
def x_figure_counts_2 : ExS := xDrop (mMut gAppend 4 (mConsD (mCall dTuple (mConsA (mComp (iRange1 (mConsD (mBin dIx (mVar 0) (mFz (.int 1))) (mNilD))) (bName 5) (mYes) (x_figure_counts_1) [5]) (mNilA))) (mNilD)))
def x_figure_counts : ExS := xSeq (xDrop (mFn m_check_sized (mConsA (mVar 0) (mConsA (mVar 1) (mNilA))))) (xSeq (xPar [3, 4] (mConsV (mFn m_ways_by (mConsA (mVar 0) (mConsA (mVar 1) (mNilA)))) (mConsV (mLst (mNilD)) (mNilV)))) (xSeq (xFor (iRange1 (mConsD (mVar 1) (mNilD))) (bName 2) (x_figure_counts_2)) (xRet (mCall dTuple (mConsA (mVar 4) (mNilA))))))
def m_figure_counts : FRun := runN x_figure_counts 2 6
theorem sc_figure_counts : FnScope ["rule", "size", "place", "ways", "found", "figure"] ["rule", "size"] (defScope (top 46)) := C8.fnScope_by (by decide +kernel)
set_option maxRecDepth 100000 in
theorem b_figure_counts (G : Gs w K mg) (c_count_at : Cal P w K mg base 2 "count_at" (spN K m_count_at)) (c_ways_by : Cal P w K mg base 3 "ways_by" (spN K m_ways_by)) (c_check_sized : Cal P w K mg base 8 "check_sized" (spN K m_check_sized)) {f : Addr} {fd : FuncData} (F : FunD K "figure_counts" "figure_counts" (defArgs (top 46)) (defBody (top 46)) (defScope (top 46)) [] [] f fd) (hm : mg "figure_counts" = some (.ref f)) : Cal P w K mg base 9 "figure_counts" (spN K m_figure_counts) :=
  def_N (N := ["rule", "size", "place", "ways", "found", "figure"]) (ps := ["rule", "size"]) F (xs := x_figure_counts) (np := 2) (n := 6) rfl rfl (by decide) rfl sc_figure_counts hm (fun _ _ _ _ _ _ us hl => match us, hl with | [_, _], _ => rfl) fun cdv A outer s H E hgd hr => by
    have C : Ctx (cxOf CX0 P w K mg base ["rule", "size", "place", "ways", "found", "figure"] "figure_counts" (defScope (top 46)) f cdv A outer s H E).nox 8 := ⟨rfl, hgd, hr⟩
    have nd : (["rule", "size", "place", "ways", "found", "figure"] : List Str).Nodup := sc_figure_counts.nd
    unfold x_figure_counts x_figure_counts_2 x_figure_counts_1
    exact ss_cons (y_drop (z_fn C c_check_sized (by decide) (a_cons (s_var (pv 0)) (a_cons (s_var (pv 1)) (sa_nil))))) (ss_cons (s_par C.calm (v_cons (z_fn C c_ways_by (by decide) (a_cons (s_var (pv 0)) (a_cons (s_var (pv 1)) (sa_nil)))) (v_cons (s_lst (sd_nil)) (sv_nil))) (sgn_cons (i := 3) (pg_name nd rfl (by first | exact .inl rfl | exact .inr rfl) (by first | exact .inl rfl | exact .inr rfl)) (sgn_cons (i := 4) (pg_name nd rfl (by first | exact .inl rfl | exact .inr rfl) (by first | exact .inl rfl | exact .inr rfl)) (sgn_nil) rfl) rfl) rfl rfl rfl rfl rfl) (ss_cons (y_for PassesOwn.never C (i_r1 G.g_range (d_cons (s_var (pv 1)) (sd_nil))) (g_name nd) (ss_one (y_drop (z_mut gAppend_ok (pv 4) (d_cons (z_tuple G.g_tuple (a_cons (z_comp (own := [("figure", 5)]) C nd (i_r1 G.g_range (d_cons (z_ix C (s_var (pv 0)) (z_int)) (sd_nil))) (by rfl) (by decide) (fun _ _ _ _ _ => g_name nd) (fun _ _ _ _ _ C => t_yes) (fun _ _ _ _ _ C => z_fn C c_count_at (by decide) (a_cons (s_var (pv 0)) (a_cons (s_var (pv 3)) (a_cons (s_var (pv 2)) (a_cons (s_var (pv 5)) (sa_nil))))))) (sa_nil))) (sd_nil)))))) (ss_one (s_return (z_tuple G.g_tuple (a_cons (s_var (pv 4)) (sa_nil)))))))
/-! ### fairness -/
def x_fairness_1 : Ev := mTup (mConsD (mCall dMin (mConsA (mVar 2) (mNilA))) (mConsD (mCall dMax (mConsA (mVar 2) (mNilA))) (mNilD)))
def x_fairness : ExS := xSeq (xDrop (mFn m_check_sized (mConsA (mVar 0) (mConsA (mVar 1) (mNilA))))) (xSeq (xDrop (mFn m_check_few (mConsA (mVar 0) (mConsA (mVar 1) (mNilA))))) (xRet (mCall dTuple (mConsA (mComp (iSeq (mFn m_figure_counts (mConsA (mVar 0) (mConsA (mVar 1) (mNilA))))) (bName 2) (mYes) (x_fairness_1) [2]) (mNilA)))))
def m_fairness : FRun := runN x_fairness 2 3
theorem sc_fairness : FnScope ["rule", "size", "row"] ["rule", "size"] (defScope (top 48)) := C8.fnScope_by (by decide +kernel)
set_option maxRecDepth 100000 in
theorem b_fairness (G : Gs w K mg) (c_figure_counts : Cal P w K mg base 9 "figure_counts" (spN K m_figure_counts)) (c_check_few : Cal P w K mg base 2 "check_few" (spN K m_check_few)) (c_check_sized : Cal P w K mg base 8 "check_sized" (spN K m_check_sized)) {f : Addr} {fd : FuncData} (F : FunD K "fairness" "fairness" (defArgs (top 48)) (defBody (top 48)) (defScope (top 48)) [] [] f fd) (hm : mg "fairness" = some (.ref f)) : Cal P w K mg base 10 "fairness" (spN K m_fairness) :=
  def_N (N := ["rule", "size", "row"]) (ps := ["rule", "size"]) F (xs := x_fairness) (np := 2) (n := 3) rfl rfl (by decide) rfl sc_fairness hm (fun _ _ _ _ _ _ us hl => match us, hl with | [_, _], _ => rfl) fun cdv A outer s H E hgd hr => by
    have C : Ctx (cxOf CX0 P w K mg base ["rule", "size", "row"] "fairness" (defScope (top 48)) f cdv A outer s H E).nox 9 := ⟨rfl, hgd, hr⟩
    have nd : (["rule", "size", "row"] : List Str).Nodup := sc_fairness.nd
    unfold x_fairness x_fairness_1
    exact ss_cons (y_drop (z_fn C c_check_sized (by decide) (a_cons (s_var (pv 0)) (a_cons (s_var (pv 1)) (sa_nil))))) (ss_cons (y_drop (z_fn C c_check_few (by decide) (a_cons (s_var (pv 0)) (a_cons (s_var (pv 1)) (sa_nil))))) (ss_one (s_return (z_tuple G.g_tuple (a_cons (z_comp (own := [("row", 2)]) C nd (si_seq (z_fn C c_figure_counts (by decide) (a_cons (s_var (pv 0)) (a_cons (s_var (pv 1)) (sa_nil))))) (by rfl) (by decide) (fun _ _ _ _ _ => g_name nd) (fun _ _ _ _ _ C => t_yes) (fun _ _ _ _ _ C => s_tup (d_cons (z_min C G.g_min (a_cons (s_var (pv 2)) (sa_nil))) (d_cons (z_max C G.g_max (a_cons (s_var (pv 2)) (sa_nil))) (sd_nil))))) (sa_nil))))))
/-! ### _law_take -/
def x__law_take : ExS := xSeq (xIf (mTestB (mBin dGt (mBin dIx (mVar 0) (mFz (.int 0))) (mFz (.int 0)))) (xSeq (xSet 4 (mBin dMod (mCall dInt (mConsA (mBin dIx (mVar 0) (mFz (.int 0))) (mNilA))) (mVar 1))) (xSeq (xPut gSet 0 (mFz (.int 0)) (mBin dDiv (mBin dIx (mVar 0) (mFz (.int 0))) (mVar 1))) (xRet (mVar 4)))) (xNil)) (xSeq (xPut gSet 0 (mFz (.int 2)) (mBin dAdd (mBin dIx (mVar 0) (mFz (.int 2))) (mFz (.int 1)))) (xSeq (xSet 2 (mBin dIx (mLst (mConsD (mFz (.int 2147482109)) (mConsD (mFz (.int 2147482099)) (mConsD (mFz (.int 2147482091)) (mConsD (mFz (.int 2147482073)) (mConsD (mFz (.int 2147482067)) (mNilD))))))) (mBin dMod (mCall dInt (mConsA (mBin dIx (mVar 0) (mFz (.int 2))) (mNilA))) (mFz (.int 5))))) (xSeq (xSet 3 (mBin dMod (mCall dInt (mConsA (mBin dPow (mCall dInt (mConsA (mBin dAdd (mBin dAdd (mBin dIx (mVar 0) (mFz (.int 1))) (mBin dMul (mBin dMul (mFz (.int 71233)) (mBin dIx (mVar 0) (mFz (.int 2)))) (mBin dIx (mVar 0) (mFz (.int 2))))) (mFz (.int 2111))) (mNilA))) (mFz (.int 3))) (mNilA))) (mVar 2))) (xSeq (xSet 3 (mBin dMod (mCall dInt (mConsA (mBin dMul (mVar 3) (mBin dAdd (mBin dMod (mCall dInt (mConsA (mVar 3) (mNilA))) (mFz (.int 7919))) (mBin dMul (mFz (.int 251)) (mBin dIx (mVar 0) (mFz (.int 2)))))) (mNilA))) (mFz (.int 2305843009213693907)))) (xRet (mBin dMod (mCall dInt (mConsA (mBin dDiv (mVar 3) (mFz (.int 151))) (mNilA))) (mVar 1)))))))
def m__law_take : FRun := runIO x__law_take 2 5
theorem sc__law_take : FnScope ["pot", "upto", "prime", "blend", "digit"] ["pot", "upto"] (defScope (top 51)) := C8.fnScope_by (by decide +kernel)
set_option maxRecDepth 100000 in
theorem b__law_take (G : Gs w K mg)  {f : Addr} {fd : FuncData} (F : FunD K "_law_take" "_law_take" (defArgs (top 51)) (defBody (top 51)) (defScope (top 51)) [] [] f fd) (hm : mg "_law_take" = some (.ref f)) : Cal P w K mg base 1 "_law_take" (spIO K m__law_take) :=
  def_IO (N := ["pot", "upto", "prime", "blend", "digit"]) (ps := ["pot", "upto"]) F (xs := x__law_take) (np := 2) (n := 5) rfl rfl (by decide) rfl sc__law_take hm (fun _ _ _ _ _ _ us hl => match us, hl with | [_, _], _ => rfl) fun cdv A outer s H E hgd hr => by
    have C : Ctx (cxOf CX0 P w K mg base ["pot", "upto", "prime", "blend", "digit"] "_law_take" (defScope (top 51)) f cdv A outer s H E).nox 0 := ⟨rfl, hgd, hr⟩
    have nd : (["pot", "upto", "prime", "blend", "digit"] : List Str).Nodup := sc__law_take.nd
    unfold x__law_take
    exact ss_cons (s_if (t_gt (z_ix C (s_var (pv 0)) (z_int)) (z_int)) (ss_cons (y_set (i := 4) nd (z_mod (z_cint G.g_int (a_cons (z_ix C (s_var (pv 0)) (z_int)) (sa_nil))) (s_var (pv 1)))) (ss_cons (y_put C (pv 0) (z_int) (z_div (z_ix C (s_var (pv 0)) (z_int)) (s_var (pv 1)))) (ss_one (s_return (s_var (pv 4)))))) (ss_nil)) (ss_cons (y_put C (pv 0) (z_int) (z_add (z_ix C (s_var (pv 0)) (z_int)) (z_int))) (ss_cons (y_set (i := 2) nd (z_ix C (s_lst (d_cons (z_int) (d_cons (z_int) (d_cons (z_int) (d_cons (z_int) (d_cons (z_int) (sd_nil))))))) (z_mod (z_cint G.g_int (a_cons (z_ix C (s_var (pv 0)) (z_int)) (sa_nil))) (z_int)))) (ss_cons (y_set (i := 3) nd (z_mod (z_cint G.g_int (a_cons (z_pow (z_cint G.g_int (a_cons (z_add (z_add (z_ix C (s_var (pv 0)) (z_int)) (z_mul (z_mul (z_int) (z_ix C (s_var (pv 0)) (z_int))) (z_ix C (s_var (pv 0)) (z_int)))) (z_int)) (sa_nil))) (z_int)) (sa_nil))) (s_var (pv 2)))) (ss_cons (y_set (i := 3) nd (z_mod (z_cint G.g_int (a_cons (z_mul (s_var (pv 3)) (z_add (z_mod (z_cint G.g_int (a_cons (s_var (pv 3)) (sa_nil))) (z_int)) (z_mul (z_int) (z_ix C (s_var (pv 0)) (z_int))))) (sa_nil))) (z_int))) (ss_one (s_return (z_mod (z_cint G.g_int (a_cons (z_div (s_var (pv 3)) (z_int)) (sa_nil))) (s_var (pv 1)))))))))
/-! ### _law_of -/
def x__law_of : ExS := xRet (mBin dIx (mVar 1) (mFnIO m__law_take 0 (mConsD (mCall dLen (mConsA (mVar 1) (mNilA))) (mNilD))))
def m__law_of : FRun := runIO x__law_of 2 2
theorem sc__law_of : FnScope ["pot", "some"] ["pot", "some"] (defScope (top 52)) := C8.fnScope_by (by decide +kernel)
set_option maxRecDepth 100000 in
theorem b__law_of (G : Gs w K mg) (c__law_take : Cal P w K mg base 1 "_law_take" (spIO K m__law_take)) {f : Addr} {fd : FuncData} (F : FunD K "_law_of" "_law_of" (defArgs (top 52)) (defBody (top 52)) (defScope (top 52)) [] [] f fd) (hm : mg "_law_of" = some (.ref f)) : Cal P w K mg base 2 "_law_of" (spIO K m__law_of) :=
  def_IO (N := ["pot", "some"]) (ps := ["pot", "some"]) F (xs := x__law_of) (np := 2) (n := 2) rfl rfl (by decide) rfl sc__law_of hm (fun _ _ _ _ _ _ us hl => match us, hl with | [_, _], _ => rfl) fun cdv A outer s H E hgd hr => by
    have C : Ctx (cxOf CX0 P w K mg base ["pot", "some"] "_law_of" (defScope (top 52)) f cdv A outer s H E).nox 1 := ⟨rfl, hgd, hr⟩
    have nd : (["pot", "some"] : List Str).Nodup := sc__law_of.nd
    unfold x__law_of
    exact ss_one (s_return (z_ix C (s_var (pv 1)) (z_io C c__law_take (by decide) (pv 0) (d_cons (z_len G.g_len (a_cons (s_var (pv 1)) (sa_nil))) (sd_nil)))))
/-! ### _law_some -/
def x__law_some_1 : ExS := xDrop (mMut gAppend 5 (mConsD (mMut gPop 4 (mConsD (mFnIO m__law_take 0 (mConsD (mCall dLen (mConsA (mVar 4) (mNilA))) (mNilD))) (mNilD))) (mNilD)))
def x__law_some : ExS := xSeq (xPar [4, 5] (mConsV (mCall dList (mConsA (mVar 1) (mNilA))) (mConsV (mLst (mNilD)) (mNilV)))) (xSeq (xFor (iRange1 (mConsD (mVar 2) (mNilD))) (bName 3) (x__law_some_1)) (xRet (mVar 5)))
def m__law_some : FRun := runIO x__law_some 3 6
theorem sc__law_some : FnScope ["pot", "some", "many", "lap", "left", "found"] ["pot", "some", "many"] (defScope (top 53)) := C8.fnScope_by (by decide +kernel)
set_option maxRecDepth 100000 in
theorem b__law_some (G : Gs w K mg) (c__law_take : Cal P w K mg base 1 "_law_take" (spIO K m__law_take)) {f : Addr} {fd : FuncData} (F : FunD K "_law_some" "_law_some" (defArgs (top 53)) (defBody (top 53)) (defScope (top 53)) [] [] f fd) (hm : mg "_law_some" = some (.ref f)) : Cal P w K mg base 2 "_law_some" (spIO K m__law_some) :=
  def_IO (N := ["pot", "some", "many", "lap", "left", "found"]) (ps := ["pot", "some", "many"]) F (xs := x__law_some) (np := 3) (n := 6) rfl rfl (by decide) rfl sc__law_some hm (fun _ _ _ _ _ _ us hl => match us, hl with | [_, _, _], _ => rfl) fun cdv A outer s H E hgd hr => by
    have C : Ctx (cxOf CX0 P w K mg base ["pot", "some", "many", "lap", "left", "found"] "_law_some" (defScope (top 53)) f cdv A outer s H E).nox 1 := ⟨rfl, hgd, hr⟩
    have nd : (["pot", "some", "many", "lap", "left", "found"] : List Str).Nodup := sc__law_some.nd
    unfold x__law_some x__law_some_1
    exact ss_cons (s_par2 (i := 4) (j := 5) (ps_par (i := 4) (j := 5) C.calm nd rfl rfl (by decide) rfl rfl (v_cons (z_list G.g_list (a_cons (s_var (pv 1)) (sa_nil))) (v_cons (s_lst (sd_nil)) (sv_nil))) rfl)) (ss_cons (y_for PassesOwn.never C (i_r1 G.g_range (d_cons (s_var (pv 2)) (sd_nil))) (g_name nd) (ss_one (y_drop (z_mut gAppend_ok (pv 5) (d_cons (z_mut gPop_ok (pv 4) (d_cons (z_io C c__law_take (by decide) (pv 0) (d_cons (z_len G.g_len (a_cons (s_var (pv 4)) (sa_nil))) (sd_nil))) (sd_nil))) (sd_nil)))))) (ss_one (s_return (s_var (pv 5)))))
/-! ### _law_rule -/
def x__law_rule_1 : Ev := mFnIO m__law_take 0 (mConsD (mVar 3) (mNilD))
def x__law_rule_2 : ExS := xSeq (xSet 8 (mComp (iRange1 (mConsD (mVar 1) (mNilD))) (bName 10) (mYes) (x__law_rule_1) [10])) (xDrop (mMut gAppend 5 (mConsD (mIf (mAndT (mTestB (mBin dEq (mVar 4) (mFz (.int 3)))) (mTestB (mBin dEq (mVar 3) (mVar 1)))) (mCall dTuple (mConsA (mFnIO m__law_some 0 (mConsD (mLr1 (mVar 1)) (mConsD (mVar 1) (mNilD)))) (mNilA))) (mCall dTuple (mConsA (mVar 8) (mNilA)))) (mNilD))))
def x__law_rule_3 : Ev := mFnIO m__law_take 0 (mConsD (mVar 3) (mNilD))
def x__law_rule_4 : Ev := mBin dMod (mBin dAdd (mVar 8) (mBin dMul (mVar 9) (mVar 10))) (mVar 1)
def x__law_rule_5 : Ev := mCall dTuple (mConsA (mComp (iRange1 (mConsD (mVar 1) (mNilD))) (bName 10) (mYes) (x__law_rule_4) [10]) (mNilA))
def x__law_rule_6 : Ev := mFnIO m__law_take 0 (mConsD (mVar 1) (mNilD))
def x__law_rule_7 : Ev := mCall dTuple (mConsA (mComp (iRange1 (mConsD (mVar 1) (mNilD))) (bName 10) (mYes) (x__law_rule_6) [10]) (mNilA))
def x__law_rule : ExS := xSeq (xSet 3 (mFnIO m__law_of 0 (mConsD (mLst (mConsD (mVar 1) (mConsD (mVar 1) (mConsD (mBin dAdd (mFz (.int 2)) (mFnIO m__law_take 0 (mConsD (mFz (.int 9)) (mNilD)))) (mNilD))))) (mNilD)))) (xSeq (xSet 4 (mFnIO m__law_take 0 (mConsD (mFz (.int 5)) (mNilD)))) (xSeq (xIf (mTestB (mBin dEq (mVar 4) (mFz (.int 0)))) (xRet (mTup (mConsD (mFz (.str "value")) (mConsD (mVar 1) (mConsD (mVar 3) (mConsD (mFnIO m__law_take 0 (mConsD (mVar 3) (mNilD))) (mNilD))))))) (xNil)) (xSeq (xIf (mTestB (mBin dEq (mVar 4) (mFz (.int 1)))) (xSeq (xSet 7 (mCall dTuple (mConsA (mComp (iRange1 (mConsD (mVar 1) (mNilD))) (bName 8) (mYes) (x__law_rule_7) [8]) (mNilA)))) (xSeq (xIf (mTestB (mBin dEq (mFnIO m__law_take 0 (mConsD (mFz (.int 2)) (mNilD))) (mFz (.int 0)))) (xSeq (xSet 9 (mBin dAdd (mFz (.int 1)) (mFnIO m__law_take 0 (mConsD (mBin dSub (mVar 1) (mFz (.int 1))) (mNilD))))) (xSet 7 (mCall dTuple (mConsA (mComp (iRange1 (mConsD (mVar 1) (mNilD))) (bName 8) (mYes) (x__law_rule_5) [8]) (mNilA))))) (xNil)) (xRet (mTup (mConsD (mFz (.str "square")) (mConsD (mVar 1) (mConsD (mVar 7) (mConsD (mFnIO m__law_take 0 (mConsD (mVar 1) (mNilD))) (mConsD (mFnIO m__law_take 0 (mConsD (mVar 1) (mNilD))) (mNilD)))))))))) (xNil)) (xSeq (xIf (mTestB (mBin dEq (mVar 4) (mFz (.int 2)))) (xRet (mTup (mConsD (mFz (.str "weights")) (mConsD (mVar 1) (mConsD (mVar 3) (mConsD (mCall dTuple (mConsA (mComp (iRange1 (mConsD (mVar 2) (mNilD))) (bName 6) (mYes) (x__law_rule_3) [6]) (mNilA))) (mConsD (mFnIO m__law_take 0 (mConsD (mVar 3) (mNilD))) (mNilD)))))))) (xNil)) (xSeq (xSet 5 (mLst (mNilD))) (xSeq (xFor (iRange1 (mConsD (mVar 2) (mNilD))) (bName 6) (x__law_rule_2)) (xRet (mTup (mConsD (mFz (.str "tables")) (mConsD (mVar 1) (mConsD (mVar 3) (mConsD (mCall dTuple (mConsA (mVar 5) (mNilA))) (mConsD (mFnIO m__law_take 0 (mConsD (mVar 3) (mNilD))) (mNilD))))))))))))))
def m__law_rule : FRun := runIO x__law_rule 3 11
theorem sc__law_rule : FnScope ["pot", "base", "size", "whole", "way", "rows", "place", "square", "row", "step", "figure"] ["pot", "base", "size"] (defScope (top 58)) := C8.fnScope_by (by decide +kernel)
set_option maxRecDepth 100000 in
theorem b__law_rule (G : Gs w K mg) (c__law_take : Cal P w K mg base 1 "_law_take" (spIO K m__law_take)) (c__law_some : Cal P w K mg base 2 "_law_some" (spIO K m__law_some)) (c__law_of : Cal P w K mg base 2 "_law_of" (spIO K m__law_of)) {f : Addr} {fd : FuncData} (F : FunD K "_law_rule" "_law_rule" (defArgs (top 58)) (defBody (top 58)) (defScope (top 58)) [] [] f fd) (hm : mg "_law_rule" = some (.ref f)) : Cal P w K mg base 3 "_law_rule" (spIO K m__law_rule) :=
  def_IO (N := ["pot", "base", "size", "whole", "way", "rows", "place", "square", "row", "step", "figure"]) (ps := ["pot", "base", "size"]) F (xs := x__law_rule) (np := 3) (n := 11) rfl rfl (by decide) rfl sc__law_rule hm (fun _ _ _ _ _ _ us hl => match us, hl with | [_, _, _], _ => rfl) fun cdv A outer s H E hgd hr => by
    have C : Ctx (cxOf CX0 P w K mg base ["pot", "base", "size", "whole", "way", "rows", "place", "square", "row", "step", "figure"] "_law_rule" (defScope (top 58)) f cdv A outer s H E).nox 2 := ⟨rfl, hgd, hr⟩
    have nd : (["pot", "base", "size", "whole", "way", "rows", "place", "square", "row", "step", "figure"] : List Str).Nodup := sc__law_rule.nd
    unfold x__law_rule x__law_rule_7 x__law_rule_6 x__law_rule_5 x__law_rule_4 x__law_rule_3 x__law_rule_2 x__law_rule_1
    exact ss_cons (y_set (i := 3) nd (z_io C c__law_of (by decide) (pv 0) (d_cons (s_lst (d_cons (s_var (pv 1)) (d_cons (s_var (pv 1)) (d_cons (z_add (z_int) (z_io C c__law_take (by decide) (pv 0) (d_cons (z_int) (sd_nil)))) (sd_nil))))) (sd_nil)))) (ss_cons (y_set (i := 4) nd (z_io C c__law_take (by decide) (pv 0) (d_cons (z_int) (sd_nil)))) (ss_cons (s_if (t_eq C (s_var (pv 4)) (z_int)) (ss_one (s_return (s_tup (d_cons (z_str) (d_cons (s_var (pv 1)) (d_cons (s_var (pv 3)) (d_cons (z_io C c__law_take (by decide) (pv 0) (d_cons (s_var (pv 3)) (sd_nil))) (sd_nil)))))))) (ss_nil)) (ss_cons (s_if (t_eq C (s_var (pv 4)) (z_int)) (ss_cons (y_set (i := 7) nd (z_tuple G.g_tuple (a_cons (z_comp (own := [("row", 8)]) C nd (i_r1 G.g_range (d_cons (s_var (pv 1)) (sd_nil))) (by rfl) (by decide) (fun _ _ _ _ _ => g_name nd) (fun _ _ _ _ _ C => t_yes) (fun _ _ _ _ _ C => z_tuple G.g_tuple (a_cons (z_comp (own := [("figure", 10)]) C nd (i_r1 G.g_range (d_cons (s_var (pv 1)) (sd_nil))) (by rfl) (by decide) (fun _ _ _ _ _ => g_name nd) (fun _ _ _ _ _ C => t_yes) (fun _ _ _ _ _ C => z_io C c__law_take (by decide) (pv 0) (d_cons (s_var (pv 1)) (sd_nil)))) (sa_nil)))) (sa_nil)))) (ss_cons (s_if (t_eq C (z_io C c__law_take (by decide) (pv 0) (d_cons (z_int) (sd_nil))) (z_int)) (ss_cons (y_set (i := 9) nd (z_add (z_int) (z_io C c__law_take (by decide) (pv 0) (d_cons (z_sub (s_var (pv 1)) (z_int)) (sd_nil))))) (ss_one (y_set (i := 7) nd (z_tuple G.g_tuple (a_cons (z_comp (own := [("row", 8)]) C nd (i_r1 G.g_range (d_cons (s_var (pv 1)) (sd_nil))) (by rfl) (by decide) (fun _ _ _ _ _ => g_name nd) (fun _ _ _ _ _ C => t_yes) (fun _ _ _ _ _ C => z_tuple G.g_tuple (a_cons (z_comp (own := [("figure", 10)]) C nd (i_r1 G.g_range (d_cons (s_var (pv 1)) (sd_nil))) (by rfl) (by decide) (fun _ _ _ _ _ => g_name nd) (fun _ _ _ _ _ C => t_yes) (fun _ _ _ _ _ C => z_mod (z_add (s_var (pv 8)) (z_mul (s_var (pv 9)) (s_var (pv 10)))) (s_var (pv 1)))) (sa_nil)))) (sa_nil)))))) (ss_nil)) (ss_one (s_return (s_tup (d_cons (z_str) (d_cons (s_var (pv 1)) (d_cons (s_var (pv 7)) (d_cons (z_io C c__law_take (by decide) (pv 0) (d_cons (s_var (pv 1)) (sd_nil))) (d_cons (z_io C c__law_take (by decide) (pv 0) (d_cons (s_var (pv 1)) (sd_nil))) (sd_nil))))))))))) (ss_nil)) (ss_cons (s_if (t_eq C (s_var (pv 4)) (z_int)) (ss_one (s_return (s_tup (d_cons (z_str) (d_cons (s_var (pv 1)) (d_cons (s_var (pv 3)) (d_cons (z_tuple G.g_tuple (a_cons (z_comp (own := [("place", 6)]) C nd (i_r1 G.g_range (d_cons (s_var (pv 2)) (sd_nil))) (by rfl) (by decide) (fun _ _ _ _ _ => g_name nd) (fun _ _ _ _ _ C => t_yes) (fun _ _ _ _ _ C => z_io C c__law_take (by decide) (pv 0) (d_cons (s_var (pv 3)) (sd_nil)))) (sa_nil))) (d_cons (z_io C c__law_take (by decide) (pv 0) (d_cons (s_var (pv 3)) (sd_nil))) (sd_nil))))))))) (ss_nil)) (ss_cons (y_set (i := 5) nd (s_lst (sd_nil))) (ss_cons (y_for PassesOwn.never C (i_r1 G.g_range (d_cons (s_var (pv 2)) (sd_nil))) (g_name nd) (ss_cons (y_setC (i := 8) (own := [("figure", 10)]) C nd (i_r1 G.g_range (d_cons (s_var (pv 1)) (sd_nil))) (by rfl) (by decide) (fun _ _ _ _ _ => g_name nd) (fun _ _ _ _ _ C => t_yes) (fun _ _ _ _ _ C => z_io C c__law_take (by decide) (pv 0) (d_cons (s_var (pv 3)) (sd_nil)))) (ss_one (y_drop (z_mut gAppend_ok (pv 5) (d_cons (s_ite (PW.pt (sw_and (t_eq C (s_var (pv 4)) (z_int)) (sw_and1 (t_eq C (s_var (pv 3)) (s_var (pv 1)))))) (z_tuple G.g_tuple (a_cons (z_io C c__law_some (by decide) (pv 0) (d_cons (z_lr1 C G.g_list G.g_range (s_var (pv 1))) (d_cons (s_var (pv 1)) (sd_nil)))) (sa_nil))) (z_tuple G.g_tuple (a_cons (s_var (pv 8)) (sa_nil)))) (sd_nil))))))) (ss_one (s_return (s_tup (d_cons (z_str) (d_cons (s_var (pv 1)) (d_cons (s_var (pv 3)) (d_cons (z_tuple G.g_tuple (a_cons (s_var (pv 5)) (sa_nil))) (d_cons (z_io C c__law_take (by decide) (pv 0) (d_cons (s_var (pv 3)) (sd_nil))) (sd_nil)))))))))))))))
/-! ### _law_labels -/
def x__law_labels_1 : Ev := mBin dAdd (mVar 5) (mTup (mConsD (mVar 6) (mNilD)))
def x__law_labels_2 : ExS := xDrop (mMut gExtend 4 (mConsD (mComp (iRange1 (mConsD (mVar 0) (mNilD))) (bName 6) (mYes) (x__law_labels_1) [6]) (mNilD)))
def x__law_labels_3 : ExS := xSeq (xSet 4 (mLst (mNilD))) (xSeq (xFor (iSeq (mVar 2)) (bName 5) (x__law_labels_2)) (xSet 2 (mVar 4)))
def x__law_labels : ExS := xSeq (xSet 2 (mLst (mConsD (mTup (mNilD)) (mNilD)))) (xSeq (xFor (iRange1 (mConsD (mVar 1) (mNilD))) (bName 3) (x__law_labels_3)) (xRet (mVar 2)))
def m__law_labels : FRun := runN x__law_labels 2 7
theorem sc__law_labels : FnScope ["base", "size", "found", "place", "longer", "row", "figure"] ["base", "size"] (defScope (top 55)) := C8.fnScope_by (by decide +kernel)
set_option maxRecDepth 100000 in
theorem b__law_labels (G : Gs w K mg)  {f : Addr} {fd : FuncData} (F : FunD K "_law_labels" "_law_labels" (defArgs (top 55)) (defBody (top 55)) (defScope (top 55)) [] [] f fd) (hm : mg "_law_labels" = some (.ref f)) : Cal P w K mg base 1 "_law_labels" (spN K m__law_labels) :=
  def_N (N := ["base", "size", "found", "place", "longer", "row", "figure"]) (ps := ["base", "size"]) F (xs := x__law_labels) (np := 2) (n := 7) rfl rfl (by decide) rfl sc__law_labels hm (fun _ _ _ _ _ _ us hl => match us, hl with | [_, _], _ => rfl) fun cdv A outer s H E hgd hr => by
    have C : Ctx (cxOf CX0 P w K mg base ["base", "size", "found", "place", "longer", "row", "figure"] "_law_labels" (defScope (top 55)) f cdv A outer s H E).nox 0 := ⟨rfl, hgd, hr⟩
    have nd : (["base", "size", "found", "place", "longer", "row", "figure"] : List Str).Nodup := sc__law_labels.nd
    unfold x__law_labels x__law_labels_3 x__law_labels_2 x__law_labels_1
    exact ss_cons (y_set (i := 2) nd (s_lst (d_cons (s_tup (sd_nil)) (sd_nil)))) (ss_cons (y_for PassesOwn.never C (i_r1 G.g_range (d_cons (s_var (pv 1)) (sd_nil))) (g_name nd) (ss_cons (y_set (i := 4) nd (s_lst (sd_nil))) (ss_cons (y_for PassesOwn.never C (si_seq (s_var (pv 2))) (g_name nd) (ss_one (y_drop (z_mut gExtend_ok (pv 4) (d_cons (z_comp (own := [("figure", 6)]) C nd (i_r1 G.g_range (d_cons (s_var (pv 0)) (sd_nil))) (by rfl) (by decide) (fun _ _ _ _ _ => g_name nd) (fun _ _ _ _ _ C => t_yes) (fun _ _ _ _ _ C => z_add (s_var (pv 5)) (s_tup (d_cons (s_var (pv 6)) (sd_nil))))) (sd_nil)))))) (ss_one (y_set (i := 2) nd (s_var (pv 4))))))) (ss_one (s_return (s_var (pv 2)))))
/-! ### _law_tells -/
def x__law_tells_1 : ExS := xIf (mTestB (mBin dEq (mBin dIx (mVar 0) (mFz (.int 0))) (mFz (.str "weights")))) (xSet 2 (mBin dAdd (mVar 2) (mBin dMul (mBin dIx (mBin dIx (mVar 0) (mFz (.int 3))) (mVar 5)) (mVar 4)))) (xIf (mTestB (mBin dEq (mBin dIx (mVar 0) (mFz (.int 0))) (mFz (.str "tables")))) (xSet 2 (mBin dAdd (mVar 2) (mBin dIx (mBin dIx (mBin dIx (mVar 0) (mFz (.int 3))) (mVar 5)) (mVar 4)))) (xSet 2 (mBin dAdd (mBin dMul (mVar 2) (mBin dIx (mVar 0) (mFz (.int 1)))) (mVar 4))))
def x__law_tells_2 : ExS := xSet 3 (mBin dIx (mBin dIx (mBin dIx (mVar 0) (mFz (.int 2))) (mVar 3)) (mVar 4))
def x__law_tells : ExS := xSeq (xIf (mTestB (mBin dEq (mBin dIx (mVar 0) (mFz (.int 0))) (mFz (.str "square")))) (xSeq (xSet 3 (mBin dIx (mVar 0) (mFz (.int 3)))) (xSeq (xFor (iSeq (mVar 1)) (bName 4) (x__law_tells_2)) (xRet (mVar 3)))) (xNil)) (xSeq (xSet 2 (mFz (.int 0))) (xSeq (xFor (iEnumD (mConsD (mVar 1) (mNilD))) (bTup 2 (bCons (bName 5) (bCons (bName 4) (bNil)))) (x__law_tells_1)) (xRet (mBin dMod (mVar 2) (mBin dIx (mVar 0) (mFz (.int 2)))))))
def m__law_tells : FRun := runN x__law_tells 2 6
theorem sc__law_tells : FnScope ["rule", "label", "found", "here", "figure", "place"] ["rule", "label"] (defScope (top 56)) := C8.fnScope_by (by decide +kernel)
set_option maxRecDepth 100000 in
theorem b__law_tells (G : Gs w K mg)  {f : Addr} {fd : FuncData} (F : FunD K "_law_tells" "_law_tells" (defArgs (top 56)) (defBody (top 56)) (defScope (top 56)) [] [] f fd) (hm : mg "_law_tells" = some (.ref f)) : Cal P w K mg base 1 "_law_tells" (spN K m__law_tells) :=
  def_N (N := ["rule", "label", "found", "here", "figure", "place"]) (ps := ["rule", "label"]) F (xs := x__law_tells) (np := 2) (n := 6) rfl rfl (by decide) rfl sc__law_tells hm (fun _ _ _ _ _ _ us hl => match us, hl with | [_, _], _ => rfl) fun cdv A outer s H E hgd hr => by
    have C : Ctx (cxOf CX0 P w K mg base ["rule", "label", "found", "here", "figure", "place"] "_law_tells" (defScope (top 56)) f cdv A outer s H E).nox 0 := ⟨rfl, hgd, hr⟩
    have nd : (["rule", "label", "found", "here", "figure", "place"] : List Str).Nodup := sc__law_tells.nd
    unfold x__law_tells x__law_tells_2 x__law_tells_1
    exact ss_cons (s_if (t_eq C (z_ix C (s_var (pv 0)) (z_int)) (z_str)) (ss_cons (y_set (i := 3) nd (z_ix C (s_var (pv 0)) (z_int))) (ss_cons (y_for PassesOwn.never C (si_seq (s_var (pv 1))) (g_name nd) (ss_one (y_set (i := 3) nd (z_ix C (z_ix C (z_ix C (s_var (pv 0)) (z_int)) (s_var (pv 3))) (s_var (pv 4)))))) (ss_one (s_return (s_var (pv 3)))))) (ss_nil)) (ss_cons (y_set (i := 2) nd (z_int)) (ss_cons (y_for PassesOwn.never C (i_en G.g_enumerate (d_cons (s_var (pv 1)) (sd_nil))) (g_tup C (gs_cons (g_name nd) (gs_cons (g_name nd) (sgs_nil)))) (ss_one (s_if (t_eq C (z_ix C (s_var (pv 0)) (z_int)) (z_str)) (ss_one (y_set (i := 2) nd (z_add (s_var (pv 2)) (z_mul (z_ix C (z_ix C (s_var (pv 0)) (z_int)) (s_var (pv 5))) (s_var (pv 4)))))) (ss_one (s_if (t_eq C (z_ix C (s_var (pv 0)) (z_int)) (z_str)) (ss_one (y_set (i := 2) nd (z_add (s_var (pv 2)) (z_ix C (z_ix C (z_ix C (s_var (pv 0)) (z_int)) (s_var (pv 5))) (s_var (pv 4)))))) (ss_one (y_set (i := 2) nd (z_add (z_mul (s_var (pv 2)) (z_ix C (s_var (pv 0)) (z_int))) (s_var (pv 4)))))))))) (ss_one (s_return (z_mod (s_var (pv 2)) (z_ix C (s_var (pv 0)) (z_int)))))))
/-! ### _law_is_good -/
def x__law_is_good : ExS := xRet (mBin dEq (mFn m__law_tells (mConsA (mVar 0) (mConsA (mVar 1) (mNilA)))) (mBin dIx (mVar 0) (mUn dNeg (mFz (.int 1)))))
def m__law_is_good : FRun := runN x__law_is_good 2 2
theorem sc__law_is_good : FnScope ["rule", "label"] ["rule", "label"] (defScope (top 57)) := C8.fnScope_by (by decide +kernel)
set_option maxRecDepth 100000 in
theorem b__law_is_good (c__law_tells : Cal P w K mg base 1 "_law_tells" (spN K m__law_tells)) {f : Addr} {fd : FuncData} (F : FunD K "_law_is_good" "_law_is_good" (defArgs (top 57)) (defBody (top 57)) (defScope (top 57)) [] [] f fd) (hm : mg "_law_is_good" = some (.ref f)) : Cal P w K mg base 2 "_law_is_good" (spN K m__law_is_good) :=
  def_N (N := ["rule", "label"]) (ps := ["rule", "label"]) F (xs := x__law_is_good) (np := 2) (n := 2) rfl rfl (by decide) rfl sc__law_is_good hm (fun _ _ _ _ _ _ us hl => match us, hl with | [_, _], _ => rfl) fun cdv A outer s H E hgd hr => by
    have C : Ctx (cxOf CX0 P w K mg base ["rule", "label"] "_law_is_good" (defScope (top 57)) f cdv A outer s H E).nox 1 := ⟨rfl, hgd, hr⟩
    have nd : (["rule", "label"] : List Str).Nodup := sc__law_is_good.nd
    unfold x__law_is_good
    exact ss_one (s_return (z_eq C (z_fn C c__law_tells (by decide) (a_cons (s_var (pv 0)) (a_cons (s_var (pv 1)) (sa_nil)))) (z_ix C (s_var (pv 0)) (z_neg (z_int)))))
/-! ### all_labels -/
def x_all_labels_1 : Ev := mTup (mStarD (mVar 5) (mConsD (mVar 6) (mNilD)))
def x_all_labels_2 : ExS := xDrop (mMut gExtend 4 (mConsD (mComp (iRange1 (mConsD (mVar 0) (mNilD))) (bName 6) (mYes) (x_all_labels_1) [6]) (mNilD)))
def x_all_labels_3 : ExS := xSeq (xSet 4 (mLst (mNilD))) (xSeq (xFor (iSeq (mVar 2)) (bName 5) (x_all_labels_2)) (xSet 2 (mVar 4)))
def x_all_labels : ExS := xSeq (xSet 2 (mLst (mConsD (mTup (mNilD)) (mNilD)))) (xSeq (xFor (iRange1 (mConsD (mVar 1) (mNilD))) (bName 3) (x_all_labels_3)) (xRet (mVar 2)))
def m_all_labels : FRun := runN x_all_labels 2 7
theorem sc_all_labels : FnScope ["base", "size", "found", "place", "longer", "row", "figure"] ["base", "size"] (defScope (top 16)) := C8.fnScope_by (by decide +kernel)
set_option maxRecDepth 100000 in
theorem b_all_labels (G : Gs w K mg)  {f : Addr} {fd : FuncData} (F : FunD K "all_labels" "all_labels" (defArgs (top 16)) (defBody (top 16)) (defScope (top 16)) [] [] f fd) (hm : mg "all_labels" = some (.ref f)) : Cal P w K mg base 1 "all_labels" (spN K m_all_labels) :=
  def_N (N := ["base", "size", "found", "place", "longer", "row", "figure"]) (ps := ["base", "size"]) F (xs := x_all_labels) (np := 2) (n := 7) rfl rfl (by decide) rfl sc_all_labels hm (fun _ _ _ _ _ _ us hl => match us, hl with | [_, _], _ => rfl) fun cdv A outer s H E hgd hr => by
    have C : Ctx (cxOf CX0 P w K mg base ["base", "size", "found", "place", "longer", "row", "figure"] "all_labels" (defScope (top 16)) f cdv A outer s H E).nox 0 := ⟨rfl, hgd, hr⟩
    have nd : (["base", "size", "found", "place", "longer", "row", "figure"] : List Str).Nodup := sc_all_labels.nd
    unfold x_all_labels x_all_labels_3 x_all_labels_2 x_all_labels_1
    exact ss_cons (y_set (i := 2) nd (s_lst (d_cons (s_tup (sd_nil)) (sd_nil)))) (ss_cons (y_for PassesOwn.never C (i_r1 G.g_range (d_cons (s_var (pv 1)) (sd_nil))) (g_name nd) (ss_cons (y_set (i := 4) nd (s_lst (sd_nil))) (ss_cons (y_for PassesOwn.never C (si_seq (s_var (pv 2))) (g_name nd) (ss_one (y_drop (z_mut gExtend_ok (pv 4) (d_cons (z_comp (own := [("figure", 6)]) C nd (i_r1 G.g_range (d_cons (s_var (pv 0)) (sd_nil))) (by rfl) (by decide) (fun _ _ _ _ _ => g_name nd) (fun _ _ _ _ _ C => t_yes) (fun _ _ _ _ _ C => s_tup (sd_star (s_var (pv 5)) (d_cons (s_var (pv 6)) (sd_nil))))) (sd_nil)))))) (ss_one (y_set (i := 2) nd (s_var (pv 4))))))) (ss_one (s_return (s_var (pv 2)))))
/-! ### tells_of -/
def x_tells_of_1 : ExS := xSet 2 (mFn m_goes_on (mConsA (mVar 0) (mConsA (mVar 3) (mConsA (mVar 2) (mConsA (mVar 4) (mNilA))))))
def x_tells_of : ExS := xSeq (xSet 2 (mFn m_begins (mConsA (mVar 0) (mNilA)))) (xSeq (xFor (iEnumD (mConsD (mVar 1) (mNilD))) (bTup 2 (bCons (bName 3) (bCons (bName 4) (bNil)))) (x_tells_of_1)) (xRet (mVar 2)))
def m_tells_of : FRun := runN x_tells_of 2 5
theorem sc_tells_of : FnScope ["rule", "label", "here", "place", "figure"] ["rule", "label"] (defScope (top 36)) := C8.fnScope_by (by decide +kernel)
set_option maxRecDepth 100000 in
theorem b_tells_of (G : Gs w K mg) (c_goes_on : Cal P w K mg base 1 "goes_on" (spN K m_goes_on)) (c_begins : Cal P w K mg base 1 "begins" (spN K m_begins)) {f : Addr} {fd : FuncData} (F : FunD K "tells_of" "tells_of" (defArgs (top 36)) (defBody (top 36)) (defScope (top 36)) [] [] f fd) (hm : mg "tells_of" = some (.ref f)) : Cal P w K mg base 2 "tells_of" (spN K m_tells_of) :=
  def_N (N := ["rule", "label", "here", "place", "figure"]) (ps := ["rule", "label"]) F (xs := x_tells_of) (np := 2) (n := 5) rfl rfl (by decide) rfl sc_tells_of hm (fun _ _ _ _ _ _ us hl => match us, hl with | [_, _], _ => rfl) fun cdv A outer s H E hgd hr => by
    have C : Ctx (cxOf CX0 P w K mg base ["rule", "label", "here", "place", "figure"] "tells_of" (defScope (top 36)) f cdv A outer s H E).nox 1 := ⟨rfl, hgd, hr⟩
    have nd : (["rule", "label", "here", "place", "figure"] : List Str).Nodup := sc_tells_of.nd
    unfold x_tells_of x_tells_of_1
    exact ss_cons (y_set (i := 2) nd (z_fn C c_begins (by decide) (a_cons (s_var (pv 0)) (sa_nil)))) (ss_cons (y_for PassesOwn.never C (i_en G.g_enumerate (d_cons (s_var (pv 1)) (sd_nil))) (g_tup C (gs_cons (g_name nd) (gs_cons (g_name nd) (sgs_nil)))) (ss_one (y_set (i := 2) nd (z_fn C c_goes_on (by decide) (a_cons (s_var (pv 0)) (a_cons (s_var (pv 3)) (a_cons (s_var (pv 2)) (a_cons (s_var (pv 4)) (sa_nil))))))))) (ss_one (s_return (s_var (pv 2)))))
/-! ### does_suit -/
def x_does_suit : ExS := xRet (mBin dEq (mFn m_tells_of (mConsA (mVar 0) (mConsA (mVar 1) (mNilA)))) (mBin dIx (mVar 0) (mUn dNeg (mFz (.int 1)))))
def m_does_suit : FRun := runN x_does_suit 2 2
theorem sc_does_suit : FnScope ["rule", "label"] ["rule", "label"] (defScope (top 37)) := C8.fnScope_by (by decide +kernel)
set_option maxRecDepth 100000 in
theorem b_does_suit (c_tells_of : Cal P w K mg base 2 "tells_of" (spN K m_tells_of)) {f : Addr} {fd : FuncData} (F : FunD K "does_suit" "does_suit" (defArgs (top 37)) (defBody (top 37)) (defScope (top 37)) [] [] f fd) (hm : mg "does_suit" = some (.ref f)) : Cal P w K mg base 3 "does_suit" (spN K m_does_suit) :=
  def_N (N := ["rule", "label"]) (ps := ["rule", "label"]) F (xs := x_does_suit) (np := 2) (n := 2) rfl rfl (by decide) rfl sc_does_suit hm (fun _ _ _ _ _ _ us hl => match us, hl with | [_, _], _ => rfl) fun cdv A outer s H E hgd hr => by
    have C : Ctx (cxOf CX0 P w K mg base ["rule", "label"] "does_suit" (defScope (top 37)) f cdv A outer s H E).nox 2 := ⟨rfl, hgd, hr⟩
    have nd : (["rule", "label"] : List Str).Nodup := sc_does_suit.nd
    unfold x_does_suit
    exact ss_one (s_return (z_eq C (z_fn C c_tells_of (by decide) (a_cons (s_var (pv 0)) (a_cons (s_var (pv 1)) (sa_nil)))) (z_ix C (s_var (pv 0)) (z_neg (z_int)))))
/-! ### with_figure -/
def x_with_figure : ExS := xRet (mTup (mStarD (mSlice dSl (mVar 0) (mNoO) (mSomeO (mVar 1))) (mConsD (mVar 2) (mStarD (mSlice dSl (mVar 0) (mSomeO (mBin dAdd (mVar 1) (mFz (.int 1)))) (mNoO)) (mNilD)))))
def m_with_figure : FRun := runN x_with_figure 3 3
theorem sc_with_figure : FnScope ["label", "place", "figure"] ["label", "place", "figure"] (defScope (top 38)) := C8.fnScope_by (by decide +kernel)
set_option maxRecDepth 100000 in
theorem b_with_figure  {f : Addr} {fd : FuncData} (F : FunD K "with_figure" "with_figure" (defArgs (top 38)) (defBody (top 38)) (defScope (top 38)) [] [] f fd) (hm : mg "with_figure" = some (.ref f)) : Cal P w K mg base 1 "with_figure" (spN K m_with_figure) :=
  def_N (N := ["label", "place", "figure"]) (ps := ["label", "place", "figure"]) F (xs := x_with_figure) (np := 3) (n := 3) rfl rfl (by decide) rfl sc_with_figure hm (fun _ _ _ _ _ _ us hl => match us, hl with | [_, _, _], _ => rfl) fun cdv A outer s H E hgd hr => by
    have C : Ctx (cxOf CX0 P w K mg base ["label", "place", "figure"] "with_figure" (defScope (top 38)) f cdv A outer s H E).nox 0 := ⟨rfl, hgd, hr⟩
    have nd : (["label", "place", "figure"] : List Str).Nodup := sc_with_figure.nd
    unfold x_with_figure
    exact ss_one (s_return (s_tup (sd_star (z_sl (s_var (pv 0)) (so_none) (so_some (s_var (pv 1)))) (d_cons (s_var (pv 2)) (sd_star (z_sl (s_var (pv 0)) (so_some (z_add (s_var (pv 1)) (z_int))) (so_none)) (sd_nil))))))
/-! ### completions_of -/
def x_completions_of_1 : Ev := mVar 3
def x_completions_of_2 : EvT := mTruth (mFn m_does_suit (mConsA (mVar 0) (mConsA (mFn m_with_figure (mConsA (mVar 1) (mConsA (mVar 2) (mConsA (mVar 3) (mNilA))))) (mNilA))))
def x_completions_of : ExS := xRet (mComp (iRange1 (mConsD (mBin dIx (mVar 0) (mFz (.int 1))) (mNilD))) (bName 3) (x_completions_of_2) (x_completions_of_1) [3])
def m_completions_of : FRun := runN x_completions_of 3 4
theorem sc_completions_of : FnScope ["rule", "label", "place", "figure"] ["rule", "label", "place"] (defScope (top 39)) := C8.fnScope_by (by decide +kernel)
set_option maxRecDepth 100000 in
theorem b_completions_of (G : Gs w K mg) (c_does_suit : Cal P w K mg base 3 "does_suit" (spN K m_does_suit)) (c_with_figure : Cal P w K mg base 1 "with_figure" (spN K m_with_figure)) {f : Addr} {fd : FuncData} (F : FunD K "completions_of" "completions_of" (defArgs (top 39)) (defBody (top 39)) (defScope (top 39)) [] [] f fd) (hm : mg "completions_of" = some (.ref f)) : Cal P w K mg base 4 "completions_of" (spN K m_completions_of) :=
  def_N (N := ["rule", "label", "place", "figure"]) (ps := ["rule", "label", "place"]) F (xs := x_completions_of) (np := 3) (n := 4) rfl rfl (by decide) rfl sc_completions_of hm (fun _ _ _ _ _ _ us hl => match us, hl with | [_, _, _], _ => rfl) fun cdv A outer s H E hgd hr => by
    have C : Ctx (cxOf CX0 P w K mg base ["rule", "label", "place", "figure"] "completions_of" (defScope (top 39)) f cdv A outer s H E).nox 3 := ⟨rfl, hgd, hr⟩
    have nd : (["rule", "label", "place", "figure"] : List Str).Nodup := sc_completions_of.nd
    unfold x_completions_of x_completions_of_2 x_completions_of_1
    exact ss_one (s_return (z_comp (own := [("figure", 3)]) C nd (i_r1 G.g_range (d_cons (z_ix C (s_var (pv 0)) (z_int)) (sd_nil))) (by rfl) (by decide) (fun _ _ _ _ _ => g_name nd) (fun _ _ _ _ _ C => t_if (t_tru (z_fn C c_does_suit (by decide) (a_cons (s_var (pv 0)) (a_cons (z_fn C c_with_figure (by decide) (a_cons (s_var (pv 1)) (a_cons (s_var (pv 2)) (a_cons (s_var (pv 3)) (sa_nil))))) (sa_nil)))))) (fun _ _ _ _ _ C => s_var (pv 3))))
/-! ### is_sure_place -/
def x_is_sure_place_1 : Ev := mBin dEq (mCall dLen (mConsA (mFn m_completions_of (mConsA (mVar 0) (mConsA (mVar 4) (mConsA (mVar 2) (mNilA))))) (mNilA))) (mFz (.int 1))
def x_is_sure_place_2 : Ev := mVar 4
def x_is_sure_place_3 : EvT := mTestB (mBin dEq (mBin dIx (mVar 4) (mVar 2)) (mFz (.int 0)))
def x_is_sure_place : ExS := xSeq (xDrop (mFn m_check_sized (mConsA (mVar 0) (mConsA (mVar 1) (mNilA))))) (xSeq (xIf (mNotT (mTruth (mFn m_is_between (mConsA (mVar 2) (mConsA (mFz (.int 0)) (mConsA (mBin dSub (mVar 1) (mFz (.int 1))) (mNilA))))))) (xNo) (xNil)) (xSeq (xDrop (mFn m_check_few (mConsA (mVar 0) (mConsA (mVar 1) (mNilA))))) (xSeq (xSet 3 (mComp (iSeq (mFn m_all_labels (mConsA (mBin dIx (mVar 0) (mFz (.int 1))) (mConsA (mVar 1) (mNilA))))) (bName 4) (x_is_sure_place_3) (x_is_sure_place_2) [4])) (xRet (mCall dAll (mConsA (mComp (iSeq (mVar 3)) (bName 4) (mYes) (x_is_sure_place_1) [4]) (mNilA)))))))
def m_is_sure_place : FRun := runN x_is_sure_place 3 5
theorem sc_is_sure_place : FnScope ["rule", "size", "place", "ahead", "label"] ["rule", "size", "place"] (defScope (top 40)) := C8.fnScope_by (by decide +kernel)
set_option maxRecDepth 100000 in
theorem b_is_sure_place (G : Gs w K mg) (c_completions_of : Cal P w K mg base 4 "completions_of" (spN K m_completions_of)) (c_all_labels : Cal P w K mg base 1 "all_labels" (spN K m_all_labels)) (c_check_few : Cal P w K mg base 2 "check_few" (spN K m_check_few)) (c_is_between : Cal P w K mg base 2 "is_between" (spN K m_is_between)) (c_check_sized : Cal P w K mg base 8 "check_sized" (spN K m_check_sized)) {f : Addr} {fd : FuncData} (F : FunD K "is_sure_place" "is_sure_place" (defArgs (top 40)) (defBody (top 40)) (defScope (top 40)) [] [] f fd) (hm : mg "is_sure_place" = some (.ref f)) : Cal P w K mg base 9 "is_sure_place" (spN K m_is_sure_place) :=
  def_N (N := ["rule", "size", "place", "ahead", "label"]) (ps := ["rule", "size", "place"]) F (xs := x_is_sure_place) (np := 3) (n := 5) rfl rfl (by decide) rfl sc_is_sure_place hm (fun _ _ _ _ _ _ us hl => match us, hl with | [_, _, _], _ => rfl) fun cdv A outer s H E hgd hr => by
    have C : Ctx (cxOf CX0 P w K mg base ["rule", "size", "place", "ahead", "label"] "is_sure_place" (defScope (top 40)) f cdv A outer s H E).nox 8 := ⟨rfl, hgd, hr⟩
    have nd : (["rule", "size", "place", "ahead", "label"] : List Str).Nodup := sc_is_sure_place.nd
    unfold x_is_sure_place x_is_sure_place_3 x_is_sure_place_2 x_is_sure_place_1
    exact ss_cons (y_drop (z_fn C c_check_sized (by decide) (a_cons (s_var (pv 0)) (a_cons (s_var (pv 1)) (sa_nil))))) (ss_cons (s_if (st_not (t_tru (z_fn C c_is_between (by decide) (a_cons (s_var (pv 2)) (a_cons (z_int) (a_cons (z_sub (s_var (pv 1)) (z_int)) (sa_nil))))))) (ss_one (s_no)) (ss_nil)) (ss_cons (y_drop (z_fn C c_check_few (by decide) (a_cons (s_var (pv 0)) (a_cons (s_var (pv 1)) (sa_nil))))) (ss_cons (y_setC (i := 3) (own := [("label", 4)]) C nd (si_seq (z_fn C c_all_labels (by decide) (a_cons (z_ix C (s_var (pv 0)) (z_int)) (a_cons (s_var (pv 1)) (sa_nil))))) (by rfl) (by decide) (fun _ _ _ _ _ => g_name nd) (fun _ _ _ _ _ C => t_if (t_eq C (z_ix C (s_var (pv 4)) (s_var (pv 2))) (z_int))) (fun _ _ _ _ _ C => s_var (pv 4))) (ss_one (s_return (z_all C G.g_all (a_cons (z_comp (own := [("label", 4)]) C nd (si_seq (s_var (pv 3))) (by rfl) (by decide) (fun _ _ _ _ _ => g_name nd) (fun _ _ _ _ _ C => t_yes) (fun _ _ _ _ _ C => z_eq C (z_len G.g_len (a_cons (z_fn C c_completions_of (by decide) (a_cons (s_var (pv 0)) (a_cons (s_var (pv 4)) (a_cons (s_var (pv 2)) (sa_nil))))) (sa_nil))) (z_int))) (sa_nil))))))))
/-! ### _law_right -/
def x__law_right_1 : Ev := mBin dEq (mVar 14) (mVar 15)
def x__law_right_2 : Ev := mVar 4
def x__law_right_3 : EvT := mTruth (mFn m_is_sure_place (mConsA (mVar 1) (mConsA (mVar 8) (mConsA (mVar 4) (mNilA)))))
def x__law_right_4 : Ev := mTup (mConsD (mCall dMin (mConsA (mVar 13) (mNilA))) (mConsD (mCall dMax (mConsA (mVar 13) (mNilA))) (mNilD)))
def x__law_right_5 : Ev := mMth gCount (mVar 9) (mConsA (mVar 12) (mNilA))
def x__law_right_6 : Ev := mBin dIx (mVar 11) (mVar 4)
def x__law_right_7 : ExS := xSeq (xSet 9 (mComp (iSeq (mVar 2)) (bName 11) (mYes) (x__law_right_6) [11])) (xSeq (xSet 10 (mComp (iRange1 (mConsD (mVar 7) (mNilD))) (bName 12) (mYes) (x__law_right_5) [12])) (xDrop (mMut gAppend 3 (mConsD (mTup (mConsD (mCall dMin (mConsA (mVar 10) (mNilA))) (mConsD (mCall dMax (mConsA (mVar 10) (mNilA))) (mNilD)))) (mNilD)))))
def x__law_right_8 : Ev := mVar 11
def x__law_right_9 : EvT := mTruth (mFn m__law_is_good (mConsA (mVar 1) (mConsA (mVar 11) (mNilA))))
def x__law_right : ExS := xSeq (xPar [7, 8] (mConsV (mBin dAdd (mFz (.int 2)) (mFnIO m__law_take 0 (mConsD (mFz (.int 3)) (mNilD)))) (mConsV (mBin dAdd (mFz (.int 1)) (mFnIO m__law_take 0 (mConsD (mFz (.int 5)) (mNilD)))) (mNilV)))) (xSeq (xSet 1 (mFnIO m__law_rule 0 (mConsD (mVar 7) (mConsD (mVar 8) (mNilD))))) (xSeq (xSet 2 (mComp (iSeq (mFn m__law_labels (mConsA (mVar 7) (mConsA (mVar 8) (mNilA))))) (bName 11) (x__law_right_9) (x__law_right_8) [11])) (xSeq (xSet 3 (mLst (mNilD))) (xSeq (xFor (iRange1 (mConsD (mVar 8) (mNilD))) (bName 4) (x__law_right_7)) (xSeq (xSet 5 (mFn m_fairness (mConsA (mVar 1) (mConsA (mVar 8) (mNilA))))) (xSeq (xIf (mOrT (mTestB (mBin dNe (mCall dRepr (mConsA (mVar 5) (mNilA))) (mCall dRepr (mConsA (mCall dTuple (mConsA (mVar 3) (mNilA))) (mNilA))))) (mTestB (mBin dNe (mVar 5) (mCall dTuple (mConsA (mComp (iSeq (mFn m_figure_counts (mConsA (mVar 1) (mConsA (mVar 8) (mNilA))))) (bName 13) (mYes) (x__law_right_4) [13]) (mNilA)))))) (xRet (mFz (.bl false))) (xNil)) (xSeq (xSet 6 (mComp (iRange1 (mConsD (mVar 8) (mNilD))) (bName 4) (x__law_right_3) (x__law_right_2) [4])) (xRet (mOrV (mBin dLt (mCall dLen (mConsA (mVar 6) (mNilA))) (mFz (.int 2))) (mCall dAll (mConsA (mComp (iSeq (mVar 5)) (bTup 2 (bCons (bName 14) (bCons (bName 15) (bNil)))) (mYes) (x__law_right_1) [14, 15]) (mNilA))))))))))))
def m__law_right : FRun := runIO x__law_right 1 16
theorem sc__law_right : FnScope ["pot", "rule", "good", "due", "place", "told", "sure", "base", "size", "at", "counts", "label", "figure", "row", "least", "most"] ["pot"] (defScope (top 59)) := C8.fnScope_by (by decide +kernel)
set_option maxRecDepth 100000 in
theorem b__law_right (G : Gs w K mg) (c_is_sure_place : Cal P w K mg base 9 "is_sure_place" (spN K m_is_sure_place)) (c_figure_counts : Cal P w K mg base 9 "figure_counts" (spN K m_figure_counts)) (c_fairness : Cal P w K mg base 10 "fairness" (spN K m_fairness)) (c__law_labels : Cal P w K mg base 1 "_law_labels" (spN K m__law_labels)) (c__law_is_good : Cal P w K mg base 2 "_law_is_good" (spN K m__law_is_good)) (c__law_rule : Cal P w K mg base 3 "_law_rule" (spIO K m__law_rule)) (c__law_take : Cal P w K mg base 1 "_law_take" (spIO K m__law_take)) {f : Addr} {fd : FuncData} (F : FunD K "_law_right" "_law_right" (defArgs (top 59)) (defBody (top 59)) (defScope (top 59)) [] [] f fd) (hm : mg "_law_right" = some (.ref f)) : Cal P w K mg base 11 "_law_right" (spIO K m__law_right) :=
  def_IO (N := ["pot", "rule", "good", "due", "place", "told", "sure", "base", "size", "at", "counts", "label", "figure", "row", "least", "most"]) (ps := ["pot"]) F (xs := x__law_right) (np := 1) (n := 16) rfl rfl (by decide) rfl sc__law_right hm (fun _ _ _ _ _ _ us hl => match us, hl with | [_], _ => rfl) fun cdv A outer s H E hgd hr => by
    have C : Ctx (cxOf CX0 P w K mg base ["pot", "rule", "good", "due", "place", "told", "sure", "base", "size", "at", "counts", "label", "figure", "row", "least", "most"] "_law_right" (defScope (top 59)) f cdv A outer s H E).nox 10 := ⟨rfl, hgd, hr⟩
    have nd : (["pot", "rule", "good", "due", "place", "told", "sure", "base", "size", "at", "counts", "label", "figure", "row", "least", "most"] : List Str).Nodup := sc__law_right.nd
    unfold x__law_right x__law_right_9 x__law_right_8 x__law_right_7 x__law_right_6 x__law_right_5 x__law_right_4 x__law_right_3 x__law_right_2 x__law_right_1
    exact ss_cons (s_par C.calm (v_cons (z_add (z_int) (z_io C c__law_take (by decide) (pv 0) (d_cons (z_int) (sd_nil)))) (v_cons (z_add (z_int) (z_io C c__law_take (by decide) (pv 0) (d_cons (z_int) (sd_nil)))) (sv_nil))) (sgn_cons (i := 7) (pg_name nd rfl (by first | exact .inl rfl | exact .inr rfl) (by first | exact .inl rfl | exact .inr rfl)) (sgn_cons (i := 8) (pg_name nd rfl (by first | exact .inl rfl | exact .inr rfl) (by first | exact .inl rfl | exact .inr rfl)) (sgn_nil) rfl) rfl) rfl rfl rfl rfl rfl) (ss_cons (y_set (i := 1) nd (z_io C c__law_rule (by decide) (pv 0) (d_cons (s_var (pv 7)) (d_cons (s_var (pv 8)) (sd_nil))))) (ss_cons (y_setC (i := 2) (own := [("label", 11)]) C nd (si_seq (z_fn C c__law_labels (by decide) (a_cons (s_var (pv 7)) (a_cons (s_var (pv 8)) (sa_nil))))) (by rfl) (by decide) (fun _ _ _ _ _ => g_name nd) (fun _ _ _ _ _ C => t_if (t_tru (z_fn C c__law_is_good (by decide) (a_cons (s_var (pv 1)) (a_cons (s_var (pv 11)) (sa_nil)))))) (fun _ _ _ _ _ C => s_var (pv 11))) (ss_cons (y_set (i := 3) nd (s_lst (sd_nil))) (ss_cons (y_for PassesOwn.never C (i_r1 G.g_range (d_cons (s_var (pv 8)) (sd_nil))) (g_name nd) (ss_cons (y_set (i := 9) nd (z_comp (own := [("label", 11)]) C nd (si_seq (s_var (pv 2))) (by rfl) (by decide) (fun _ _ _ _ _ => g_name nd) (fun _ _ _ _ _ C => t_yes) (fun _ _ _ _ _ C => z_ix C (s_var (pv 11)) (s_var (pv 4))))) (ss_cons (y_setC (i := 10) (own := [("figure", 12)]) C nd (i_r1 G.g_range (d_cons (s_var (pv 7)) (sd_nil))) (by rfl) (by decide) (fun _ _ _ _ _ => g_name nd) (fun _ _ _ _ _ C => t_yes) (fun _ _ _ _ _ C => z_mth gCount_ok (s_var (pv 9)) (a_cons (s_var (pv 12)) (sa_nil)))) (ss_one (y_drop (z_mut gAppend_ok (pv 3) (d_cons (s_tup (d_cons (z_min C G.g_min (a_cons (s_var (pv 10)) (sa_nil))) (d_cons (z_max C G.g_max (a_cons (s_var (pv 10)) (sa_nil))) (sd_nil)))) (sd_nil)))))))) (ss_cons (y_set (i := 5) nd (z_fn C c_fairness (by decide) (a_cons (s_var (pv 1)) (a_cons (s_var (pv 8)) (sa_nil))))) (ss_cons (s_if (PW.pt (sw_or (t_ne C (z_repr C G.g_repr (a_cons (s_var (pv 5)) (sa_nil))) (z_repr C G.g_repr (a_cons (z_tuple G.g_tuple (a_cons (s_var (pv 3)) (sa_nil))) (sa_nil)))) (sw_or1 (t_ne C (s_var (pv 5)) (z_tuple G.g_tuple (a_cons (z_comp (own := [("row", 13)]) C nd (si_seq (z_fn C c_figure_counts (by decide) (a_cons (s_var (pv 1)) (a_cons (s_var (pv 8)) (sa_nil))))) (by rfl) (by decide) (fun _ _ _ _ _ => g_name nd) (fun _ _ _ _ _ C => t_yes) (fun _ _ _ _ _ C => s_tup (d_cons (z_min C G.g_min (a_cons (s_var (pv 13)) (sa_nil))) (d_cons (z_max C G.g_max (a_cons (s_var (pv 13)) (sa_nil))) (sd_nil))))) (sa_nil))))))) (ss_one (s_return (z_bl))) (ss_nil)) (ss_cons (y_setC (i := 6) (own := [("place", 4)]) C nd (i_r1 G.g_range (d_cons (s_var (pv 8)) (sd_nil))) (by rfl) (by decide) (fun _ _ _ _ _ => g_name nd) (fun _ _ _ _ _ C => t_if (t_tru (z_fn C c_is_sure_place (by decide) (a_cons (s_var (pv 1)) (a_cons (s_var (pv 8)) (a_cons (s_var (pv 4)) (sa_nil))))))) (fun _ _ _ _ _ C => s_var (pv 4))) (ss_one (s_return (s_or (z_lt (z_len G.g_len (a_cons (s_var (pv 6)) (sa_nil))) (z_int)) (s_one (z_all C G.g_all (a_cons (z_comp (own := [("least", 14), ("most", 15)]) C nd (si_seq (s_var (pv 5))) (by rfl) (by decide) (fun _ _ _ _ _ => g_tup (C.blk ..) (gs_cons (g_name nd) (gs_cons (g_name nd) (sgs_nil)))) (fun _ _ _ _ _ C => t_yes) (fun _ _ _ _ _ C => z_eq C (s_var (pv 14)) (s_var (pv 15)))) (sa_nil))))))))))))))
/-! ### law -/
def x_law_1 : Ev := mFnIO m__law_right 2 (mNilD)
def x_law_2 : ExS := xSeq (xSet 2 (mFn m__law_pot (mConsA (mVar 0) (mConsA (mVar 1) (mNilA))))) (xIf (mNotT (mTruth (mCall dAll (mConsA (mComp (iRange1 (mConsD (mFz (.int 5)) (mNilD))) (bName 3) (mYes) (x_law_1) [3]) (mNilA))))) (xRet (mFz (.bl false))) (xNil))
def x_law : ExS := xSeq (xFor (iSeq (mFn m__law_cells (mConsA (mVar 0) (mConsA (mFz (.int 3)) (mNilA))))) (bName 1) (x_law_2)) (xRet (mBin dEq (mFn m_fairness (mConsA (mTup (mConsD (mFz (.str "value")) (mConsD (mFz (.int 2)) (mConsD (mFz (.int 3)) (mConsD (mFz (.int 0)) (mNilD)))))) (mConsA (mFz (.int 3)) (mNilA)))) (mTup (mConsD (mTup (mConsD (mFz (.int 1)) (mConsD (mFz (.int 2)) (mNilD)))) (mConsD (mTup (mConsD (mFz (.int 1)) (mConsD (mFz (.int 2)) (mNilD)))) (mConsD (mTup (mConsD (mFz (.int 1)) (mConsD (mFz (.int 2)) (mNilD)))) (mNilD)))))))
def m_law : FRun := runN x_law 1 4
theorem sc_law : FnScope ["script", "place", "pot", "lap"] ["script"] (defScope (top 60)) := C8.fnScope_by (by decide +kernel)
set_option maxRecDepth 100000 in
theorem b_law (G : Gs w K mg) (c_fairness : Cal P w K mg base 10 "fairness" (spN K m_fairness)) (c__law_cells : Cal P w K mg base 1 "_law_cells" (spN K m__law_cells)) (c__law_right : Cal P w K mg base 11 "_law_right" (spIO K m__law_right)) (c__law_pot : Cal P w K mg base 1 "_law_pot" (spN K m__law_pot)) {f : Addr} {fd : FuncData} (F : FunD K "law" "law" (defArgs (top 60)) (defBody (top 60)) (defScope (top 60)) [] [] f fd) : FnG P w K mg base 12 f fd ["script"] (spN K m_law) :=
  fn_N (N := ["script", "place", "pot", "lap"]) (ps := ["script"]) F (xs := x_law) (np := 1) (n := 4) rfl rfl (by decide) rfl sc_law fun cdv A outer s H E hgd hr => by
    have C : Ctx (cxOf CX0 P w K mg base ["script", "place", "pot", "lap"] "law" (defScope (top 60)) f cdv A outer s H E).nox 11 := ⟨rfl, hgd, hr⟩
    have nd : (["script", "place", "pot", "lap"] : List Str).Nodup := sc_law.nd
    unfold x_law x_law_2 x_law_1
    exact ss_cons (y_for PassesOwn.never C (si_seq (z_fn C c__law_cells (by decide) (a_cons (s_var (pv 0)) (a_cons (z_int) (sa_nil))))) (g_name nd) (ss_cons (y_set (i := 2) nd (z_fn C c__law_pot (by decide) (a_cons (s_var (pv 0)) (a_cons (s_var (pv 1)) (sa_nil))))) (ss_one (s_if (st_not (t_tru (z_all C G.g_all (a_cons (z_comp (own := [("lap", 3)]) C nd (i_r1 G.g_range (d_cons (z_int) (sd_nil))) (by rfl) (by decide) (fun _ _ _ _ _ => g_name nd) (fun _ _ _ _ _ C => t_yes) (fun _ _ _ _ _ C => z_io C c__law_right (by decide) (pv 2) (sd_nil))) (sa_nil))))) (ss_one (s_return (z_bl))) (ss_nil))))) (ss_one (s_return (z_eq C (z_fn C c_fairness (by decide) (a_cons (s_tup (d_cons (z_str) (d_cons (z_int) (d_cons (z_int) (d_cons (z_int) (sd_nil)))))) (a_cons (z_int) (sa_nil)))) (s_tup (d_cons (s_tup (d_cons (z_int) (d_cons (z_int) (sd_nil)))) (d_cons (s_tup (d_cons (z_int) (d_cons (z_int) (sd_nil)))) (d_cons (s_tup (d_cons (z_int) (d_cons (z_int) (sd_nil)))) (sd_nil))))))))
end
end Pv
end

section
set_option maxRecDepth 100000
set_option maxHeartbeats 4000000
namespace Pv

/-! ### what is scalar -/
theorem scal_non : scal (.fz .non) = true := rfl
theorem scal_bl (b : Bool) : scal (.fz (.bl b)) = true := rfl
theorem scal_int (i : Int) : scal (.fz (.int i)) = true := rfl
theorem scal_str (x : PySem.Str) : scal (.fz (.str x)) = true := rfl
theorem scal_tup (ds : List D) : scal (.fz (.tup ds)) = false := rfl
theorem scal_lst (ds : List D) : scal (.fz (.lst ds)) = false := rfl
theorem scal_own (d : D) : scal (.own d) = false := rfl

/-! ### sums over all rows of figures -/
def su {α : Type} (l : List α) (F : α → Nat) : Nat := (l.map F).sum
theorem su_nil {α : Type} (F : α → Nat) : su [] F = 0 := rfl
theorem su_cons {α : Type} (a : α) (l : List α) (F : α → Nat) : su (a :: l) F = F a + su l F := by unfold su; rw [List.map_cons, List.sum_cons]
theorem su_app {α : Type} (l m : List α) (F : α → Nat) : su (l ++ m) F = su l F + su m F := by unfold su; rw [List.map_append, List.sum_append]
theorem su_congr {α : Type} {l : List α} {F G : α → Nat} (h : ∀ a ∈ l, F a = G a) : su l F = su l G := by
  induction l with
  | nil => rfl
  | cons a l ih => rw [su_cons, su_cons, h a List.mem_cons_self, ih fun b hb => h b (List.mem_cons_of_mem _ hb)]
theorem su_add {α : Type} (l : List α) (F G : α → Nat) : su l (fun a => F a + G a) = su l F + su l G := by
  induction l with
  | nil => rfl
  | cons a l ih => rw [su_cons, su_cons, su_cons, ih]; omega
theorem su_mul {α : Type} (l : List α) (c : Nat) (F : α → Nat) : su l (fun a => c * F a) = c * su l F := by
  induction l with
  | nil => rfl
  | cons a l ih => rw [su_cons, su_cons, ih, Nat.mul_add]
theorem su_const {α : Type} (l : List α) (c : Nat) : su l (fun _ => c) = l.length * c := by
  induction l with
  | nil => rw [su_nil, List.length_nil, Nat.zero_mul]
  | cons a l ih => rw [su_cons, ih, List.length_cons, Nat.succ_mul, Nat.add_comm]
theorem su_le {α : Type} {l : List α} {F G : α → Nat} (h : ∀ a ∈ l, F a ≤ G a) : su l F ≤ su l G := by
  induction l with
  | nil => exact Nat.le_refl _
  | cons a l ih =>
    rw [su_cons, su_cons]
    exact Nat.add_le_add (h a List.mem_cons_self) (ih fun b hb => h b (List.mem_cons_of_mem _ hb))
theorem su_comm {α β : Type} (l : List α) (m : List β) (F : α → β → Nat) : su l (fun a => su m (F a)) = su m (fun b => su l (fun a => F a b)) := by
  induction l with
  | nil => rw [su_nil]; show 0 = su m (fun b => 0); rw [su_const, Nat.mul_zero]
  | cons a l ih =>
    rw [su_cons, ih]
    rw [← su_add]
    exact su_congr fun b _ => (su_cons a l fun a => F a b).symm
theorem su_map {α β : Type} (f : α → β) (l : List α) (F : β → Nat) : su (l.map f) F = su l (fun a => F (f a)) := by unfold su; rw [List.map_map]; rfl
theorem su_flatMap {α β : Type} (f : α → List β) (l : List α) (F : β → Nat) : su (l.flatMap f) F = su l (fun a => su (f a) F) := by
  induction l with
  | nil => rfl
  | cons a l ih => rw [List.flatMap_cons, su_app, ih, su_cons]
/-- how many -/
theorem su_countP {α : Type} (l : List α) (p : α → Bool) : su l (fun a => if p a then 1 else 0) = l.countP p := by
  induction l with
  | nil => rfl
  | cons a l ih =>
    rw [su_cons, ih, List.countP_cons]
    by_cases h : p a = true
    · rw [if_pos h]; omega
    · rw [if_neg h]; omega
theorem su_filter {α : Type} (l : List α) (p : α → Bool) (F : α → Nat) : su (l.filter p) F = su l (fun a => if p a then F a else 0) := by
  induction l with
  | nil => rfl
  | cons a l ih =>
    rw [List.filter_cons, su_cons]
    by_cases h : p a = true
    · rw [if_pos h, if_pos h, su_cons, ih]
    · rw [if_neg h, if_neg h, ih]; omega
/-- just one of the figures -/
theorem su_range_one {b f : Nat} (h : f < b) (F : Nat → Nat) : su (List.range b) (fun g => if g = f then F g else 0) = F f := by
  induction b with
  | zero => omega
  | succ b ih =>
    rw [List.range_succ, su_app, su_cons, su_nil]
    by_cases hb : f = b
    · subst hb
      rw [if_pos rfl]
      have : su (List.range f) (fun g => if g = f then F g else 0) = su (List.range f) (fun _ => 0) := su_congr fun g hg => if_neg (by have := List.mem_range.mp hg; omega)
      rw [this, su_const]; omega
    · rw [ih (by omega), if_neg (fun z => hb z.symm)]; omega
def rows (b : Nat) : Nat → List (List Nat)
  | 0 => [[]]
  | n + 1 => (rows b n).flatMap fun r => (List.range b).map fun f => r ++ [f]
def S (b n : Nat) (F : List Nat → Nat) : Nat := su (rows b n) F
theorem S_zero (b : Nat) (F : List Nat → Nat) : S b 0 F = F [] := by unfold S rows; rw [su_cons, su_nil]; rfl
theorem S_succ (b n : Nat) (F : List Nat → Nat) : S b (n + 1) F = S b n fun r => su (List.range b) fun f => F (r ++ [f]) := by
  unfold S
  show su ((rows b n).flatMap fun r => (List.range b).map fun f => r ++ [f]) F = _
  rw [su_flatMap]
  exact su_congr fun r _ => su_map _ _ _
theorem rows_mem {b : Nat} : ∀ {n : Nat} {r : List Nat}, r ∈ rows b n ↔ r.length = n ∧ ∀ f ∈ r, f < b
  | 0, r => by
    unfold rows
    rw [List.mem_singleton]
    constructor
    · rintro rfl; exact ⟨rfl, fun f h => by cases h⟩
    · rintro ⟨h, _⟩; exact List.length_eq_zero_iff.mp h
  | n + 1, r => by
    unfold rows
    rw [List.mem_flatMap]
    constructor
    · rintro ⟨r', h1, h2⟩
      obtain ⟨f, hf, rfl⟩ := List.mem_map.mp h2
      obtain ⟨h3, h4⟩ := rows_mem.mp h1
      refine ⟨by rw [List.length_append, h3]; rfl, fun g hg => ?_⟩
      rcases List.mem_append.mp hg with w | w
      · exact h4 g w
      · rw [List.mem_singleton] at w; subst w; exact List.mem_range.mp hf
    · rintro ⟨h1, h2⟩
      have hne : r ≠ [] := fun z => by subst z; cases h1
      refine ⟨r.dropLast, rows_mem.mpr ⟨by rw [List.length_dropLast, h1]; rfl, fun f hf => h2 f (List.dropLast_subset _ hf)⟩, ?_⟩
      refine List.mem_map.mpr ⟨r.getLast hne, List.mem_range.mpr (h2 _ (List.getLast_mem hne)), List.dropLast_concat_getLast hne⟩
theorem S_congr {b n : Nat} {F G : List Nat → Nat} (h : ∀ r, r.length = n → (∀ f ∈ r, f < b) → F r = G r) : S b n F = S b n G := su_congr fun r hr => h r (rows_mem.mp hr).1 (rows_mem.mp hr).2
theorem rows_length (b : Nat) : ∀ n, (rows b n).length = b ^ n
  | 0 => rfl
  | n + 1 => by
    have : (rows b (n + 1)).length = su (rows b (n + 1)) fun _ => 1 := by rw [su_const, Nat.mul_one]
    rw [this]
    have h := S_succ b n fun _ => 1
    unfold S at h
    rw [h, su_const, su_const, List.length_range, rows_length b n, Nat.mul_one, Nat.pow_succ]
theorem S_const (b n c : Nat) : S b n (fun _ => c) = b ^ n * c := by unfold S; rw [su_const, rows_length]
theorem S_app (b n : Nat) : ∀ (k : Nat) (F : List Nat → Nat), S b (n + k) F = S b n fun l => S b k fun r => F (l ++ r)
  | 0, F => by
    refine su_congr fun l _ => ?_
    rw [S_zero, List.append_nil]
  | k + 1, F => by
    rw [← Nat.add_assoc, S_succ, S_app b n k]
    refine su_congr fun l _ => ?_
    show S b k (fun r => su (List.range b) fun f => F (l ++ r ++ [f])) = S b (k + 1) fun r => F (l ++ r)
    rw [S_succ]
    refine su_congr fun r _ => su_congr fun f _ => ?_
    rw [List.append_assoc]
theorem S_one (b : Nat) (F : List Nat → Nat) : S b 1 F = su (List.range b) fun f => F [f] := by rw [S_succ, S_zero]; rfl
theorem S_cons (b n : Nat) (F : List Nat → Nat) : S b (n + 1) F = su (List.range b) fun f => S b n fun r => F (f :: r) := by
  rw [Nat.add_comm, S_app, S_one]; rfl
/-- split at a place -/
theorem S_at {b n p : Nat} (h : p < n) (F : List Nat → Nat) : S b n F = S b p fun l => su (List.range b) fun f => S b (n - p - 1) fun r => F (l ++ f :: r) := by
  have e : n = p + (n - p - 1 + 1) := by omega
  have h1 : S b n F = S b (p + (n - p - 1 + 1)) F := by rw [← e]
  rw [h1, S_app]
  exact su_congr fun l _ => S_cons b _ _

/-! ### a walk along a row -/
structure Auto where
  step : Nat → Int → Nat → Int
  start : Int
  due : Int
def Auto.run (A : Auto) : Nat → Int → List Nat → Int
  | _, s, [] => s
  | p, s, f :: l => A.run (p + 1) (A.step p s f) l
theorem Auto.run_app (A : Auto) : ∀ (l r : List Nat) (p : Nat) (s : Int), A.run p s (l ++ r) = A.run (p + l.length) (A.run p s l) r
  | [], r, p, s => rfl
  | f :: l, r, p, s => by
    show A.run (p + 1) (A.step p s f) (l ++ r) = A.run (p + (l.length + 1)) (A.run (p + 1) (A.step p s f) l) r
    rw [A.run_app l r, show p + 1 + l.length = p + (l.length + 1) by omega]
def Auto.good (A : Auto) (l : List Nat) : Bool := decide (A.run 0 A.start l = A.due)
/-- how many ways lead from here to the due value -/
def Auto.suf (A : Auto) (b n p : Nat) (s : Int) : Nat := S b (n - p) fun r => if A.run p s r = A.due then 1 else 0
theorem Auto.suf_step (A : Auto) {b n p : Nat} (h : p < n) (s : Int) : A.suf b n p s = su (List.range b) fun f => A.suf b n (p + 1) (A.step p s f) := by
  unfold Auto.suf
  have e : n - p = (n - (p + 1)) + 1 := by omega
  rw [e, S_cons]; rfl
theorem Auto.suf_end (A : Auto) (b n : Nat) (s : Int) : A.suf b n n s = if s = A.due then 1 else 0 := by
  unfold Auto.suf
  rw [Nat.sub_self, S_zero]; rfl
/-- how many good rows hold f at p -/
def Auto.at (A : Auto) (b n p f : Nat) : Nat := (rows b n).countP fun l => A.good l && decide (l[p]? = some f)
theorem get_mid {l r : List Nat} {f : Nat} {p : Nat} (h : l.length = p) : (l ++ f :: r)[p]? = some f := by
  rw [List.getElem?_append_right (by omega), h, Nat.sub_self]; rfl
theorem Auto.at_eq (A : Auto) {b n p f : Nat} (h : p < n) (hf : f < b) : A.at b n p f = S b p fun l => A.suf b n (p + 1) (A.step p (A.run 0 A.start l) f) := by
  unfold Auto.at
  rw [← su_countP]
  show S b n _ = _
  rw [S_at h]
  refine S_congr fun l hl _ => ?_
  have e : (su (List.range b) fun g => S b (n - p - 1) fun r => if (A.good (l ++ g :: r) && decide ((l ++ g :: r)[p]? = some f)) = true then 1 else 0) =
      su (List.range b) fun g => if g = f then S b (n - p - 1) (fun r => if A.good (l ++ g :: r) = true then 1 else 0) else 0 := by
    refine su_congr fun g hg => ?_
    by_cases hgf : g = f
    · rw [if_pos hgf]
      subst hgf
      refine su_congr fun r _ => ?_
      rw [get_mid hl, decide_eq_true rfl, Bool.and_true]
    · rw [if_neg hgf]
      have : S b (n - p - 1) (fun r => if (A.good (l ++ g :: r) && decide ((l ++ g :: r)[p]? = some f)) = true then 1 else 0) = S b (n - p - 1) fun _ => 0 := by
        refine su_congr fun r _ => ?_
        rw [get_mid hl, decide_eq_false (fun z => hgf (Option.some.inj z)), Bool.and_false, if_neg Bool.false_ne_true]
      rw [this, S_const, Nat.mul_zero]
  rw [e, su_range_one hf]
  unfold Auto.suf
  rw [show n - (p + 1) = n - p - 1 by omega]
  refine su_congr fun r _ => ?_
  unfold Auto.good
  rw [A.run_app]
  show _ = if A.run (p + 1) (A.step p (A.run 0 A.start l) f) r = A.due then 1 else 0
  rw [hl, Nat.zero_add]
  simp only [decide_eq_true_eq]
  rfl
/-- a sure place: whatever stands elsewhere, just one figure fits there -/
def Auto.sure (A : Auto) (b n p : Nat) : Prop := ∀ l r : List Nat, l.length = p → r.length = n - p - 1 → (∀ f ∈ l, f < b) → (∀ f ∈ r, f < b) → (su (List.range b) fun f => if A.good (l ++ f :: r) then 1 else 0) = 1
theorem Auto.at_S (A : Auto) {b n p f : Nat} (h : p < n) (hf : f < b) : A.at b n p f = S b p fun l => S b (n - p - 1) fun r => if A.good (l ++ f :: r) = true then 1 else 0 := by
  unfold Auto.at
  rw [← su_countP]
  show S b n _ = _
  rw [S_at h]
  refine S_congr fun l hl _ => ?_
  rw [su_congr (G := fun g => if g = f then S b (n - p - 1) (fun r => if A.good (l ++ g :: r) = true then 1 else 0) else 0), su_range_one hf]
  intro g hg
  by_cases hgf : g = f
  · rw [if_pos hgf]
    subst hgf
    refine su_congr fun r _ => ?_
    rw [get_mid hl, decide_eq_true rfl, Bool.and_true]
  · rw [if_neg hgf]
    have : S b (n - p - 1) (fun r => if (A.good (l ++ g :: r) && decide ((l ++ g :: r)[p]? = some f)) = true then 1 else 0) = S b (n - p - 1) fun _ => 0 := by
      refine su_congr fun r _ => ?_
      rw [get_mid hl, decide_eq_false (fun z => hgf (Option.some.inj z)), Bool.and_false, if_neg Bool.false_ne_true]
    rw [this, S_const, Nat.mul_zero]
theorem lt_app {b : Nat} {l r : List Nat} (h1 : ∀ f ∈ l, f < b) (h2 : ∀ f ∈ r, f < b) : ∀ f ∈ l ++ r, f < b := fun f hf => (List.mem_append.mp hf).elim (h1 f) (h2 f)
theorem lt_cons {b g : Nat} {r : List Nat} (h1 : g < b) (h2 : ∀ f ∈ r, f < b) : ∀ f ∈ g :: r, f < b := fun f hf => (List.mem_cons.mp hf).elim (fun e => e ▸ h1) (h2 f)
/-- elsewhere every figure stands equally often -/
theorem Auto.sure_at (A : Auto) {b n p q f : Nat} (h : A.sure b n p) (hp : p < n) (hq : q < n) (hpq : p ≠ q) (hf : f < b) : A.at b n q f = b ^ (n - 2) := by
  rw [A.at_S hq hf]
  rcases Nat.lt_or_gt_of_ne hpq with lt | gt
  · -- p < q
    rw [S_at lt]
    have : (S b p fun l => su (List.range b) fun g => S b (q - p - 1) fun m => S b (n - q - 1) fun r => if A.good (l ++ g :: m ++ f :: r) = true then 1 else 0) = S b p fun l => S b (q - p - 1) fun m => S b (n - q - 1) fun r => 1 := by
      refine S_congr fun l hl hlb => ?_
      unfold S
      rw [su_comm]
      refine S_congr (F := fun m => su (List.range b) fun g => su (rows b (n - q - 1)) fun r => if A.good (l ++ g :: m ++ f :: r) = true then 1 else 0) fun m hm hmb => ?_
      rw [su_comm]
      refine S_congr (F := fun r => su (List.range b) fun g => if A.good (l ++ g :: m ++ f :: r) = true then 1 else 0) fun r hr hrb => ?_
      have := h l (m ++ f :: r) hl (by rw [List.length_append, hm, List.length_cons, hr]; omega) hlb (lt_app hmb (lt_cons hf hrb))
      refine Eq.trans (su_congr fun g _ => ?_) this
      rw [List.append_assoc, List.cons_append]
    rw [this]
    simp only [S_const, Nat.mul_one]
    rw [← Nat.pow_add, ← Nat.pow_add]
    congr 1; omega
  · have key : (S b q fun l => S b (n - q - 1) fun r => if A.good (l ++ f :: r) = true then 1 else 0) = S b q fun l => S b (p - q - 1) fun m => S b (n - q - 1 - (p - q - 1) - 1) fun r => 1 := by
      refine S_congr fun l hl hlb => ?_
      rw [S_at (p := p - q - 1) (by omega)]
      refine S_congr fun m hm hmb => ?_
      unfold S
      rw [su_comm]
      refine S_congr (F := fun r => su (List.range b) fun g => if A.good (l ++ f :: (m ++ g :: r)) = true then 1 else 0) fun r hr hrb => ?_
      have := h (l ++ f :: m) r (by rw [List.length_append, hl, List.length_cons, hm]; omega) (by omega) (lt_app hlb (lt_cons hf hmb)) hrb
      refine Eq.trans (su_congr fun g _ => ?_) this
      rw [List.append_assoc, List.cons_append]
    rw [key]
    simp only [S_const, Nat.mul_one]
    rw [← Nat.pow_add, ← Nat.pow_add]
    congr 1; omega
theorem Auto.at_le (A : Auto) (b n p f : Nat) : A.at b n p f ≤ b ^ n := by
  unfold Auto.at
  have := List.countP_le_length (l := rows b n) (p := fun l => A.good l && decide (l[p]? = some f))
  rw [rows_length] at this
  exact this
end Pv
end

section
set_option maxRecDepth 100000
set_option maxHeartbeats 4000000
namespace Pv
open PySem PySem.Spec L2 PyProof.Rows

/-- a plain result -/
abbrev ret (d : D) : Option FRes := some ⟨.fz d, .non⟩
theorem m_is_integer_int (i : Int) : m_is_integer [.int i] = ret (.bl true) := by
  unfold m_is_integer x_is_integer
  rfl
theorem m_is_between_int (v lo hi : Int) : m_is_between [.int v, .int lo, .int hi] = ret (.bl (decide (lo ≤ v) && decide (v ≤ hi))) := by
  unfold m_is_between x_is_between
  simp [freezeAll, runN, runIO, endN, endIO, endV, xRet, xRetN, xSeq, xSet, xIf, xDrop, xNil, xBind, xNo, xPut, xPar, putAll, putV, mAndV, mOrV, mNotB, mAndT, mOrT, mNotT, mTestB, mTruth, truth, mIf, mFn, mFnIO, mConsA, mNilA, mConsD, mNilD, mConsV, mNilV, mStarD, items, mArg, mRet, retV, argV, mVar, mFz, mCall, mUn, lookAll, lookL, scal_non, scal_bl, scal_int, scal_str, scal_tup, scal_lst, scal_own, mChain, mBin, hold, look, mutAt, Slot.mut, mTup, mLst, mMut, mMth, mSlice, mNoO, mSomeO, mIsi, setC, tyOf, LINE, dLe, dLt, dGt, dGe, dAdd, dSub, dMul, dDiv, dMod, dNeg, bName, bTup, bCons, bNil, m_is_integer_int]
  by_cases h : lo ≤ v <;> simp [h]
/-- a rule that walks along a row -/
structure Rep (b n : Nat) (q : D) (A : Auto) (ok : Int → Prop) : Prop where
  base : dIx q (.int 1) = some (.fz (.int b))
  due : dIx q (.int (-1)) = some (.fz (.int A.due))
  beg : m_begins [q] = ret (.int A.start)
  ok0 : ok A.start
  goes : ∀ p h f, p < n → ok h → f < b → m_goes_on [q, .int (p : Nat), .int h, .int (f : Nat)] = ret (.int (A.step p h f)) ∧ ok (A.step p h f)

/-! ### tables of ways -/
def ik (A : List (Int × Nat)) : List (Key × D) := A.map fun p => (.inl p.1, .int (p.2 : Nat))
def wget (A : List (Int × Nat)) (h : Int) : Nat := ((A.find? fun p => decide (p.1 = h)).map (·.2)).getD 0
def wput (A : List (Int × Nat)) (h : Int) (w : Nat) : List (Int × Nat) :=
  if (A.any fun p => decide (p.1 = h)) = true then A.map (fun p => if p.1 = h then (p.1, w) else p) else A ++ [(h, w)]
theorem valD_ik (A : List (Int × Nat)) (h : Int) : valD (ik A) (.inl h) = ((A.find? fun p => decide (p.1 = h)).map fun p => D.int (p.2 : Nat)) := by
  induction A with
  | nil => rfl
  | cons p A ih =>
    unfold ik valD at ih ⊢
    rw [List.map_cons, List.find?_cons, List.find?_cons]
    by_cases e : p.1 = h
    · simp [e]
    · have e2 : ¬ ((Sum.inl p.1 : Key) = Sum.inl h) := fun z => e (Sum.inl.inj z)
      simp only [e, e2, decide_false]
      exact ih
theorem putD_ik (A : List (Int × Nat)) (h : Int) (w : Nat) : putD (ik A) (.inl h) (.int (w : Nat)) = ik (wput A h w) := by
  have e1 : ((ik A).any fun kv => decide (kv.1 = (Sum.inl h : Key))) = A.any fun p => decide (p.1 = h) := by
    unfold ik
    rw [List.any_map]
    congr 1
    funext p
    show decide ((Sum.inl p.1 : Key) = Sum.inl h) = decide (p.1 = h)
    by_cases e : p.1 = h
    · simp [e]
    · have e2 : ¬ ((Sum.inl p.1 : Key) = Sum.inl h) := fun z => e (Sum.inl.inj z)
      simp [e, e2]
  unfold putD wput
  rw [e1]
  by_cases e : (A.any fun p => decide (p.1 = h)) = true
  · rw [if_pos e, if_pos e]
    unfold ik
    rw [List.map_map, List.map_map]
    refine List.map_congr_left fun p _ => ?_
    show (if (Sum.inl p.1 : Key) = Sum.inl h then ((Sum.inl p.1 : Key), D.int (w : Nat)) else (Sum.inl p.1, D.int (p.2 : Nat))) = _
    by_cases e : p.1 = h
    · simp [e]
    · have e2 : ¬ ((Sum.inl p.1 : Key) = Sum.inl h) := fun z => e (Sum.inl.inj z)
      simp [e, e2]
  · rw [if_neg e, if_neg e]
    unfold ik
    rw [List.map_append]; rfl
/-- the sum of X over the table, by its ways -/
def wsum (A : List (Int × Nat)) (X : Int → Nat) : Nat := su A fun p => p.2 * X p.1
theorem wget_get {A : List (Int × Nat)} {h : Int} : (A.find? fun p => decide (p.1 = h)).map (fun p => D.int (p.2 : Nat)) = if (A.any fun p => decide (p.1 = h)) = true then some (.int (wget A h : Nat)) else none := by
  unfold wget
  cases e : A.find? fun p => decide (p.1 = h) with
  | none =>
    have : (A.any fun p => decide (p.1 = h)) = false := by
      rw [List.find?_eq_none] at e
      rw [List.any_eq_false]
      exact e
    rw [this]; rfl
  | some p =>
    have : (A.any fun p => decide (p.1 = h)) = true := List.any_eq_true.mpr ⟨p, List.mem_of_find?_eq_some e, List.find?_some (p := fun (p : Int × Nat) => decide (p.1 = h)) e⟩
    rw [this]; rfl
theorem gGet_ik (A : List (Int × Nat)) (h : Int) : gGet (.dk (ik A)) [.int h, .int 0] = some (.fz (.int (wget A h : Nat))) := by
  show (match valD (ik A) (.inl h) with
      | some z => some (Val.fz z)
      | none => if scal (.fz (.int 0)) then some (.fz (.int 0)) else none) = _
  rw [valD_ik, wget_get]
  by_cases e : (A.any fun p => decide (p.1 = h)) = true
  · rw [if_pos e]
  · rw [if_neg e]
    have : A.find? (fun p => decide (p.1 = h)) = none := by
      rw [List.find?_eq_none]
      intro p hp
      have e' : (A.any fun p => decide (p.1 = h)) = false := eq_false_of_ne_true e
      rw [List.any_eq_false] at e'
      exact e' p hp
    unfold wget
    rw [this]
    rfl
theorem any_iff {A : List (Int × Nat)} {h : Int} : (A.any fun p => decide (p.1 = h)) = true ↔ h ∈ A.map (·.1) := by
  rw [List.any_eq_true, List.mem_map]
  constructor
  · rintro ⟨p, hp, e⟩; exact ⟨p, hp, of_decide_eq_true e⟩
  · rintro ⟨p, hp, e⟩; exact ⟨p, hp, decide_eq_true e⟩
theorem wput_keys (A : List (Int × Nat)) (h : Int) (w : Nat) : (wput A h w).map (·.1) = if h ∈ A.map (·.1) then A.map (·.1) else A.map (·.1) ++ [h] := by
  unfold wput
  by_cases e : (A.any fun p => decide (p.1 = h)) = true
  · rw [if_pos e, if_pos (any_iff.mp e), List.map_map]
    refine List.map_congr_left fun p _ => ?_
    show (if p.1 = h then (p.1, w) else p).1 = p.1
    split <;> rfl
  · rw [if_neg e, if_neg (fun z => e (any_iff.mpr z)), List.map_append]; rfl
theorem wput_nodup {A : List (Int × Nat)} {h : Int} {w : Nat} (n : (A.map (·.1)).Nodup) : ((wput A h w).map (·.1)).Nodup := by
  rw [wput_keys]
  split
  · exact n
  · rename_i hh
    rw [List.nodup_append]
    refine ⟨n, by simp, fun a ha b hb => ?_⟩
    rw [List.mem_singleton] at hb
    subst hb
    exact fun z => hh (z ▸ ha)
theorem wsum_put {A : List (Int × Nat)} {h : Int} {w : Nat} {X : Int → Nat} (n : (A.map (·.1)).Nodup) : wsum (wput A h (wget A h + w)) X = wsum A X + w * X h := by
  unfold wput
  by_cases e : (A.any fun p => decide (p.1 = h)) = true
  · rw [if_pos e]
    induction A with
    | nil => cases e
    | cons p A ih =>
      rw [List.map_cons, List.nodup_cons] at n
      unfold wsum
      rw [List.map_cons, su_cons, su_cons]
      by_cases ep : p.1 = h
      · have g : wget (p :: A) h = p.2 := by unfold wget; simp [ep]
        have rest : A.map (fun p' => if p'.1 = h then (p'.1, p.2 + w) else p') = A := by
          conv => rhs; rw [← List.map_id A]
          refine List.map_congr_left fun p' hp' => ?_
          have : p'.1 ≠ h := fun z => n.1 (by rw [ep, ← z]; exact List.mem_map.mpr ⟨p', hp', rfl⟩)
          rw [if_neg this]; rfl
        rw [g, rest, if_pos ep]
        show (p.2 + w) * X p.1 + _ = _
        rw [ep, Nat.add_mul]; omega
      · have g : wget (p :: A) h = wget A h := by unfold wget; simp [ep]
        have e' : (A.any fun p => decide (p.1 = h)) = true := by
          rw [List.any_cons, decide_eq_false ep, Bool.false_or] at e; exact e
        rw [g, if_neg ep]
        have := ih n.2 e'
        unfold wsum at this
        rw [this]; omega
  · rw [if_neg e]
    have g : wget A h = 0 := by
      unfold wget
      have : A.find? (fun p => decide (p.1 = h)) = none := by
        rw [List.find?_eq_none]
        intro p hp
        have e' : (A.any fun p => decide (p.1 = h)) = false := eq_false_of_ne_true e
        rw [List.any_eq_false] at e'
        exact e' p hp
      rw [this]; rfl
    unfold wsum
    rw [g, su_app, su_cons, su_nil, Nat.zero_add]
    show _ + (w * X h + 0) = _
    omega
end Pv
end

section
set_option maxRecDepth 100000
set_option maxHeartbeats 4000000
namespace Pv
open PySem PySem.Spec L2 PyProof.Rows

/-! ### loops, comprehensions -/
theorem rangeD_eq (n : Nat) : rangeD 0 1 n = (List.range n).map fun (i : Nat) => D.int (i : Nat) := by
  unfold rangeD
  refine List.map_congr_left fun i _ => ?_
  rw [Int.mul_one, Int.zero_add]
theorem loopC_pure {e : DEnv} {t : EvT} {f : Ev} {i : Nat} {pt : D → Bool} {g : D → D} (hi : i < e.length) : ∀ {ds : List D} {n : Nat},
    (∀ d ∈ ds, t (e.set i (.fz d)) = some (pt d, e.set i (.fz d)) ∧ (pt d = true → mRet f (e.set i (.fz d)) = some (.fz (g d), e.set i (.fz d)))) → n + ds.length ≤ LINE → loopC (bName i) t f [i] ds (e.set i .em) n = some ((ds.filter pt).map g, e.set i .em)
  | [], n, _, _ => rfl
  | d :: ds, n, h, hn => by
    obtain ⟨h1, h2⟩ := h d List.mem_cons_self
    have b1 : bName i d (e.set i .em) = some (e.set i (.fz d)) := by
      unfold bName
      rw [if_pos (by rw [List.length_set]; exact hi), List.set_set]
    have w1 : wipeE (e.set i (.fz d)) [i] = e.set i .em := by show (e.set i (.fz d)).set i .em = _; rw [List.set_set]
    have hl : n + (ds.length + 1) ≤ LINE := hn
    unfold loopC
    rw [b1]
    dsimp only
    rw [h1]
    rw [List.filter_cons]
    cases hp : pt d with
    | false =>
      dsimp only
      rw [w1, loopC_pure hi (fun x hx => h x (List.mem_cons_of_mem _ hx)) (by omega), if_neg Bool.false_ne_true]
    | true =>
      dsimp only
      rw [h2 hp]
      dsimp only
      rw [if_pos (by omega), w1, loopC_pure hi (fun x hx => h x (List.mem_cons_of_mem _ hx)) (by omega), if_pos rfl]
      rfl
theorem mComp_pure {fi : EvI} {t : EvT} {f : Ev} {i : Nat} {ds : List D} {e e1 : DEnv} {pt : D → Bool} {g : D → D} (h0 : fi e = some (ds, e1)) (hi : i < e1.length)
    (h : ∀ d ∈ ds, t (e1.set i (.fz d)) = some (pt d, e1.set i (.fz d)) ∧ (pt d = true → mRet f (e1.set i (.fz d)) = some (.fz (g d), e1.set i (.fz d)))) (hn : ds.length ≤ LINE) :
    mComp fi (bName i) t f [i] e = some (.own (.lst ((ds.filter pt).map g)), e1.set i .em) := by
  unfold mComp
  have w1 : wipeE e1 [i] = e1.set i .em := rfl
  have := loopC_pure (e := e1) (t := t) (f := f) (n := 0) hi h (by omega)
  rw [h0]
  show (loopC (bName i) t f [i] ds (wipeE e1 [i]) 0).bind _ = _
  rw [w1, this]
  show some (Val.own (.lst _), wipeE (e1.set i .em) [i]) = _
  have w2 : wipeE (e1.set i .em) [i] = e1.set i .em := by show (e1.set i .em).set i .em = _; rw [List.set_set]
  rw [w2]
/-- without a test -/
theorem mComp_map {fi : EvI} {f : Ev} {i : Nat} {ds : List D} {e e1 : DEnv} {g : D → D} (h0 : fi e = some (ds, e1)) (hi : i < e1.length) (h : ∀ d ∈ ds, mRet f (e1.set i (.fz d)) = some (.fz (g d), e1.set i (.fz d))) (hn : ds.length ≤ LINE) :
    mComp fi (bName i) mYes f [i] e = some (.own (.lst (ds.map g)), e1.set i .em) := by
  rw [mComp_pure (pt := fun _ => true) h0 hi (fun d hd => ⟨rfl, fun _ => h d hd⟩) hn, List.filter_eq_self.mpr (fun _ _ => rfl)]

/-! ### the table of the ways ahead -/
def putF (A : Auto) (p : Nat) (h : Int) (w : Nat) (acc : List (Int × Nat)) (f : Nat) : List (Int × Nat) := wput acc (A.step p h f) (wget acc (A.step p h f) + w)
def putH (A : Auto) (b p : Nat) (acc : List (Int × Nat)) (x : Int × Nat) : List (Int × Nat) := (List.range b).foldl (putF A p x.1 x.2) acc
def aheadL (A : Auto) (b : Nat) : Nat → List (Int × Nat)
  | 0 => [(A.start, 1)]
  | p + 1 => (aheadL A b p).foldl (putH A b p) []
theorem wput_len (A : List (Int × Nat)) (h : Int) (w : Nat) : (wput A h w).length ≤ A.length + 1 := by
  unfold wput; split
  · rw [List.length_map]; omega
  · rw [List.length_append]; exact Nat.le_refl _
theorem putF_fold_len (A : Auto) (p : Nat) (h : Int) (w : Nat) : ∀ (fs : List Nat) (acc : List (Int × Nat)), (fs.foldl (putF A p h w) acc).length ≤ acc.length + fs.length
  | [], acc => Nat.le_refl _
  | f :: fs, acc => by
    have h1 := putF_fold_len A p h w fs (putF A p h w acc f)
    have h2 := wput_len acc (A.step p h f) (wget acc (A.step p h f) + w)
    rw [List.foldl_cons, List.length_cons]
    unfold putF at h1 ⊢
    omega
theorem putH_fold_len (A : Auto) (b p : Nat) : ∀ (xs : List (Int × Nat)) (acc : List (Int × Nat)), (xs.foldl (putH A b p) acc).length ≤ acc.length + xs.length * b
  | [], acc => by rw [List.foldl_nil, List.length_nil]; omega
  | x :: xs, acc => by
    have h1 := putH_fold_len A b p xs (putH A b p acc x)
    have h2 := putF_fold_len A p x.1 x.2 (List.range b) acc
    rw [List.length_range] at h2
    rw [List.foldl_cons, List.length_cons, Nat.succ_mul]
    unfold putH at h1 ⊢
    omega
theorem aheadL_len (A : Auto) (b : Nat) : ∀ p, (aheadL A b p).length ≤ b ^ p
  | 0 => Nat.le_refl _
  | p + 1 => by
    have h1 := putH_fold_len A b p (aheadL A b p) []
    have h2 := Nat.mul_le_mul_right b (aheadL_len A b p)
    rw [List.length_nil, Nat.zero_add] at h1
    unfold aheadL
    rw [Nat.pow_succ]
    omega
/-- what the folds keep -/
theorem putF_fold (A : Auto) (p : Nat) (h : Int) (w : Nat) (X : Int → Nat) : ∀ (fs : List Nat) (acc : List (Int × Nat)), (acc.map (·.1)).Nodup →
    ((fs.foldl (putF A p h w) acc).map (·.1)).Nodup ∧ wsum (fs.foldl (putF A p h w) acc) X = wsum acc X + w * su fs (fun f => X (A.step p h f)) ∧ (∀ k, k ∈ (fs.foldl (putF A p h w) acc).map (·.1) ↔ k ∈ acc.map (·.1) ∨ ∃ f ∈ fs, k = A.step p h f)
  | [], acc, n => ⟨n, by rw [su_nil, Nat.mul_zero]; rfl, fun k => by simp⟩
  | f :: fs, acc, n => by
    obtain ⟨h1, h2, h3⟩ := putF_fold A p h w X fs (putF A p h w acc f) (wput_nodup n)
    refine ⟨h1, ?_, fun k => ?_⟩
    · rw [List.foldl_cons, h2]
      unfold putF
      rw [wsum_put n, su_cons, Nat.mul_add]; omega
    · rw [List.foldl_cons, h3]
      unfold putF
      rw [wput_keys]
      constructor
      · rintro (q | ⟨g, hg, e⟩)
        · split at q
          · exact .inl q
          · rcases List.mem_append.mp q with q | q
            · exact .inl q
            · rw [List.mem_singleton] at q; exact .inr ⟨f, List.mem_cons_self, q⟩
        · exact .inr ⟨g, List.mem_cons_of_mem _ hg, e⟩
      · rintro (q | ⟨g, hg, e⟩)
        · left; split
          · exact q
          · exact List.mem_append_left _ q
        · rcases List.mem_cons.mp hg with w | w
          · subst w; left; split
            · rename_i hh; rw [e]; exact hh
            · rw [e]; exact List.mem_append_right _ (by simp)
          · exact .inr ⟨g, w, e⟩
theorem putH_fold (A : Auto) (b p : Nat) (X : Int → Nat) : ∀ (xs : List (Int × Nat)) (acc : List (Int × Nat)), (acc.map (·.1)).Nodup →
    ((xs.foldl (putH A b p) acc).map (·.1)).Nodup ∧ wsum (xs.foldl (putH A b p) acc) X = wsum acc X + wsum xs (fun h => su (List.range b) fun f => X (A.step p h f)) ∧
      (∀ k, k ∈ (xs.foldl (putH A b p) acc).map (·.1) ↔ k ∈ acc.map (·.1) ∨ ∃ x ∈ xs, ∃ f, f < b ∧ k = A.step p x.1 f)
  | [], acc, n => ⟨n, rfl, fun k => by simp⟩
  | x :: xs, acc, n => by
    obtain ⟨a1, a2, a3⟩ := putF_fold A p x.1 x.2 X (List.range b) acc n
    obtain ⟨h1, h2, h3⟩ := putH_fold A b p X xs (putH A b p acc x) a1
    refine ⟨h1, ?_, fun k => ?_⟩
    · rw [List.foldl_cons, h2]
      unfold putH
      rw [a2]
      unfold wsum
      rw [su_cons]
      exact Nat.add_assoc ..
    · rw [List.foldl_cons, h3]
      unfold putH
      rw [a3]
      constructor
      · rintro ((q | ⟨f, hf, e⟩) | ⟨y, hy, r⟩)
        · exact .inl q
        · exact .inr ⟨x, List.mem_cons_self, f, List.mem_range.mp hf, e⟩
        · exact .inr ⟨y, List.mem_cons_of_mem _ hy, r⟩
      · rintro (q | ⟨y, hy, f, hf, e⟩)
        · exact .inl (.inl q)
        · rcases List.mem_cons.mp hy with w | w
          · subst w; exact .inl (.inr ⟨f, List.mem_range.mpr hf, e⟩)
          · exact .inr ⟨y, w, f, hf, e⟩
theorem aheadL_nodup (A : Auto) (b : Nat) : ∀ p, ((aheadL A b p).map (·.1)).Nodup
  | 0 => by simp [aheadL]
  | p + 1 => (putH_fold A b p (fun _ => 0) (aheadL A b p) [] (by simp)).1
theorem aheadL_sum (A : Auto) (b : Nat) : ∀ (p : Nat) (X : Int → Nat), wsum (aheadL A b p) X = S b p fun l => X (A.run 0 A.start l)
  | 0, X => by
    rw [S_zero]
    unfold wsum aheadL
    rw [su_cons, su_nil]
    show 1 * X A.start + 0 = X A.start
    omega
  | p + 1, X => by
    have h := (putH_fold A b p X (aheadL A b p) [] (by simp)).2.1
    unfold aheadL
    rw [h, aheadL_sum A b p, S_succ]
    show wsum [] X + _ = _
    have e0 : wsum [] X = 0 := rfl
    rw [e0, Nat.zero_add]
    refine S_congr fun l hl _ => su_congr fun f _ => ?_
    rw [A.run_app, hl, Nat.zero_add]; rfl
theorem aheadL_step (A : Auto) (b p : Nat) {h : Int} {f : Nat} (hh : h ∈ (aheadL A b p).map (·.1)) (hf : f < b) : A.step p h f ∈ (aheadL A b (p + 1)).map (·.1) := by
  obtain ⟨x, hx, rfl⟩ := List.mem_map.mp hh
  exact ((putH_fold A b p (fun _ => 0) (aheadL A b p) [] (by simp)).2.2 _).mpr (.inr ⟨x, hx, f, hf, rfl⟩)
theorem aheadL_ok (A : Auto) (b n : Nat) (ok : Int → Prop) (h0 : ok A.start) (hs : ∀ p h f, p < n → ok h → f < b → ok (A.step p h f)) : ∀ p, p ≤ n → ∀ h ∈ (aheadL A b p).map (·.1), ok h
  | 0, _, h, hh => by
    have e : h = A.start := by simpa [aheadL] using hh
    rw [e]; exact h0
  | p + 1, hp, h, hh => by
    rcases ((putH_fold A b p (fun _ => 0) (aheadL A b p) [] (by simp)).2.2 _).mp hh with q | ⟨x, hx, f, hf, rfl⟩
    · cases q
    · exact hs p x.1 f (by omega) (aheadL_ok A b n ok h0 hs p (by omega) x.1 (List.mem_map.mpr ⟨x, hx, rfl⟩)) hf
theorem aheadL_ways (A : Auto) (b p : Nat) {x : Int × Nat} (hx : x ∈ aheadL A b p) : x.2 ≤ b ^ p := by
  have h := aheadL_sum A b p fun _ => 1
  rw [S_const, Nat.mul_one] at h
  rw [← h]
  have : ∀ (l : List (Int × Nat)), x ∈ l → x.2 ≤ wsum l fun _ => 1 := by
    intro l hl
    induction l with
    | nil => cases hl
    | cons y l ih =>
      unfold wsum
      rw [su_cons]
      rcases List.mem_cons.mp hl with w | w
      · subst w
        show x.2 ≤ x.2 * 1 + _
        omega
      · have := ih w
        unfold wsum at this
        exact Nat.le_trans this (Nat.le_add_left _ _)
  exact this _ hx
end Pv
end

section
set_option maxRecDepth 100000
set_option maxHeartbeats 4000000
namespace Pv
open PySem PySem.Spec L2 PyProof.Rows
section
variable {A : Auto} {b n p : Nat} {q nn : D} {ok : Int → Prop}
theorem gSet_ik (A : List (Int × Nat)) (h : Int) (w : Nat) (hl : A.length < LINE) : gSet (.dk (ik A)) (.int h) (.int (w : Nat)) = some (.dk (ik (wput A h w))) := by
  show (if (ik A).length < LINE then some (D.dk (putD (ik A) (.inl h) (.int (w : Nat)))) else none) = _
  rw [putD_ik, if_pos (by unfold ik; rw [List.length_map]; exact hl)]
/-- one figure's step -/
theorem ahead_1 (R : Rep b n q A ok) (hp : p < n) {h : Int} (hh : ok h) {w f : Nat} (hf : f < b) {found : List D} {acc : List (Int × Nat)} (hl : acc.length < LINE) {s8 : Slot} :
    x_ahead_of_1 [.fz q, .fz nn, .own (.lst found), .fz (.int (p : Nat)), .own (.dk (ik acc)), .fz (.int h), .fz (.int (w : Nat)), .fz (.int (f : Nat)), s8] =
      some (.nx [.fz q, .fz nn, .own (.lst found), .fz (.int (p : Nat)), .own (.dk (ik (putF A p h w acc f))), .fz (.int h), .fz (.int (w : Nat)), .fz (.int (f : Nat)), .fz (.int (A.step p h f))]) := by
  unfold x_ahead_of_1
  have e := (R.goes p h f hp hh hf).1
  have g := gGet_ik acc (A.step p h f)
  have st := gSet_ik acc (A.step p h f) (wget acc (A.step p h f) + w) hl
  rw [Int.natCast_add] at st
  simp [freezeAll, runN, runIO, endN, endIO, endV, xRet, xRetN, xSeq, xSet, xIf, xDrop, xNil, xBind, xNo, xPut, xPar, putAll, putV, mAndV, mOrV, mNotB, mAndT, mOrT, mNotT, mTestB, mTruth, truth, mIf, mFn, mFnIO, mConsA, mNilA, mConsD, mNilD, mConsV, mNilV, mStarD, items, mArg, mRet, retV, argV, mVar, mFz, mCall, mUn, lookAll, lookL, scal_non, scal_bl, scal_int, scal_str, scal_tup, scal_lst, scal_own, mChain, mBin, hold, look, mutAt, Slot.mut, mTup, mLst, mMut, mMth, mSlice, mNoO, mSomeO, mIsi, setC, tyOf, LINE, dLe, dLt, dGt, dGe, dAdd, dSub, dMul, dDiv, dMod, dNeg, bName, bTup, bCons, bNil, e, g, st, putF]
theorem ahead_2 (R : Rep b n q A ok) (hp : p < n) {h : Int} (hh : ok h) {w : Nat} {found : List D} : ∀ {fs : List Nat} {acc : List (Int × Nat)} {s7 s8 : Slot}, (∀ f ∈ fs, f < b) → acc.length + fs.length ≤ LINE →
    ∃ s7' s8', loopF (bName 7) x_ahead_of_1 (fs.map fun (i : Nat) => D.int (i : Nat)) [.fz q, .fz nn, .own (.lst found), .fz (.int (p : Nat)), .own (.dk (ik acc)), .fz (.int h), .fz (.int (w : Nat)), s7, s8] =
      some (.nx [.fz q, .fz nn, .own (.lst found), .fz (.int (p : Nat)), .own (.dk (ik (fs.foldl (putF A p h w) acc))), .fz (.int h), .fz (.int (w : Nat)), s7', s8'])
  | [], acc, s7, s8, _, _ => ⟨s7, s8, rfl⟩
  | f :: fs, acc, s7, s8, hb, hl => by
    rw [List.length_cons] at hl
    have hw := wput_len acc (A.step p h f) (wget acc (A.step p h f) + w)
    obtain ⟨s7', s8', e⟩ := ahead_2 R hp hh (w := w) (found := found) (fs := fs) (acc := putF A p h w acc f) (s7 := .fz (.int (f : Nat))) (s8 := .fz (.int (A.step p h f))) (fun g hg => hb g (List.mem_cons_of_mem _ hg)) (by unfold putF; omega)
    refine ⟨s7', s8', ?_⟩
    rw [List.map_cons]
    unfold loopF
    have b1 : bName 7 (D.int (f : Nat)) [.fz q, .fz nn, .own (.lst found), .fz (.int (p : Nat)), .own (.dk (ik acc)), .fz (.int h), .fz (.int (w : Nat)), s7, s8] = some [.fz q, .fz nn, .own (.lst found), .fz (.int (p : Nat)), .own (.dk (ik acc)), .fz (.int h), .fz (.int (w : Nat)), .fz (.int (f : Nat)), s8] := rfl
    rw [b1]
    dsimp only
    rw [ahead_1 R hp hh (hb f List.mem_cons_self) (by omega)]
    exact e
theorem b62_nat {n : Nat} (h : n ≤ 5000) : B62 (n : Nat) = true := by
  unfold B62
  rw [Nat.ble_eq]
  omega
theorem ahead_3 (R : Rep b n q A ok) (hb : b ≤ 5000) (hp : p < n) {h : Int} (hh : ok h) {w : Nat} {found : List D} {acc : List (Int × Nat)} {s7 s8 : Slot} (hl : acc.length + b ≤ LINE) :
    ∃ s7' s8', x_ahead_of_2 [.fz q, .fz nn, .own (.lst found), .fz (.int (p : Nat)), .own (.dk (ik acc)), .fz (.int h), .fz (.int (w : Nat)), s7, s8] =
      some (.nx [.fz q, .fz nn, .own (.lst found), .fz (.int (p : Nat)), .own (.dk (ik (putH A b p acc (h, w)))), .fz (.int h), .fz (.int (w : Nat)), s7', s8']) := by
  obtain ⟨s7', s8', e⟩ := ahead_2 (nn := nn) R hp hh (w := w) (found := found) (fs := List.range b) (acc := acc) (s7 := s7) (s8 := s8) (fun f hf => List.mem_range.mp hf) (by rw [List.length_range]; exact hl)
  refine ⟨s7', s8', ?_⟩
  unfold x_ahead_of_2 xFor iRange1
  have eb := R.base
  have b6 := b62_nat hb
  simp [freezeAll, runN, runIO, endN, endIO, endV, xRet, xRetN, xSeq, xSet, xIf, xDrop, xNil, xBind, xNo, xPut, xPar, putAll, putV, mAndV, mOrV, mNotB, mAndT, mOrT, mNotT, mTestB, mTruth, truth, mIf, mFn, mFnIO, mConsA, mNilA, mConsD, mNilD, mConsV, mNilV, mStarD, items, mArg, mRet, retV, argV, mVar, mFz, mCall, mUn, lookAll, lookL, scal_non, scal_bl, scal_int, scal_str, scal_tup, scal_lst, scal_own, mChain, mBin, hold, look, mutAt, Slot.mut, mTup, mLst, mMut, mMth, mSlice, mNoO, mSomeO, mIsi, setC, tyOf, LINE, dLe, dLt, dGt, dGe, dAdd, dSub, dMul, dDiv, dMod, dNeg, bName, bTup, bCons, bNil, eb, b6]
  rw [rangeD_eq]
  exact e
def itemsD (A : List (Int × Nat)) : List D := A.map fun x => D.tup [.int x.1, .int (x.2 : Nat)]
theorem ahead_4 (R : Rep b n q A ok) (hb : b ≤ 5000) (hp : p < n) {found : List D} : ∀ {xs : List (Int × Nat)} {acc : List (Int × Nat)} {s5 s6 s7 s8 : Slot}, (∀ x ∈ xs, ok x.1) → acc.length + xs.length * b ≤ LINE →
    ∃ s5' s6' s7' s8', loopF (bTup 2 (bCons (bName 5) (bCons (bName 6) bNil))) x_ahead_of_2 (itemsD xs) [.fz q, .fz nn, .own (.lst found), .fz (.int (p : Nat)), .own (.dk (ik acc)), s5, s6, s7, s8] =
      some (.nx [.fz q, .fz nn, .own (.lst found), .fz (.int (p : Nat)), .own (.dk (ik (xs.foldl (putH A b p) acc))), s5', s6', s7', s8'])
  | [], acc, s5, s6, s7, s8, _, _ => ⟨s5, s6, s7, s8, rfl⟩
  | x :: xs, acc, s5, s6, s7, s8, ho, hl => by
    rw [List.length_cons, Nat.succ_mul] at hl
    obtain ⟨s7', s8', e1⟩ := ahead_3 (nn := nn) R hb hp (ho x List.mem_cons_self) (w := x.2) (found := found) (acc := acc) (s7 := s7) (s8 := s8) (by omega)
    have hw := putF_fold_len A p x.1 x.2 (List.range b) acc
    rw [List.length_range] at hw
    obtain ⟨t5, t6, t7, t8, e2⟩ := ahead_4 R hb hp (found := found) (xs := xs) (acc := putH A b p acc x) (s5 := .fz (.int x.1)) (s6 := .fz (.int (x.2 : Nat))) (s7 := s7') (s8 := s8') (fun y hy => ho y (List.mem_cons_of_mem _ hy)) (by unfold putH; omega)
    refine ⟨t5, t6, t7, t8, ?_⟩
    unfold itemsD
    rw [List.map_cons]
    unfold loopF
    have b1 : bTup 2 (bCons (bName 5) (bCons (bName 6) bNil)) (D.tup [.int x.1, .int (x.2 : Nat)]) [.fz q, .fz nn, .own (.lst found), .fz (.int (p : Nat)), .own (.dk (ik acc)), s5, s6, s7, s8] =
      some [.fz q, .fz nn, .own (.lst found), .fz (.int (p : Nat)), .own (.dk (ik acc)), .fz (.int x.1), .fz (.int (x.2 : Nat)), s7, s8] := rfl
    rw [b1]
    dsimp only
    rw [e1]
    exact e2
def aheads (A : Auto) (b p : Nat) : List D := (List.range (p + 1)).map fun k => D.dk (ik (aheadL A b k))
theorem aheads_succ (A : Auto) (b p : Nat) : aheads A b (p + 1) = aheads A b p ++ [D.dk (ik (aheadL A b (p + 1)))] := by
  unfold aheads; rw [List.range_succ, List.map_append]; rfl
theorem aheads_last (A : Auto) (b p : Nat) : L2.atI (aheads A b p) (-1) = some (D.dk (ik (aheadL A b p))) := by
  cases p with
  | zero => rfl
  | succ p => rw [aheads_succ]; exact atI_last _ _
theorem items_ik (A : List (Int × Nat)) : ((ik A).map fun p => D.tup [keyD p.1, p.2]) = itemsD A := by
  unfold ik itemsD; rw [List.map_map]; rfl
theorem pow_le_line {b n p : Nat} (h : b ^ n ≤ 5000) (hp : p ≤ n) (hb : 0 < b) : b ^ p ≤ 5000 := Nat.le_trans (Nat.pow_le_pow_right hb hp) h
theorem ahead_5 (R : Rep b n q A ok) (hb : b ≤ 5000) (hb0 : 0 < b) (hn : b ^ n ≤ 5000) (hp : p < n) {s3 s4 s5 s6 s7 s8 : Slot} (n5 : n ≤ 5000) :
    ∃ s4' s5' s6' s7' s8', x_ahead_of_3 [.fz q, .fz nn, .own (.lst (aheads A b p)), .fz (.int (p : Nat)), s4, s5, s6, s7, s8] =
      some (.nx [.fz q, .fz nn, .own (.lst (aheads A b (p + 1))), .fz (.int (p : Nat)), s4', s5', s6', s7', s8']) := by
  have okk := aheadL_ok A b n ok R.ok0 (fun p h f h1 h2 h3 => (R.goes p h f h1 h2 h3).2) p (by omega)
  have hlen := aheadL_len A b p
  have h1 := pow_le_line hn (p := p + 1) (by omega) hb0
  rw [Nat.pow_succ] at h1
  have h2 := Nat.mul_le_mul_right b hlen
  obtain ⟨t5, t6, t7, t8, e⟩ := ahead_4 (nn := nn) R hb hp (found := aheads A b p) (xs := aheadL A b p) (acc := []) (s5 := s5) (s6 := s6) (s7 := s7) (s8 := s8) (fun x hx => okk x.1 (List.mem_map.mpr ⟨x, hx, rfl⟩)) (by unfold LINE; rw [List.length_nil]; omega)
  refine ⟨.fz (.dk (ik (aheadL A b (p + 1)))), t5, t6, t7, t8, ?_⟩
  have la := aheads_last A b p
  have hal : (aheads A b p).length < 16777216 := by unfold aheads; rw [List.length_map, List.length_range]; omega
  unfold x_ahead_of_3 xFor iItemsD mNewD
  simp [freezeAll, runN, runIO, endN, endIO, endV, xRet, xRetN, xSeq, xSet, xIf, xDrop, xNil, xBind, xNo, xPut, xPar, putAll, putV, mAndV, mOrV, mNotB, mAndT, mOrT, mNotT, mTestB, mTruth, truth, mIf, mFn, mFnIO, mConsA, mNilA, mConsD, mNilD, mConsV, mNilV, mStarD, items, mArg, mRet, retV, argV, mVar, mFz, mCall, mUn, lookAll, lookL, scal_non, scal_bl, scal_int, scal_str, scal_tup, scal_lst, scal_own, mChain, mBin, hold, look, mutAt, Slot.mut, mTup, mLst, mMut, mMth, mSlice, mNoO, mSomeO, mIsi, setC, tyOf, LINE, dLe, dLt, dGt, dGe, dAdd, dSub, dMul, dDiv, dMod, dNeg, bName, bTup, bCons, bNil, dIx, la, items_ik]
  have e : loopF (bTup 2 (bCons (bName 5) (bCons (bName 6) bNil))) x_ahead_of_2 (itemsD (aheadL A b p)) [.fz q, .fz nn, .own (.lst (aheads A b p)), .fz (.int (p : Nat)), .own (.dk []), s5, s6, s7, s8] = _ := e
  rw [e, aheads_succ]
  simp [freezeAll, runN, runIO, endN, endIO, endV, xRet, xRetN, xSeq, xSet, xIf, xDrop, xNil, xBind, xNo, xPut, xPar, putAll, putV, mAndV, mOrV, mNotB, mAndT, mOrT, mNotT, mTestB, mTruth, truth, mIf, mFn, mFnIO, mConsA, mNilA, mConsD, mNilD, mConsV, mNilV, mStarD, items, mArg, mRet, retV, argV, mVar, mFz, mCall, mUn, lookAll, lookL, scal_non, scal_bl, scal_int, scal_str, scal_tup, scal_lst, scal_own, mChain, mBin, hold, look, mutAt, Slot.mut, mTup, mLst, mMut, mMth, mSlice, mNoO, mSomeO, mIsi, setC, tyOf, LINE, dLe, dLt, dGt, dGe, dAdd, dSub, dMul, dDiv, dMod, dNeg, bName, bTup, bCons, bNil, gAppend, hal]
  rfl
end
end Pv
end

section
set_option maxRecDepth 100000
set_option maxHeartbeats 4000000
namespace Pv
open PySem PySem.Spec L2 PyProof.Rows
section
variable {A : Auto} {b n p : Nat} {q nn : D} {ok : Int → Prop}
theorem ahead_6 (R : Rep b n q A ok) (hb : b ≤ 5000) (hb0 : 0 < b) (hn : b ^ n ≤ 5000) (n5 : n ≤ 5000) : ∀ (m p : Nat) {s3 s4 s5 s6 s7 s8 : Slot}, p + m = n →
    ∃ s3' s4' s5' s6' s7' s8', loopF (bName 3) x_ahead_of_3 ((List.range' p m).map fun (i : Nat) => D.int (i : Nat)) [.fz q, .fz nn, .own (.lst (aheads A b p)), s3, s4, s5, s6, s7, s8] =
      some (.nx [.fz q, .fz nn, .own (.lst (aheads A b n)), s3', s4', s5', s6', s7', s8'])
  | 0, p, s3, s4, s5, s6, s7, s8, e => by
    have : p = n := by omega
    subst this
    exact ⟨s3, s4, s5, s6, s7, s8, rfl⟩
  | m + 1, p, s3, s4, s5, s6, s7, s8, e => by
    obtain ⟨t4, t5, t6, t7, t8, e1⟩ := ahead_5 (nn := nn) R hb hb0 hn (p := p) (by omega) (s3 := s3) (s4 := s4) (s5 := s5) (s6 := s6) (s7 := s7) (s8 := s8) n5
    obtain ⟨u3, u4, u5, u6, u7, u8, e2⟩ := ahead_6 R hb hb0 hn n5 m (p + 1) (s3 := .fz (.int (p : Nat))) (s4 := t4) (s5 := t5) (s6 := t6) (s7 := t7) (s8 := t8) (by omega)
    refine ⟨u3, u4, u5, u6, u7, u8, ?_⟩
    rw [List.range'_succ, List.map_cons]
    unfold loopF
    have b1 : bName 3 (D.int (p : Nat)) [.fz q, .fz nn, .own (.lst (aheads A b p)), s3, s4, s5, s6, s7, s8] = some [.fz q, .fz nn, .own (.lst (aheads A b p)), .fz (.int (p : Nat)), s4, s5, s6, s7, s8] := rfl
    rw [b1]
    dsimp only
    rw [e1]
    exact e2
theorem m_ahead_of_ok (R : Rep b n q A ok) (hb : b ≤ 5000) (hb0 : 0 < b) (hn : b ^ n ≤ 5000) (n5 : n ≤ 5000) : m_ahead_of [q, .int (n : Nat)] = some ⟨.own (.lst (aheads A b n)), .non⟩ := by
  obtain ⟨t3, t4, t5, t6, t7, t8, e⟩ := ahead_6 (nn := .int (n : Nat)) R hb hb0 hn n5 n 0 (s3 := .em) (s4 := .em) (s5 := .em) (s6 := .em) (s7 := .em) (s8 := .em) (by omega)
  have bg := R.beg
  have b6 := b62_nat n5
  unfold m_ahead_of x_ahead_of xFor iRange1 mDisp1
  simp [freezeAll, runN, runIO, endN, endIO, endV, xRet, xRetN, xSeq, xSet, xIf, xDrop, xNil, xBind, xNo, xPut, xPar, putAll, putV, mAndV, mOrV, mNotB, mAndT, mOrT, mNotT, mTestB, mTruth, truth, mIf, mFn, mFnIO, mConsA, mNilA, mConsD, mNilD, mConsV, mNilV, mStarD, items, mArg, mRet, retV, argV, mVar, mFz, mCall, mUn, lookAll, lookL, scal_non, scal_bl, scal_int, scal_str, scal_tup, scal_lst, scal_own, mChain, mBin, hold, look, mutAt, Slot.mut, mTup, mLst, mMut, mMth, mSlice, mNoO, mSomeO, mIsi, setC, tyOf, LINE, dLe, dLt, dGt, dGe, dAdd, dSub, dMul, dDiv, dMod, dNeg, bName, bTup, bCons, bNil, bg, b6, keyOf, rangeD_eq, List.range_eq_range', List.replicate]
  have e : loopF (bName 3) x_ahead_of_3 (List.map (fun (i : Nat) => D.int (i : Nat)) (List.range' 0 n)) [.fz q, .fz (.int (n : Nat)), .own (.lst [.dk [(.inl A.start, .int 1)]]), .em, .em, .em, .em, .em, .em] = _ := e
  rw [e]
  simp [freezeAll, runN, runIO, endN, endIO, endV, xRet, xRetN, xSeq, xSet, xIf, xDrop, xNil, xBind, xNo, xPut, xPar, putAll, putV, mAndV, mOrV, mNotB, mAndT, mOrT, mNotT, mTestB, mTruth, truth, mIf, mFn, mFnIO, mConsA, mNilA, mConsD, mNilD, mConsV, mNilV, mStarD, items, mArg, mRet, retV, argV, mVar, mFz, mCall, mUn, lookAll, lookL, scal_non, scal_bl, scal_int, scal_str, scal_tup, scal_lst, scal_own, mChain, mBin, hold, look, mutAt, Slot.mut, mTup, mLst, mMut, mMth, mSlice, mNoO, mSomeO, mIsi, setC, tyOf, LINE, dLe, dLt, dGt, dGe, dAdd, dSub, dMul, dDiv, dMod, dNeg, bName, bTup, bCons, bNil]
/-! ### the tables behind -/
def behindL (A : Auto) (b n p : Nat) : List (Int × Nat) := if p = n then [(A.due, 1)] else (aheadL A b p).map fun x => (x.1, A.suf b n p x.1)
theorem wget_map {xs : List Int} {v : Int → Nat} {h : Int} (hh : h ∈ xs) : wget (xs.map fun x => (x, v x)) h = v h := by
  unfold wget
  induction xs with
  | nil => cases hh
  | cons x xs ih =>
    rw [List.map_cons, List.find?_cons]
    by_cases e : x = h
    · subst e; simp
    · rw [decide_eq_false e]
      exact ih ((List.mem_cons.mp hh).resolve_left (fun z => e z.symm))
theorem behindL_eq (A : Auto) {b n p : Nat} (h : p ≠ n) : behindL A b n p = ((aheadL A b p).map (·.1)).map fun x => (x, A.suf b n p x) := by
  unfold behindL
  rw [if_neg h, List.map_map]; rfl
theorem behindL_get (A : Auto) {b n p : Nat} {h : Int} (hp : p ≤ n) (hh : h ∈ (aheadL A b p).map (·.1)) : wget (behindL A b n p) h = A.suf b n p h := by
  by_cases e : p = n
  · subst e
    unfold behindL
    rw [if_pos rfl, A.suf_end]
    unfold wget
    rw [List.find?_cons]
    by_cases e : A.due = h
    · rw [decide_eq_true e, if_pos e.symm]; rfl
    · rw [decide_eq_false e, if_neg (fun z => e z.symm)]; rfl
  · rw [behindL_eq A e]; exact wget_map hh
theorem gGet_any (A : List (Int × Nat)) (h : Int) : gGet (.dk (ik A)) [.int h, .int 0] = some (.fz (.int (wget A h : Nat))) := gGet_ik A h
theorem intsOf_nat {α : Type} (l : List α) (v : α → Nat) : intsOf (l.map fun x => D.int (v x : Nat)) = some (l.map fun x => ((v x : Nat) : Int)) := by
  induction l with
  | nil => rfl
  | cons a l ih => rw [List.map_cons, List.map_cons]; unfold intsOf; rw [ih]
theorem sum_nat {α : Type} (l : List α) (v : α → Nat) : (l.map fun x => ((v x : Nat) : Int)).sum = (su l v : Nat) := by
  induction l with
  | nil => rfl
  | cons a l ih => rw [List.map_cons, List.sum_cons, ih, su_cons, Int.natCast_add]
theorem wput_new {A : List (Int × Nat)} {h : Int} {w : Nat} (hh : h ∉ A.map (·.1)) : wput A h w = A ++ [(h, w)] := by
  unfold wput
  rw [if_neg (fun z => hh (any_iff.mp z))]
/-- one state's ways -/
theorem behind_2 (R : Rep b n q A ok) (hb : b ≤ 5000) (hp : p < n) {h : Int} (hh : ok h) (hm : h ∈ (aheadL A b p).map (·.1)) {found : List D} {ah : D} {acc : List (Int × Nat)} {s7 s8 : Slot}
    (hl : L2.atI found (-1) = some (.dk (ik (behindL A b n (p + 1))))) (hacc : acc.length < LINE) (hnew : h ∉ acc.map (·.1)) :
    ∃ s7' s8', x_behind_of_2 [.fz q, .fz nn, .fz ah, .own (.lst found), .fz (.int (p : Nat)), .own (.dk (ik acc)), .fz (.int h), s7, s8] =
      some (.nx [.fz q, .fz nn, .fz ah, .own (.lst found), .fz (.int (p : Nat)), .own (.dk (ik (acc ++ [(h, A.suf b n p h)]))), .fz (.int h), s7', s8']) := by
  have eb := R.base
  have b6 := b62_nat hb
  have hc : mComp (iRange1 (mConsD (mBin dIx (mVar 0) (mFz (.int 1))) mNilD)) (bName 8) mYes x_behind_of_1 [8] [.fz q, .fz nn, .fz ah, .own (.lst found), .fz (.int (p : Nat)), .own (.dk (ik acc)), .fz (.int h), s7, s8] =
      some (.own (.lst ((List.range b).map fun f => D.int (wget (behindL A b n (p + 1)) (A.step p h f) : Nat))), [.fz q, .fz nn, .fz ah, .own (.lst found), .fz (.int (p : Nat)), .own (.dk (ik acc)), .fz (.int h), s7, .em]) := by
    have h0 : iRange1 (mConsD (mBin dIx (mVar 0) (mFz (.int 1))) mNilD) [.fz q, .fz nn, .fz ah, .own (.lst found), .fz (.int (p : Nat)), .own (.dk (ik acc)), .fz (.int h), s7, s8] = some ((List.range b).map fun (i : Nat) => D.int (i : Nat), [.fz q, .fz nn, .fz ah, .own (.lst found), .fz (.int (p : Nat)), .own (.dk (ik acc)), .fz (.int h), s7, s8]) := by
      unfold iRange1
      simp [freezeAll, runN, runIO, endN, endIO, endV, xRet, xRetN, xSeq, xSet, xIf, xDrop, xNil, xBind, xNo, xPut, xPar, putAll, putV, mAndV, mOrV, mNotB, mAndT, mOrT, mNotT, mTestB, mTruth, truth, mIf, mFn, mFnIO, mConsA, mNilA, mConsD, mNilD, mConsV, mNilV, mStarD, items, mArg, mRet, retV, argV, mVar, mFz, mCall, mUn, lookAll, lookL, scal_non, scal_bl, scal_int, scal_str, scal_tup, scal_lst, scal_own, mChain, mBin, hold, look, mutAt, Slot.mut, mTup, mLst, mMut, mMth, mSlice, mNoO, mSomeO, mIsi, setC, tyOf, LINE, dLe, dLt, dGt, dGe, dAdd, dSub, dMul, dDiv, dMod, dNeg, bName, bTup, bCons, bNil, eb, b6, rangeD_eq]
    have := mComp_map (g := fun d => match d with
        | .int f => D.int (wget (behindL A b n (p + 1)) (A.step p h f.toNat) : Nat)
        | d => d) (f := x_behind_of_1) (i := 8) h0 (by simp) (fun d hd => ?_) (by rw [List.length_map, List.length_range]; unfold LINE; omega)
    · rw [this, List.map_map]; rfl
    · obtain ⟨f, hf, rfl⟩ := List.mem_map.mp hd
      have g := (R.goes p h f hp hh (List.mem_range.mp hf)).1
      have gg := gGet_any (behindL A b n (p + 1)) (A.step p h f)
      unfold x_behind_of_1
      simp [freezeAll, runN, runIO, endN, endIO, endV, xRet, xRetN, xSeq, xSet, xIf, xDrop, xNil, xBind, xNo, xPut, xPar, putAll, putV, mAndV, mOrV, mNotB, mAndT, mOrT, mNotT, mTestB, mTruth, truth, mIf, mFn, mFnIO, mConsA, mNilA, mConsD, mNilD, mConsV, mNilV, mStarD, items, mArg, mRet, retV, argV, mVar, mFz, mCall, mUn, lookAll, lookL, scal_non, scal_bl, scal_int, scal_str, scal_tup, scal_lst, scal_own, mChain, mBin, hold, look, mutAt, Slot.mut, mTup, mLst, mMut, mMth, mSlice, mNoO, mSomeO, mIsi, setC, tyOf, LINE, dLe, dLt, dGt, dGe, dAdd, dSub, dMul, dDiv, dMod, dNeg, bName, bTup, bCons, bNil, g, gg, dIx, hl]
  unfold x_behind_of_2
  have si := intsOf_nat (List.range b) fun f => wget (behindL A b n (p + 1)) (A.step p h f)
  have ss := sum_nat (List.range b) fun f => wget (behindL A b n (p + 1)) (A.step p h f)
  have st := gSet_ik acc h (su (List.range b) fun f => wget (behindL A b n (p + 1)) (A.step p h f)) hacc
  have es : (su (List.range b) fun f => wget (behindL A b n (p + 1)) (A.step p h f)) = A.suf b n p h := by
    rw [A.suf_step hp]
    exact su_congr fun f hf => behindL_get A hp (aheadL_step A b p hm (List.mem_range.mp hf))
  rw [wput_new hnew, es] at st
  rw [es] at ss
  refine ⟨.own (.lst ((List.range b).map fun f => D.int (wget (behindL A b n (p + 1)) (A.step p h f) : Nat))), .em, ?_⟩
  simp [freezeAll, runN, runIO, endN, endIO, endV, xRet, xRetN, xSeq, xSet, xIf, xDrop, xNil, xBind, xNo, xPut, xPar, putAll, putV, mAndV, mOrV, mNotB, mAndT, mOrT, mNotT, mTestB, mTruth, truth, mIf, mFn, mFnIO, mConsA, mNilA, mConsD, mNilD, mConsV, mNilV, mStarD, items, mArg, mRet, retV, argV, mVar, mFz, mCall, mUn, lookAll, lookL, scal_non, scal_bl, scal_int, scal_str, scal_tup, scal_lst, scal_own, mChain, mBin, hold, look, mutAt, Slot.mut, mTup, mLst, mMut, mMth, mSlice, mNoO, mSomeO, mIsi, setC, tyOf, LINE, dLe, dLt, dGt, dGe, dAdd, dSub, dMul, dDiv, dMod, dNeg, bName, bTup, bCons, bNil, hc, dSum, si, ss, st]
theorem behind_3 (R : Rep b n q A ok) (hb : b ≤ 5000) (hp : p < n) {found : List D} {ah : D} (hl : L2.atI found (-1) = some (.dk (ik (behindL A b n (p + 1))))) : ∀ {hs : List Int} {acc : List (Int × Nat)} {s6 s7 s8 : Slot},
    (∀ h ∈ hs, ok h ∧ h ∈ (aheadL A b p).map (·.1)) → acc.length + hs.length ≤ LINE → (acc.map (·.1) ++ hs).Nodup →
    ∃ s6' s7' s8', loopF (bName 6) x_behind_of_2 (hs.map D.int) [.fz q, .fz nn, .fz ah, .own (.lst found), .fz (.int (p : Nat)), .own (.dk (ik acc)), s6, s7, s8] =
      some (.nx [.fz q, .fz nn, .fz ah, .own (.lst found), .fz (.int (p : Nat)), .own (.dk (ik (acc ++ hs.map fun h => (h, A.suf b n p h)))), s6', s7', s8'])
  | [], acc, s6, s7, s8, _, _, _ => ⟨s6, s7, s8, by rw [show acc ++ List.map (fun h => (h, A.suf b n p h)) [] = acc from List.append_nil _]; rfl⟩
  | h :: hs, acc, s6, s7, s8, ho, hlen, nd => by
    rw [List.length_cons] at hlen
    have nn1 := List.nodup_append.mp nd
    have hnew : h ∉ acc.map (·.1) := fun z => nn1.2.2 h z h List.mem_cons_self rfl
    obtain ⟨t7, t8, e1⟩ := behind_2 (nn := nn) R hb hp (ho h List.mem_cons_self).1 (ho h List.mem_cons_self).2 (found := found) (ah := ah) (acc := acc) (s7 := s7) (s8 := s8) hl (by omega) hnew
    obtain ⟨u6, u7, u8, e2⟩ := behind_3 R hb hp (ah := ah) hl (hs := hs) (acc := acc ++ [(h, A.suf b n p h)]) (s6 := .fz (.int h)) (s7 := t7) (s8 := t8) (fun x hx => ho x (List.mem_cons_of_mem _ hx)) (by rw [List.length_append, List.length_singleton]; omega)
      (by rw [List.map_append, List.append_assoc]; exact nd)
    refine ⟨u6, u7, u8, ?_⟩
    rw [List.map_cons]
    unfold loopF
    have b1 : bName 6 (D.int h) [.fz q, .fz nn, .fz ah, .own (.lst found), .fz (.int (p : Nat)), .own (.dk (ik acc)), s6, s7, s8] = some [.fz q, .fz nn, .fz ah, .own (.lst found), .fz (.int (p : Nat)), .own (.dk (ik acc)), .fz (.int h), s7, s8] := rfl
    rw [b1]
    dsimp only
    rw [e1]
    dsimp only
    rw [e2, List.append_assoc]; rfl
def behinds (A : Auto) (b n p : Nat) : List D := ((List.range' p (n + 1 - p)).map fun k => D.dk (ik (behindL A b n k))).reverse
theorem behinds_pred (A : Auto) {b n p : Nat} (h : p < n) : behinds A b n p = behinds A b n (p + 1) ++ [D.dk (ik (behindL A b n p))] := by
  unfold behinds
  have e : n + 1 - p = (n + 1 - (p + 1)) + 1 := by omega
  rw [e, List.range'_succ, List.map_cons, List.reverse_cons]
theorem behinds_end (A : Auto) (b n : Nat) : behinds A b n n = [D.dk [(.inl A.due, .int 1)]] := by
  unfold behinds
  have e : n + 1 - n = 1 := by omega
  rw [e]
  show [D.dk (ik (behindL A b n n))] = _
  unfold behindL
  rw [if_pos rfl]; rfl
theorem behinds_last (A : Auto) {b n p : Nat} (h : p ≤ n) : L2.atI (behinds A b n p) (-1) = some (D.dk (ik (behindL A b n p))) := by
  by_cases e : p = n
  · subst e
    unfold behinds
    have e : p + 1 - p = 1 := by omega
    rw [e]; rfl
  · rw [behinds_pred A (by omega)]; exact atI_last _ _
theorem aheads_at (A : Auto) {b n p : Nat} (h : p ≤ n) : L2.atI (aheads A b n) ((p : Nat) : Int) = some (D.dk (ik (aheadL A b p))) := by
  apply atI_nat
  unfold aheads
  rw [List.getElem?_map, List.getElem?_range (by omega)]; rfl
theorem keys_ik (A : List (Int × Nat)) : ((ik A).map fun p => keyD p.1) = (A.map (·.1)).map D.int := by
  unfold ik; rw [List.map_map, List.map_map]; rfl
theorem behind_4 (R : Rep b n q A ok) (hb : b ≤ 5000) (hb0 : 0 < b) (hn : b ^ n ≤ 5000) (hp : p < n) (n5 : n ≤ 5000) {s4 s5 s6 s7 s8 : Slot} :
    ∃ s5' s6' s7' s8', x_behind_of_3 [.fz q, .fz nn, .fz (.lst (aheads A b n)), .own (.lst (behinds A b n (p + 1))), .fz (.int (p : Nat)), s5, s6, s7, s8] =
      some (.nx [.fz q, .fz nn, .fz (.lst (aheads A b n)), .own (.lst (behinds A b n p)), .fz (.int (p : Nat)), s5', s6', s7', s8']) := by
  have okk := aheadL_ok A b n ok R.ok0 (fun p h f h1 h2 h3 => (R.goes p h f h1 h2 h3).2) p (by omega)
  have hlen := aheadL_len A b p
  have h1 := pow_le_line hn (p := p) (by omega) hb0
  obtain ⟨t6, t7, t8, e⟩ := behind_3 (nn := nn) R hb hp (ah := .lst (aheads A b n)) (behinds_last A (b := b) (n := n) (p := p + 1) (by omega)) (hs := (aheadL A b p).map (·.1)) (acc := []) (s6 := s6) (s7 := s7) (s8 := s8) (fun h hh => ⟨okk h hh, hh⟩)
    (by rw [List.length_nil, List.length_map]; unfold LINE; omega) (by rw [List.map_nil, List.nil_append]; exact aheadL_nodup A b p)
  have ea := aheads_at A (b := b) (n := n) (p := p) (by omega)
  have lenb : (behinds A b n (p + 1)).length < 16777216 := by unfold behinds; rw [List.length_reverse, List.length_map, List.length_range']; omega
  refine ⟨.fz (.dk (ik (behindL A b n p))), t6, t7, t8, ?_⟩
  have e : loopF (bName 6) x_behind_of_2 (((aheadL A b p).map (·.1)).map D.int) [.fz q, .fz nn, .fz (.lst (aheads A b n)), .own (.lst (behinds A b n (p + 1))), .fz (.int (p : Nat)), .own (.dk []), s6, s7, s8] = _ := e
  have eq := behindL_eq A (b := b) (by omega : p ≠ n)
  rw [List.nil_append, ← eq] at e
  rw [behinds_pred A hp]
  unfold x_behind_of_3 xFor iSeq mNewD
  simp [freezeAll, runN, runIO, endN, endIO, endV, xRet, xRetN, xSeq, xSet, xIf, xDrop, xNil, xBind, xNo, xPut, xPar, putAll, putV, mAndV, mOrV, mNotB, mAndT, mOrT, mNotT, mTestB, mTruth, truth, mIf, mFn, mFnIO, mConsA, mNilA, mConsD, mNilD, mConsV, mNilV, mStarD, items, mArg, mRet, retV, argV, mVar, mFz, mCall, mUn, lookAll, lookL, scal_non, scal_bl, scal_int, scal_str, scal_tup, scal_lst, scal_own, mChain, mBin, hold, look, mutAt, Slot.mut, mTup, mLst, mMut, mMth, mSlice, mNoO, mSomeO, mIsi, setC, tyOf, LINE, dLe, dLt, dGt, dGe, dAdd, dSub, dMul, dDiv, dMod, dNeg, bName, bTup, bCons, bNil, dIx, ea, keys_ik, e, gAppend, lenb, -List.map_map]
theorem behind_5 (R : Rep b n q A ok) (hb : b ≤ 5000) (hb0 : 0 < b) (hn : b ^ n ≤ 5000) (n5 : n ≤ 5000) : ∀ (p : Nat) {s4 s5 s6 s7 s8 : Slot}, p ≤ n →
    ∃ s4' s5' s6' s7' s8', loopF (bName 4) x_behind_of_3 ((List.range p).reverse.map fun (i : Nat) => D.int (i : Nat)) [.fz q, .fz nn, .fz (.lst (aheads A b n)), .own (.lst (behinds A b n p)), s4, s5, s6, s7, s8] =
      some (.nx [.fz q, .fz nn, .fz (.lst (aheads A b n)), .own (.lst (behinds A b n 0)), s4', s5', s6', s7', s8'])
  | 0, s4, s5, s6, s7, s8, _ => ⟨s4, s5, s6, s7, s8, rfl⟩
  | p + 1, s4, s5, s6, s7, s8, h => by
    obtain ⟨t5, t6, t7, t8, e1⟩ := behind_4 (nn := nn) R hb hb0 hn (p := p) (by omega) n5 (s4 := s4) (s5 := s5) (s6 := s6) (s7 := s7) (s8 := s8)
    obtain ⟨u4, u5, u6, u7, u8, e2⟩ := behind_5 R hb hb0 hn n5 p (s4 := .fz (.int (p : Nat))) (s5 := t5) (s6 := t6) (s7 := t7) (s8 := t8) (by omega)
    refine ⟨u4, u5, u6, u7, u8, ?_⟩
    rw [List.range_succ, List.reverse_append, List.reverse_singleton, List.singleton_append, List.map_cons]
    unfold loopF
    have b1 : bName 4 (D.int (p : Nat)) [.fz q, .fz nn, .fz (.lst (aheads A b n)), .own (.lst (behinds A b n (p + 1))), s4, s5, s6, s7, s8] = some [.fz q, .fz nn, .fz (.lst (aheads A b n)), .own (.lst (behinds A b n (p + 1))), .fz (.int (p : Nat)), s5, s6, s7, s8] := rfl
    rw [b1]
    dsimp only
    rw [e1]
    exact e2
theorem rangeD_down (n : Nat) : rangeD ((n : Nat) - 1) (-1) n = (List.range n).reverse.map fun (i : Nat) => D.int (i : Nat) := by
  unfold rangeD
  refine List.ext_getElem (by simp) fun i h1 h2 => ?_
  rw [List.length_map, List.length_range] at h1
  simp only [List.getElem_map, List.getElem_range, List.getElem_reverse, List.length_range]
  congr 1
  omega
theorem m_behind_of_ok (R : Rep b n q A ok) (hb : b ≤ 5000) (hb0 : 0 < b) (hn : b ^ n ≤ 5000) (n5 : n ≤ 5000) : m_behind_of [q, .int (n : Nat), .lst (aheads A b n)] = some ⟨.own (.lst (behinds A b n 0).reverse), .non⟩ := by
  obtain ⟨t4, t5, t6, t7, t8, e⟩ := behind_5 (nn := .int (n : Nat)) R hb hb0 hn n5 n (s4 := .em) (s5 := .em) (s6 := .em) (s7 := .em) (s8 := .em) (Nat.le_refl n)
  rw [behinds_end] at e
  have bd := R.due
  have b6 : B62 ((n : Int) - 1) = true := by unfold B62; rw [Nat.ble_eq]; omega
  have b7 : B62 (-1) = true := rfl
  have er := rangeD_down n
  have et : ((n : Int) - 1 - -1).toNat = n := by omega
  unfold m_behind_of x_behind_of xFor iRangeN mDisp1 mRev
  simp [freezeAll, runN, runIO, endN, endIO, endV, xRet, xRetN, xSeq, xSet, xIf, xDrop, xNil, xBind, xNo, xPut, xPar, putAll, putV, mAndV, mOrV, mNotB, mAndT, mOrT, mNotT, mTestB, mTruth, truth, mIf, mFn, mFnIO, mConsA, mNilA, mConsD, mNilD, mConsV, mNilV, mStarD, items, mArg, mRet, retV, argV, mVar, mFz, mCall, mUn, lookAll, lookL, scal_non, scal_bl, scal_int, scal_str, scal_tup, scal_lst, scal_own, mChain, mBin, hold, look, mutAt, Slot.mut, mTup, mLst, mMut, mMth, mSlice, mNoO, mSomeO, mIsi, setC, tyOf, LINE, dLe, dLt, dGt, dGe, dAdd, dSub, dMul, dDiv, dMod, dNeg, bName, bTup, bCons, bNil, bd, b6, b7, keyOf, er, et, e, List.replicate, -List.map_reverse]
def behindAll (A : Auto) (b n : Nat) : List D := (List.range (n + 1)).map fun k => D.dk (ik (behindL A b n k))
theorem behinds_rev (A : Auto) (b n : Nat) : (behinds A b n 0).reverse = behindAll A b n := by
  unfold behinds behindAll
  rw [List.reverse_reverse, Nat.sub_zero, List.range_eq_range']
theorem behindAll_at (A : Auto) {b n p : Nat} (h : p ≤ n) : L2.atI (behindAll A b n) ((p : Nat) : Int) = some (D.dk (ik (behindL A b n p))) := by
  apply atI_nat
  unfold behindAll
  rw [List.getElem?_map, List.getElem?_range (by omega)]; rfl
theorem m_ways_by_ok (R : Rep b n q A ok) (hb : b ≤ 5000) (hb0 : 0 < b) (hn : b ^ n ≤ 5000) (n5 : n ≤ 5000) : m_ways_by [q, .int (n : Nat)] = ret (.tup [.lst (aheads A b n), .lst (behindAll A b n)]) := by
  have h1 := m_ahead_of_ok R hb hb0 hn n5
  have h2 := m_behind_of_ok R hb hb0 hn n5
  rw [behinds_rev] at h2
  unfold m_ways_by x_ways_by
  simp [freezeAll, runN, runIO, endN, endIO, endV, xRet, xRetN, xSeq, xSet, xIf, xDrop, xNil, xBind, xNo, xPut, xPar, putAll, putV, mAndV, mOrV, mNotB, mAndT, mOrT, mNotT, mTestB, mTruth, truth, mIf, mFn, mFnIO, mConsA, mNilA, mConsD, mNilD, mConsV, mNilV, mStarD, items, mArg, mRet, retV, argV, mVar, mFz, mCall, mUn, lookAll, lookL, scal_non, scal_bl, scal_int, scal_str, scal_tup, scal_lst, scal_own, mChain, mBin, hold, look, mutAt, Slot.mut, mTup, mLst, mMut, mMth, mSlice, mNoO, mSomeO, mIsi, setC, tyOf, LINE, dLe, dLt, dGt, dGe, dAdd, dSub, dMul, dDiv, dMod, dNeg, bName, bTup, bCons, bNil, h1, h2, List.replicate, freezeAll]
end
end Pv
end

section
set_option maxRecDepth 100000
set_option maxHeartbeats 4000000
namespace Pv
open PySem PySem.Spec L2 PyProof.Rows
section
variable {A : Auto} {b n p : Nat} {q nn : D} {ok : Int → Prop}
theorem mulOk_nat (i j : Nat) (h : i ≤ 5000) : mulOk (i : Nat) (j : Nat) = true := by
  unfold mulOk
  rw [Bool.or_eq_true, Bool.or_eq_true]
  exact .inl (.inl (decide_eq_true (by omega)))
theorem count_1 (R : Rep b n q A ok) (hp : p < n) {f : Nat} (hf : f < b) {ways : D} {x : Int × Nat} (hx : ok x.1) (hk : x.1 ∈ (aheadL A b p).map (·.1)) (hw : x.2 ≤ 5000) {c : Nat} :
    x_count_at_1 [.fz q, .fz ways, .fz (.int (p : Nat)), .fz (.int (f : Nat)), .fz (.int (c : Nat)), .fz (.lst (aheads A b n)), .fz (.lst (behindAll A b n)), .fz (.int x.1), .fz (.int (x.2 : Nat))] =
      some (.nx [.fz q, .fz ways, .fz (.int (p : Nat)), .fz (.int (f : Nat)), .fz (.int ((c + x.2 * A.suf b n (p + 1) (A.step p x.1 f) : Nat) : Int)), .fz (.lst (aheads A b n)), .fz (.lst (behindAll A b n)), .fz (.int x.1), .fz (.int (x.2 : Nat))]) := by
  have g := (R.goes p x.1 f hp hx hf).1
  have bt := behindAll_at A (b := b) (n := n) (p := p + 1) (by omega)
  have gg := gGet_any (behindL A b n (p + 1)) (A.step p x.1 f)
  rw [behindL_get A (by omega) (aheadL_step A b p hk hf)] at gg
  have mo := mulOk_nat x.2 (A.suf b n (p + 1) (A.step p x.1 f)) hw
  rw [Int.natCast_add] at bt
  have bt : L2.atI (behindAll A b n) ((p : Int) + 1) = _ := bt
  rw [Int.natCast_add, Int.natCast_mul]
  unfold x_count_at_1
  simp [freezeAll, runN, runIO, endN, endIO, endV, xRet, xRetN, xSeq, xSet, xIf, xDrop, xNil, xBind, xNo, xPut, xPar, putAll, putV, mAndV, mOrV, mNotB, mAndT, mOrT, mNotT, mTestB, mTruth, truth, mIf, mFn, mFnIO, mConsA, mNilA, mConsD, mNilD, mConsV, mNilV, mStarD, items, mArg, mRet, retV, argV, mVar, mFz, mCall, mUn, lookAll, lookL, scal_non, scal_bl, scal_int, scal_str, scal_tup, scal_lst, scal_own, mChain, mBin, hold, look, mutAt, Slot.mut, mTup, mLst, mMut, mMth, mSlice, mNoO, mSomeO, mIsi, setC, tyOf, LINE, dLe, dLt, dGt, dGe, dAdd, dSub, dMul, dDiv, dMod, dNeg, bName, bTup, bCons, bNil, g, bt, gg, mo, dIx]
theorem count_2 (R : Rep b n q A ok) (hp : p < n) {f : Nat} (hf : f < b) {ways : D} : ∀ {xs : List (Int × Nat)} {c : Nat} {s7 s8 : Slot}, (∀ x ∈ xs, ok x.1 ∧ x.1 ∈ (aheadL A b p).map (·.1) ∧ x.2 ≤ 5000) →
    ∃ s7' s8', loopF (bTup 2 (bCons (bName 7) (bCons (bName 8) bNil))) x_count_at_1 (itemsD xs) [.fz q, .fz ways, .fz (.int (p : Nat)), .fz (.int (f : Nat)), .fz (.int (c : Nat)), .fz (.lst (aheads A b n)), .fz (.lst (behindAll A b n)), s7, s8] =
      some (.nx [.fz q, .fz ways, .fz (.int (p : Nat)), .fz (.int (f : Nat)), .fz (.int ((c + wsum xs (fun h => A.suf b n (p + 1) (A.step p h f)) : Nat) : Int)), .fz (.lst (aheads A b n)), .fz (.lst (behindAll A b n)), s7', s8'])
  | [], c, s7, s8, _ => ⟨s7, s8, rfl⟩
  | x :: xs, c, s7, s8, h => by
    obtain ⟨h1, h2, h3⟩ := h x List.mem_cons_self
    have e1 := count_1 R hp hf (ways := ways) h1 h2 h3 (c := c)
    obtain ⟨t7, t8, e2⟩ := count_2 R hp hf (ways := ways) (xs := xs) (c := c + x.2 * A.suf b n (p + 1) (A.step p x.1 f)) (s7 := .fz (.int x.1)) (s8 := .fz (.int (x.2 : Nat))) (fun y hy => h y (List.mem_cons_of_mem _ hy))
    refine ⟨t7, t8, ?_⟩
    unfold itemsD
    rw [List.map_cons]
    unfold loopF
    have b1 : bTup 2 (bCons (bName 7) (bCons (bName 8) bNil)) (D.tup [.int x.1, .int (x.2 : Nat)]) [.fz q, .fz ways, .fz (.int (p : Nat)), .fz (.int (f : Nat)), .fz (.int (c : Nat)), .fz (.lst (aheads A b n)), .fz (.lst (behindAll A b n)), s7, s8] =
      some [.fz q, .fz ways, .fz (.int (p : Nat)), .fz (.int (f : Nat)), .fz (.int (c : Nat)), .fz (.lst (aheads A b n)), .fz (.lst (behindAll A b n)), .fz (.int x.1), .fz (.int (x.2 : Nat))] := rfl
    rw [b1]
    dsimp only
    rw [e1]
    dsimp only
    have ew : wsum (x :: xs) (fun h => A.suf b n (p + 1) (A.step p h f)) = x.2 * A.suf b n (p + 1) (A.step p x.1 f) + wsum xs (fun h => A.suf b n (p + 1) (A.step p h f)) := by unfold wsum; rw [su_cons]
    rw [ew, ← Nat.add_assoc]
    exact e2
theorem m_count_at_ok (R : Rep b n q A ok) (hb : b ≤ 5000) (hb0 : 0 < b) (hn : b ^ n ≤ 5000) (hp : p < n) {f : Nat} (hf : f < b) : m_count_at [q, .tup [.lst (aheads A b n), .lst (behindAll A b n)], .int (p : Nat), .int (f : Nat)] = ret (.int (A.at b n p f : Nat)) := by
  have okk := aheadL_ok A b n ok R.ok0 (fun p h f h1 h2 h3 => (R.goes p h f h1 h2 h3).2) p (by omega)
  have h1 := pow_le_line hn (p := p) (by omega) hb0
  obtain ⟨t7, t8, e⟩ := count_2 R hp hf (ways := .tup [.lst (aheads A b n), .lst (behindAll A b n)]) (xs := aheadL A b p) (c := 0) (s7 := .em) (s8 := .em) (fun x hx => ⟨okk _ (List.mem_map.mpr ⟨x, hx, rfl⟩), List.mem_map.mpr ⟨x, hx, rfl⟩, Nat.le_trans (aheadL_ways A b p hx) h1⟩)
  have ea := aheads_at A (b := b) (n := n) (p := p) (by omega)
  rw [aheadL_sum, ← A.at_eq hp hf, Nat.zero_add] at e
  unfold m_count_at x_count_at xFor iItemsD
  simp [freezeAll, runN, runIO, endN, endIO, endV, xRet, xRetN, xSeq, xSet, xIf, xDrop, xNil, xBind, xNo, xPut, xPar, putAll, putV, mAndV, mOrV, mNotB, mAndT, mOrT, mNotT, mTestB, mTruth, truth, mIf, mFn, mFnIO, mConsA, mNilA, mConsD, mNilD, mConsV, mNilV, mStarD, items, mArg, mRet, retV, argV, mVar, mFz, mCall, mUn, lookAll, lookL, scal_non, scal_bl, scal_int, scal_str, scal_tup, scal_lst, scal_own, mChain, mBin, hold, look, mutAt, Slot.mut, mTup, mLst, mMut, mMth, mSlice, mNoO, mSomeO, mIsi, setC, tyOf, LINE, dLe, dLt, dGt, dGe, dAdd, dSub, dMul, dDiv, dMod, dNeg, bName, bTup, bCons, bNil, dIx, ea, items_ik, e, List.replicate]
  have e : loopF (bTup 2 (bCons (bName 7) (bCons (bName 8) bNil))) x_count_at_1 (itemsD (aheadL A b p)) [.fz q, .fz (.tup [.lst (aheads A b n), .lst (behindAll A b n)]), .fz (.int (p : Nat)), .fz (.int (f : Nat)), .fz (.int 0), .fz (.lst (aheads A b n)), .fz (.lst (behindAll A b n)), .em, .em] = _ := e
  rw [e]
  simp [freezeAll, runN, runIO, endN, endIO, endV, xRet, xRetN, xSeq, xSet, xIf, xDrop, xNil, xBind, xNo, xPut, xPar, putAll, putV, mAndV, mOrV, mNotB, mAndT, mOrT, mNotT, mTestB, mTruth, truth, mIf, mFn, mFnIO, mConsA, mNilA, mConsD, mNilD, mConsV, mNilV, mStarD, items, mArg, mRet, retV, argV, mVar, mFz, mCall, mUn, lookAll, lookL, scal_non, scal_bl, scal_int, scal_str, scal_tup, scal_lst, scal_own, mChain, mBin, hold, look, mutAt, Slot.mut, mTup, mLst, mMut, mMth, mSlice, mNoO, mSomeO, mIsi, setC, tyOf, LINE, dLe, dLt, dGt, dGe, dAdd, dSub, dMul, dDiv, dMod, dNeg, bName, bTup, bCons, bNil]
/-- the counts of the figures at a place -/
def countsD (A : Auto) (b n p : Nat) : List D := (List.range b).map fun f => D.int (A.at b n p f : Nat)
def tableD (A : Auto) (b n p : Nat) : List D := (List.range p).map fun k => D.tup (countsD A b n k)
theorem tableD_succ (A : Auto) (b n p : Nat) : tableD A b n (p + 1) = tableD A b n p ++ [D.tup (countsD A b n p)] := by
  unfold tableD; rw [List.range_succ, List.map_append]; rfl
theorem figure_2 (R : Rep b n q A ok) (hb : b ≤ 5000) (hb0 : 0 < b) (hn : b ^ n ≤ 5000) (n5 : n ≤ 5000) (hp : p < n) {s5 : Slot} :
    ∃ s5', x_figure_counts_2 [.fz q, .fz nn, .fz (.int (p : Nat)), .fz (.tup [.lst (aheads A b n), .lst (behindAll A b n)]), .own (.lst (tableD A b n p)), s5] =
      some (.nx [.fz q, .fz nn, .fz (.int (p : Nat)), .fz (.tup [.lst (aheads A b n), .lst (behindAll A b n)]), .own (.lst (tableD A b n (p + 1))), s5']) := by
  have eb := R.base
  have b6 := b62_nat hb
  have hc : mComp (iRange1 (mConsD (mBin dIx (mVar 0) (mFz (.int 1))) mNilD)) (bName 5) mYes x_figure_counts_1 [5] [.fz q, .fz nn, .fz (.int (p : Nat)), .fz (.tup [.lst (aheads A b n), .lst (behindAll A b n)]), .own (.lst (tableD A b n p)), s5] =
      some (.own (.lst (countsD A b n p)), [.fz q, .fz nn, .fz (.int (p : Nat)), .fz (.tup [.lst (aheads A b n), .lst (behindAll A b n)]), .own (.lst (tableD A b n p)), .em]) := by
    have h0 : iRange1 (mConsD (mBin dIx (mVar 0) (mFz (.int 1))) mNilD) [.fz q, .fz nn, .fz (.int (p : Nat)), .fz (.tup [.lst (aheads A b n), .lst (behindAll A b n)]), .own (.lst (tableD A b n p)), s5] = some ((List.range b).map fun (i : Nat) => D.int (i : Nat), [.fz q, .fz nn, .fz (.int (p : Nat)), .fz (.tup [.lst (aheads A b n), .lst (behindAll A b n)]), .own (.lst (tableD A b n p)), s5]) := by
      unfold iRange1
      simp [freezeAll, runN, runIO, endN, endIO, endV, xRet, xRetN, xSeq, xSet, xIf, xDrop, xNil, xBind, xNo, xPut, xPar, putAll, putV, mAndV, mOrV, mNotB, mAndT, mOrT, mNotT, mTestB, mTruth, truth, mIf, mFn, mFnIO, mConsA, mNilA, mConsD, mNilD, mConsV, mNilV, mStarD, items, mArg, mRet, retV, argV, mVar, mFz, mCall, mUn, lookAll, lookL, scal_non, scal_bl, scal_int, scal_str, scal_tup, scal_lst, scal_own, mChain, mBin, hold, look, mutAt, Slot.mut, mTup, mLst, mMut, mMth, mSlice, mNoO, mSomeO, mIsi, setC, tyOf, LINE, dLe, dLt, dGt, dGe, dAdd, dSub, dMul, dDiv, dMod, dNeg, bName, bTup, bCons, bNil, eb, b6, rangeD_eq]
    have := mComp_map (g := fun d => match d with
        | .int f => D.int (A.at b n p f.toNat : Nat)
        | d => d) (f := x_figure_counts_1) (i := 5) h0 (by simp) (fun d hd => ?_) (by rw [List.length_map, List.length_range]; unfold LINE; omega)
    · rw [this, List.map_map]; rfl
    · obtain ⟨f, hf, rfl⟩ := List.mem_map.mp hd
      have g := m_count_at_ok R hb hb0 hn hp (List.mem_range.mp hf)
      unfold x_figure_counts_1
      simp [freezeAll, runN, runIO, endN, endIO, endV, xRet, xRetN, xSeq, xSet, xIf, xDrop, xNil, xBind, xNo, xPut, xPar, putAll, putV, mAndV, mOrV, mNotB, mAndT, mOrT, mNotT, mTestB, mTruth, truth, mIf, mFn, mFnIO, mConsA, mNilA, mConsD, mNilD, mConsV, mNilV, mStarD, items, mArg, mRet, retV, argV, mVar, mFz, mCall, mUn, lookAll, lookL, scal_non, scal_bl, scal_int, scal_str, scal_tup, scal_lst, scal_own, mChain, mBin, hold, look, mutAt, Slot.mut, mTup, mLst, mMut, mMth, mSlice, mNoO, mSomeO, mIsi, setC, tyOf, LINE, dLe, dLt, dGt, dGe, dAdd, dSub, dMul, dDiv, dMod, dNeg, bName, bTup, bCons, bNil, g]
  have hlen : (tableD A b n p).length < 16777216 := by unfold tableD; rw [List.length_map, List.length_range]; omega
  refine ⟨.em, ?_⟩
  unfold x_figure_counts_2
  simp [freezeAll, runN, runIO, endN, endIO, endV, xRet, xRetN, xSeq, xSet, xIf, xDrop, xNil, xBind, xNo, xPut, xPar, putAll, putV, mAndV, mOrV, mNotB, mAndT, mOrT, mNotT, mTestB, mTruth, truth, mIf, mFn, mFnIO, mConsA, mNilA, mConsD, mNilD, mConsV, mNilV, mStarD, items, mArg, mRet, retV, argV, mVar, mFz, mCall, mUn, lookAll, lookL, scal_non, scal_bl, scal_int, scal_str, scal_tup, scal_lst, scal_own, mChain, mBin, hold, look, mutAt, Slot.mut, mTup, mLst, mMut, mMth, mSlice, mNoO, mSomeO, mIsi, setC, tyOf, LINE, dLe, dLt, dGt, dGe, dAdd, dSub, dMul, dDiv, dMod, dNeg, bName, bTup, bCons, bNil, hc, dTuple, gAppend, hlen, tableD_succ]
theorem figure_3 (R : Rep b n q A ok) (hb : b ≤ 5000) (hb0 : 0 < b) (hn : b ^ n ≤ 5000) (n5 : n ≤ 5000) : ∀ (m p : Nat) {s2 s5 : Slot}, p + m = n →
    ∃ s2' s5', loopF (bName 2) x_figure_counts_2 ((List.range' p m).map fun (i : Nat) => D.int (i : Nat)) [.fz q, .fz nn, s2, .fz (.tup [.lst (aheads A b n), .lst (behindAll A b n)]), .own (.lst (tableD A b n p)), s5] =
      some (.nx [.fz q, .fz nn, s2', .fz (.tup [.lst (aheads A b n), .lst (behindAll A b n)]), .own (.lst (tableD A b n n)), s5'])
  | 0, p, s2, s5, e => by
    have : p = n := by omega
    subst this
    exact ⟨s2, s5, rfl⟩
  | m + 1, p, s2, s5, e => by
    obtain ⟨t5, e1⟩ := figure_2 (nn := nn) R hb hb0 hn n5 (p := p) (by omega) (s5 := s5)
    obtain ⟨u2, u5, e2⟩ := figure_3 R hb hb0 hn n5 m (p + 1) (s2 := .fz (.int (p : Nat))) (s5 := t5) (by omega)
    refine ⟨u2, u5, ?_⟩
    rw [List.range'_succ, List.map_cons]
    unfold loopF
    have b1 : bName 2 (D.int (p : Nat)) [.fz q, .fz nn, s2, .fz (.tup [.lst (aheads A b n), .lst (behindAll A b n)]), .own (.lst (tableD A b n p)), s5] = some [.fz q, .fz nn, .fz (.int (p : Nat)), .fz (.tup [.lst (aheads A b n), .lst (behindAll A b n)]), .own (.lst (tableD A b n p)), s5] := rfl
    rw [b1]
    dsimp only
    rw [e1]
    exact e2
theorem m_figure_counts_ok (R : Rep b n q A ok) (hb : b ≤ 5000) (hb0 : 0 < b) (hn : b ^ n ≤ 5000) (n5 : n ≤ 5000) (ck : m_check_sized [q, .int (n : Nat)] = ret .non) : m_figure_counts [q, .int (n : Nat)] = ret (.tup (tableD A b n n)) := by
  obtain ⟨t2, t5, e⟩ := figure_3 (nn := .int (n : Nat)) R hb hb0 hn n5 n 0 (s2 := .em) (s5 := .em) (by omega)
  have hw := m_ways_by_ok R hb hb0 hn n5
  have b6 := b62_nat n5
  have t0 : tableD A b n 0 = [] := rfl
  rw [t0] at e
  unfold m_figure_counts x_figure_counts xFor iRange1
  simp [freezeAll, runN, runIO, endN, endIO, endV, xRet, xRetN, xSeq, xSet, xIf, xDrop, xNil, xBind, xNo, xPut, xPar, putAll, putV, mAndV, mOrV, mNotB, mAndT, mOrT, mNotT, mTestB, mTruth, truth, mIf, mFn, mFnIO, mConsA, mNilA, mConsD, mNilD, mConsV, mNilV, mStarD, items, mArg, mRet, retV, argV, mVar, mFz, mCall, mUn, lookAll, lookL, scal_non, scal_bl, scal_int, scal_str, scal_tup, scal_lst, scal_own, mChain, mBin, hold, look, mutAt, Slot.mut, mTup, mLst, mMut, mMth, mSlice, mNoO, mSomeO, mIsi, setC, tyOf, LINE, dLe, dLt, dGt, dGe, dAdd, dSub, dMul, dDiv, dMod, dNeg, bName, bTup, bCons, bNil, ck, hw, b6, rangeD_eq, List.range_eq_range', List.replicate, e, dTuple]
/-- the least and the greatest count at a place -/
def minAt (A : Auto) (b n p : Nat) : Int := foldMin (A.at b n p 0 : Nat) ((List.range' 1 (b - 1)).map fun f => ((A.at b n p f : Nat) : Int))
def maxAt (A : Auto) (b n p : Nat) : Int := foldMax (A.at b n p 0 : Nat) ((List.range' 1 (b - 1)).map fun f => ((A.at b n p f : Nat) : Int))
def fairD (A : Auto) (b n : Nat) : List D := (List.range n).map fun p => D.tup [.int (minAt A b n p), .int (maxAt A b n p)]
theorem counts_ints (A : Auto) {b n p : Nat} (hb0 : 0 < b) : intsOf (countsD A b n p) = some (((A.at b n p 0 : Nat) : Int) :: (List.range' 1 (b - 1)).map fun f => ((A.at b n p f : Nat) : Int)) := by
  unfold countsD
  rw [intsOf_nat]
  obtain ⟨c, rfl⟩ : ∃ c, b = c + 1 := ⟨b - 1, by omega⟩
  rw [List.range_eq_range', List.range'_succ, List.map_cons]
  rfl
theorem m_fairness_ok (R : Rep b n q A ok) (hb : b ≤ 5000) (hb0 : 0 < b) (hn : b ^ n ≤ 5000) (n5 : n ≤ 5000) (ck : m_check_sized [q, .int (n : Nat)] = ret .non) (cf : m_check_few [q, .int (n : Nat)] = ret .non) : m_fairness [q, .int (n : Nat)] = ret (.tup (fairD A b n)) := by
  have hf := m_figure_counts_ok R hb hb0 hn n5 ck
  have hc : mComp (iSeq (mFn m_figure_counts (mConsA (mVar 0) (mConsA (mVar 1) mNilA)))) (bName 2) mYes x_fairness_1 [2] [.fz q, .fz (.int (n : Nat)), .em] = some (.own (.lst (fairD A b n)), [.fz q, .fz (.int (n : Nat)), .em]) := by
    have h0 : iSeq (mFn m_figure_counts (mConsA (mVar 0) (mConsA (mVar 1) mNilA))) [.fz q, .fz (.int (n : Nat)), .em] = some (tableD A b n n, [.fz q, .fz (.int (n : Nat)), .em]) := by
      unfold iSeq
      simp [freezeAll, runN, runIO, endN, endIO, endV, xRet, xRetN, xSeq, xSet, xIf, xDrop, xNil, xBind, xNo, xPut, xPar, putAll, putV, mAndV, mOrV, mNotB, mAndT, mOrT, mNotT, mTestB, mTruth, truth, mIf, mFn, mFnIO, mConsA, mNilA, mConsD, mNilD, mConsV, mNilV, mStarD, items, mArg, mRet, retV, argV, mVar, mFz, mCall, mUn, lookAll, lookL, scal_non, scal_bl, scal_int, scal_str, scal_tup, scal_lst, scal_own, mChain, mBin, hold, look, mutAt, Slot.mut, mTup, mLst, mMut, mMth, mSlice, mNoO, mSomeO, mIsi, setC, tyOf, LINE, dLe, dLt, dGt, dGe, dAdd, dSub, dMul, dDiv, dMod, dNeg, bName, bTup, bCons, bNil, hf, freezeAll]
    have hin : ∀ d ∈ tableD A b n n, ∃ p, p < n ∧ d = D.tup (countsD A b n p) := fun d hd => by
      obtain ⟨p, hp, rfl⟩ := List.mem_map.mp hd
      exact ⟨p, List.mem_range.mp hp, rfl⟩
    have := mComp_map (g := fun d => match d with
        | .tup ds => (match intsOf ds with
          | some (m :: ms) => D.tup [.int (foldMin m ms), .int (foldMax m ms)]
          | _ => d)
        | d => d) (f := x_fairness_1) (i := 2) h0 (by simp) (fun d hd => ?_) (by unfold tableD; rw [List.length_map, List.length_range]; unfold LINE; omega)
    · rw [this]
      unfold tableD fairD
      rw [List.map_map]
      congr 3
      refine congrArg D.lst (List.map_congr_left fun p _ => ?_)
      have ci := counts_ints A (n := n) (p := p) hb0
      simp only [Function.comp, ci]
      rfl
    · obtain ⟨p, hp, rfl⟩ := hin d hd
      have ci := counts_ints A (n := n) (p := p) hb0
      unfold x_fairness_1
      simp [freezeAll, runN, runIO, endN, endIO, endV, xRet, xRetN, xSeq, xSet, xIf, xDrop, xNil, xBind, xNo, xPut, xPar, putAll, putV, mAndV, mOrV, mNotB, mAndT, mOrT, mNotT, mTestB, mTruth, truth, mIf, mFn, mFnIO, mConsA, mNilA, mConsD, mNilD, mConsV, mNilV, mStarD, items, mArg, mRet, retV, argV, mVar, mFz, mCall, mUn, lookAll, lookL, scal_non, scal_bl, scal_int, scal_str, scal_tup, scal_lst, scal_own, mChain, mBin, hold, look, mutAt, Slot.mut, mTup, mLst, mMut, mMth, mSlice, mNoO, mSomeO, mIsi, setC, tyOf, LINE, dLe, dLt, dGt, dGe, dAdd, dSub, dMul, dDiv, dMod, dNeg, bName, bTup, bCons, bNil, dMin, dMax, ci]
  unfold m_fairness x_fairness
  simp [freezeAll, runN, runIO, endN, endIO, endV, xRet, xRetN, xSeq, xSet, xIf, xDrop, xNil, xBind, xNo, xPut, xPar, putAll, putV, mAndV, mOrV, mNotB, mAndT, mOrT, mNotT, mTestB, mTruth, truth, mIf, mFn, mFnIO, mConsA, mNilA, mConsD, mNilD, mConsV, mNilV, mStarD, items, mArg, mRet, retV, argV, mVar, mFz, mCall, mUn, lookAll, lookL, scal_non, scal_bl, scal_int, scal_str, scal_tup, scal_lst, scal_own, mChain, mBin, hold, look, mutAt, Slot.mut, mTup, mLst, mMut, mMth, mSlice, mNoO, mSomeO, mIsi, setC, tyOf, LINE, dLe, dLt, dGt, dGe, dAdd, dSub, dMul, dDiv, dMod, dNeg, bName, bTup, bCons, bNil, ck, cf, List.replicate, hc, dTuple]
end
end Pv
end

section
set_option maxRecDepth 100000
set_option maxHeartbeats 4000000
namespace Pv
open PySem PySem.Spec L2 PyProof.Rows

/-! ### all rows -/
def figD (f : Nat) : D := .int (f : Nat)
def rowD (r : List Nat) : D := .tup (r.map figD)
def labB (el : Ev) : ExS := xDrop (mMut gExtend 4 (mConsD (mComp (iRange1 (mConsD (mVar 0) (mNilD))) (bName 6) (mYes) el [6]) (mNilD)))
def labC (el : Ev) : ExS := xSeq (xSet 4 (mLst (mNilD))) (xSeq (xFor (iSeq (mVar 2)) (bName 5) (labB el)) (xSet 2 (mVar 4)))
def labX (el : Ev) : ExS := xSeq (xSet 2 (mLst (mConsD (mTup (mNilD)) (mNilD)))) (xSeq (xFor (iRange1 (mConsD (mVar 1) (mNilD))) (bName 3) (labC el)) (xRet (mVar 2)))
/-- an element puts the figure behind the row -/
def Snoc (el : Ev) : Prop := ∀ (r : List Nat) (f : Nat) (s0 s1 s2 s3 s4 : Slot), r.length < 5000 → mRet el [s0, s1, s2, s3, s4, .fz (rowD r), .fz (.int (f : Nat))] = some (.fz (rowD (r ++ [f])), [s0, s1, s2, s3, s4, .fz (rowD r), .fz (.int (f : Nat))])
theorem snoc_all : Snoc x_all_labels_1 := by
  intro r f s0 s1 s2 s3 s4 h
  have h' : r.length ≤ 16777215 := by omega
  unfold x_all_labels_1 rowD figD
  simp [freezeAll, runN, runIO, endN, endIO, endV, xRet, xRetN, xSeq, xSet, xIf, xDrop, xNil, xBind, xNo, xPut, xPar, putAll, putV, mAndV, mOrV, mNotB, mAndT, mOrT, mNotT, mTestB, mTruth, truth, mIf, mFn, mFnIO, mConsA, mNilA, mConsD, mNilD, mConsV, mNilV, mStarD, items, mArg, mRet, retV, argV, mVar, mFz, mCall, mUn, lookAll, lookL, scal_non, scal_bl, scal_int, scal_str, scal_tup, scal_lst, scal_own, mChain, mBin, hold, look, mutAt, Slot.mut, mTup, mLst, mMut, mMth, mSlice, mNoO, mSomeO, mIsi, setC, tyOf, LINE, dLe, dLt, dGt, dGe, dAdd, dSub, dMul, dDiv, dMod, dNeg, bName, bTup, bCons, bNil, h']
theorem snoc_law : Snoc x__law_labels_1 := by
  intro r f s0 s1 s2 s3 s4 h
  have h' : r.length ≤ 16777215 := by omega
  unfold x__law_labels_1 rowD figD
  simp [freezeAll, runN, runIO, endN, endIO, endV, xRet, xRetN, xSeq, xSet, xIf, xDrop, xNil, xBind, xNo, xPut, xPar, putAll, putV, mAndV, mOrV, mNotB, mAndT, mOrT, mNotT, mTestB, mTruth, truth, mIf, mFn, mFnIO, mConsA, mNilA, mConsD, mNilD, mConsV, mNilV, mStarD, items, mArg, mRet, retV, argV, mVar, mFz, mCall, mUn, lookAll, lookL, scal_non, scal_bl, scal_int, scal_str, scal_tup, scal_lst, scal_own, mChain, mBin, hold, look, mutAt, Slot.mut, mTup, mLst, mMut, mMth, mSlice, mNoO, mSomeO, mIsi, setC, tyOf, LINE, dLe, dLt, dGt, dGe, dAdd, dSub, dMul, dDiv, dMod, dNeg, bName, bTup, bCons, bNil, h']
section
variable {el : Ev} {b : Nat} {nn : D}
theorem lab_1 (E : Snoc el) (hb : b ≤ 5000) {r : List Nat} (hr : r.length < 5000) {found : Slot} {acc : List D} {s3 s6 : Slot} (hl : acc.length + b ≤ 5000) :
    ∃ s6', labB el [.fz (.int (b : Nat)), .fz nn, found, s3, .own (.lst acc), .fz (rowD r), s6] =
      some (.nx [.fz (.int (b : Nat)), .fz nn, found, s3, .own (.lst (acc ++ (List.range b).map fun f => rowD (r ++ [f]))), .fz (rowD r), s6']) := by
  have b6 := b62_nat hb
  have hc : mComp (iRange1 (mConsD (mVar 0) mNilD)) (bName 6) mYes el [6] [.fz (.int (b : Nat)), .fz nn, found, s3, .own (.lst acc), .fz (rowD r), s6] =
      some (.own (.lst ((List.range b).map fun f => rowD (r ++ [f]))), [.fz (.int (b : Nat)), .fz nn, found, s3, .own (.lst acc), .fz (rowD r), .em]) := by
    have h0 : iRange1 (mConsD (mVar 0) mNilD) [.fz (.int (b : Nat)), .fz nn, found, s3, .own (.lst acc), .fz (rowD r), s6] = some ((List.range b).map fun (i : Nat) => D.int (i : Nat), [.fz (.int (b : Nat)), .fz nn, found, s3, .own (.lst acc), .fz (rowD r), s6]) := by
      unfold iRange1
      simp [freezeAll, runN, runIO, endN, endIO, endV, xRet, xRetN, xSeq, xSet, xIf, xDrop, xNil, xBind, xNo, xPut, xPar, putAll, putV, mAndV, mOrV, mNotB, mAndT, mOrT, mNotT, mTestB, mTruth, truth, mIf, mFn, mFnIO, mConsA, mNilA, mConsD, mNilD, mConsV, mNilV, mStarD, items, mArg, mRet, retV, argV, mVar, mFz, mCall, mUn, lookAll, lookL, scal_non, scal_bl, scal_int, scal_str, scal_tup, scal_lst, scal_own, mChain, mBin, hold, look, mutAt, Slot.mut, mTup, mLst, mMut, mMth, mSlice, mNoO, mSomeO, mIsi, setC, tyOf, LINE, dLe, dLt, dGt, dGe, dAdd, dSub, dMul, dDiv, dMod, dNeg, bName, bTup, bCons, bNil, b6, rangeD_eq]
    have := mComp_map (g := fun d => match d with
        | .int f => rowD (r ++ [f.toNat])
        | d => d) (f := el) (i := 6) h0 (by simp) (fun d hd => ?_) (by rw [List.length_map, List.length_range]; unfold LINE; omega)
    · rw [this, List.map_map]; rfl
    · obtain ⟨f, hf, rfl⟩ := List.mem_map.mp hd
      exact E r f _ _ _ _ _ hr
  have h1 : acc.length + b ≤ 16777216 := by omega
  refine ⟨.em, ?_⟩
  unfold labB
  simp [freezeAll, runN, runIO, endN, endIO, endV, xRet, xRetN, xSeq, xSet, xIf, xDrop, xNil, xBind, xNo, xPut, xPar, putAll, putV, mAndV, mOrV, mNotB, mAndT, mOrT, mNotT, mTestB, mTruth, truth, mIf, mFn, mFnIO, mConsA, mNilA, mConsD, mNilD, mConsV, mNilV, mStarD, items, mArg, mRet, retV, argV, mVar, mFz, mCall, mUn, lookAll, lookL, scal_non, scal_bl, scal_int, scal_str, scal_tup, scal_lst, scal_own, mChain, mBin, hold, look, mutAt, Slot.mut, mTup, mLst, mMut, mMth, mSlice, mNoO, mSomeO, mIsi, setC, tyOf, LINE, dLe, dLt, dGt, dGe, dAdd, dSub, dMul, dDiv, dMod, dNeg, bName, bTup, bCons, bNil, hc, gExtend, h1]
theorem lab_2 (E : Snoc el) (hb : b ≤ 5000) {found : Slot} {s3 : Slot} : ∀ {rs : List (List Nat)} {acc : List D} {s5 s6 : Slot}, (∀ r ∈ rs, r.length < 5000) → acc.length + rs.length * b ≤ 5000 →
    ∃ s5' s6', loopF (bName 5) (labB el) (rs.map rowD) [.fz (.int (b : Nat)), .fz nn, found, s3, .own (.lst acc), s5, s6] =
      some (.nx [.fz (.int (b : Nat)), .fz nn, found, s3, .own (.lst (acc ++ (rs.flatMap fun r => (List.range b).map fun f => r ++ [f]).map rowD)), s5', s6'])
  | [], acc, s5, s6, _, _ => ⟨s5, s6, by show _ = some (SOut.nx [_, _, _, _, .own (.lst (acc ++ [])), _, _]); rw [List.append_nil]; rfl⟩
  | r :: rs, acc, s5, s6, h, hl => by
    rw [List.length_cons, Nat.succ_mul] at hl
    obtain ⟨t6, e1⟩ := lab_1 (nn := nn) E hb (h r List.mem_cons_self) (found := found) (acc := acc) (s3 := s3) (s6 := s6) (by omega)
    obtain ⟨u5, u6, e2⟩ := lab_2 E hb (found := found) (s3 := s3) (rs := rs) (acc := acc ++ (List.range b).map fun f => rowD (r ++ [f])) (s5 := .fz (rowD r)) (s6 := t6) (fun x hx => h x (List.mem_cons_of_mem _ hx)) (by rw [List.length_append, List.length_map, List.length_range]; omega)
    refine ⟨u5, u6, ?_⟩
    rw [List.map_cons]
    unfold loopF
    have b1 : bName 5 (rowD r) [.fz (.int (b : Nat)), .fz nn, found, s3, .own (.lst acc), s5, s6] = some [.fz (.int (b : Nat)), .fz nn, found, s3, .own (.lst acc), .fz (rowD r), s6] := rfl
    rw [b1]
    dsimp only
    rw [e1]
    dsimp only
    rw [e2, List.append_assoc, List.flatMap_cons, List.map_append, List.map_map]
    rfl
theorem lab_3 (E : Snoc el) (hb : b ≤ 5000) {p : Nat} (hp : p < 5000) (hl : b ^ (p + 1) ≤ 5000) {s3 s4 s5 s6 : Slot} :
    ∃ s4' s5' s6', labC el [.fz (.int (b : Nat)), .fz nn, .own (.lst ((rows b p).map rowD)), s3, s4, s5, s6] =
      some (.nx [.fz (.int (b : Nat)), .fz nn, .own (.lst ((rows b (p + 1)).map rowD)), s3, s4', s5', s6']) := by
  obtain ⟨t5, t6, e⟩ := lab_2 (nn := nn) E hb (found := .fz (.lst ((rows b p).map rowD))) (s3 := s3) (rs := rows b p) (acc := []) (s5 := s5) (s6 := s6) (fun r hr => by rw [(rows_mem.mp hr).1]; exact hp) (by
    rw [rows_length, List.length_nil, ← Nat.pow_succ, Nat.zero_add]; exact hl)
  have e : loopF (bName 5) (labB el) ((rows b p).map rowD) [.fz (.int (b : Nat)), .fz nn, .fz (.lst ((rows b p).map rowD)), s3, .own (.lst []), s5, s6] = some (.nx [.fz (.int (b : Nat)), .fz nn, .fz (.lst ((rows b p).map rowD)), s3, .own (.lst ((rows b (p + 1)).map rowD)), t5, t6]) := e
  refine ⟨.em, t5, t6, ?_⟩
  unfold labC xFor iSeq
  simp [freezeAll, runN, runIO, endN, endIO, endV, xRet, xRetN, xSeq, xSet, xIf, xDrop, xNil, xBind, xNo, xPut, xPar, putAll, putV, mAndV, mOrV, mNotB, mAndT, mOrT, mNotT, mTestB, mTruth, truth, mIf, mFn, mFnIO, mConsA, mNilA, mConsD, mNilD, mConsV, mNilV, mStarD, items, mArg, mRet, retV, argV, mVar, mFz, mCall, mUn, lookAll, lookL, scal_non, scal_bl, scal_int, scal_str, scal_tup, scal_lst, scal_own, mChain, mBin, hold, look, mutAt, Slot.mut, mTup, mLst, mMut, mMth, mSlice, mNoO, mSomeO, mIsi, setC, tyOf, LINE, dLe, dLt, dGt, dGe, dAdd, dSub, dMul, dDiv, dMod, dNeg, bName, bTup, bCons, bNil, e]
theorem lab_4 (E : Snoc el) (hb : b ≤ 5000) (hb0 : 0 < b) {n : Nat} (hn : b ^ n ≤ 5000) (n5 : n ≤ 5000) : ∀ (m p : Nat) {s3 s4 s5 s6 : Slot}, p + m = n →
    ∃ s3' s4' s5' s6', loopF (bName 3) (labC el) ((List.range' p m).map fun (i : Nat) => D.int (i : Nat)) [.fz (.int (b : Nat)), .fz nn, .own (.lst ((rows b p).map rowD)), s3, s4, s5, s6] =
      some (.nx [.fz (.int (b : Nat)), .fz nn, .own (.lst ((rows b n).map rowD)), s3', s4', s5', s6'])
  | 0, p, s3, s4, s5, s6, e => by
    have : p = n := by omega
    subst this
    exact ⟨s3, s4, s5, s6, rfl⟩
  | m + 1, p, s3, s4, s5, s6, e => by
    obtain ⟨t4, t5, t6, e1⟩ := lab_3 (nn := nn) E hb (p := p) (by omega) (pow_le_line hn (by omega) hb0) (s3 := .fz (.int (p : Nat))) (s4 := s4) (s5 := s5) (s6 := s6)
    obtain ⟨u3, u4, u5, u6, e2⟩ := lab_4 E hb hb0 hn n5 m (p + 1) (s3 := .fz (.int (p : Nat))) (s4 := t4) (s5 := t5) (s6 := t6) (by omega)
    refine ⟨u3, u4, u5, u6, ?_⟩
    rw [List.range'_succ, List.map_cons]
    unfold loopF
    have b1 : bName 3 (D.int (p : Nat)) [.fz (.int (b : Nat)), .fz nn, .own (.lst ((rows b p).map rowD)), s3, s4, s5, s6] = some [.fz (.int (b : Nat)), .fz nn, .own (.lst ((rows b p).map rowD)), .fz (.int (p : Nat)), s4, s5, s6] := rfl
    rw [b1]
    dsimp only
    rw [e1]
    exact e2
theorem lab_ok (E : Snoc el) (hb : b ≤ 5000) (hb0 : 0 < b) {n : Nat} (hn : b ^ n ≤ 5000) (n5 : n ≤ 5000) : runN (labX el) 2 7 [.int (b : Nat), .int (n : Nat)] = some ⟨.own (.lst ((rows b n).map rowD)), .non⟩ := by
  obtain ⟨t3, t4, t5, t6, e⟩ := lab_4 (nn := .int (n : Nat)) E hb hb0 hn n5 n 0 (s3 := .em) (s4 := .em) (s5 := .em) (s6 := .em) (by omega)
  have e : loopF (bName 3) (labC el) ((List.range' 0 n).map fun (i : Nat) => D.int (i : Nat)) [.fz (.int (b : Nat)), .fz (.int (n : Nat)), .own (.lst [.tup []]), .em, .em, .em, .em] = _ := e
  have b6 := b62_nat n5
  unfold labX xFor iRange1
  simp [freezeAll, runN, runIO, endN, endIO, endV, xRet, xRetN, xSeq, xSet, xIf, xDrop, xNil, xBind, xNo, xPut, xPar, putAll, putV, mAndV, mOrV, mNotB, mAndT, mOrT, mNotT, mTestB, mTruth, truth, mIf, mFn, mFnIO, mConsA, mNilA, mConsD, mNilD, mConsV, mNilV, mStarD, items, mArg, mRet, retV, argV, mVar, mFz, mCall, mUn, lookAll, lookL, scal_non, scal_bl, scal_int, scal_str, scal_tup, scal_lst, scal_own, mChain, mBin, hold, look, mutAt, Slot.mut, mTup, mLst, mMut, mMth, mSlice, mNoO, mSomeO, mIsi, setC, tyOf, LINE, dLe, dLt, dGt, dGe, dAdd, dSub, dMul, dDiv, dMod, dNeg, bName, bTup, bCons, bNil, b6, rangeD_eq, List.range_eq_range', List.replicate, e]
end
theorem m_all_labels_ok {b n : Nat} (hb : b ≤ 5000) (hb0 : 0 < b) (hn : b ^ n ≤ 5000) (n5 : n ≤ 5000) : m_all_labels [.int (b : Nat), .int (n : Nat)] = some ⟨.own (.lst ((rows b n).map rowD)), .non⟩ := lab_ok snoc_all hb hb0 hn n5
theorem m__law_labels_ok {b n : Nat} (hb : b ≤ 5000) (hb0 : 0 < b) (hn : b ^ n ≤ 5000) (n5 : n ≤ 5000) : m__law_labels [.int (b : Nat), .int (n : Nat)] = some ⟨.own (.lst ((rows b n).map rowD)), .non⟩ := lab_ok snoc_law hb hb0 hn n5

/-! ### what a row tells -/
theorem enumD_map (l : List Nat) : ∀ k, enumD k (l.map figD) = (l.zipIdx k).map fun x => D.tup [.int (x.2 : Nat), figD x.1] := by
  induction l with
  | nil => intro k; rfl
  | cons a l ih => intro k; rw [List.map_cons, List.zipIdx_cons, List.map_cons, ← ih (k + 1)]; rfl
section
variable {A : Auto} {b n : Nat} {q : D} {ok : Int → Prop}
theorem tells_1 (R : Rep b n q A ok) {lab : D} : ∀ {l : List Nat} {p : Nat} {h : Int} {s3 s4 : Slot}, ok h → (∀ f ∈ l, f < b) → p + l.length ≤ n →
    ∃ s3' s4', loopF (bTup 2 (bCons (bName 3) (bCons (bName 4) bNil))) x_tells_of_1 (enumD p (l.map figD)) [.fz q, .fz lab, .fz (.int h), s3, s4] = some (.nx [.fz q, .fz lab, .fz (.int (A.run p h l)), s3', s4'])
  | [], p, h, s3, s4, _, _, _ => ⟨s3, s4, rfl⟩
  | f :: l, p, h, s3, s4, hh, hb, hl => by
    rw [List.length_cons] at hl
    obtain ⟨g, hh'⟩ := R.goes p h f (by omega) hh (hb f List.mem_cons_self)
    obtain ⟨t3, t4, e⟩ := tells_1 R (lab := lab) (l := l) (p := p + 1) (h := A.step p h f) (s3 := .fz (.int (p : Nat))) (s4 := .fz (figD f)) hh' (fun x hx => hb x (List.mem_cons_of_mem _ hx)) (by omega)
    refine ⟨t3, t4, ?_⟩
    rw [List.map_cons]
    unfold enumD loopF
    have b1 : bTup 2 (bCons (bName 3) (bCons (bName 4) bNil)) (D.tup [.int (p : Nat), figD f]) [.fz q, .fz lab, .fz (.int h), s3, s4] = some [.fz q, .fz lab, .fz (.int h), .fz (.int (p : Nat)), .fz (figD f)] := rfl
    have b2 : x_tells_of_1 [.fz q, .fz lab, .fz (.int h), .fz (.int (p : Nat)), .fz (figD f)] = some (.nx [.fz q, .fz lab, .fz (.int (A.step p h f)), .fz (.int (p : Nat)), .fz (figD f)]) := by
      unfold x_tells_of_1 figD
      simp [freezeAll, runN, runIO, endN, endIO, endV, xRet, xRetN, xSeq, xSet, xIf, xDrop, xNil, xBind, xNo, xPut, xPar, putAll, putV, mAndV, mOrV, mNotB, mAndT, mOrT, mNotT, mTestB, mTruth, truth, mIf, mFn, mFnIO, mConsA, mNilA, mConsD, mNilD, mConsV, mNilV, mStarD, items, mArg, mRet, retV, argV, mVar, mFz, mCall, mUn, lookAll, lookL, scal_non, scal_bl, scal_int, scal_str, scal_tup, scal_lst, scal_own, mChain, mBin, hold, look, mutAt, Slot.mut, mTup, mLst, mMut, mMth, mSlice, mNoO, mSomeO, mIsi, setC, tyOf, LINE, dLe, dLt, dGt, dGe, dAdd, dSub, dMul, dDiv, dMod, dNeg, bName, bTup, bCons, bNil, g]
    rw [b1]
    dsimp only
    rw [b2]
    exact e
theorem m_tells_of_ok (R : Rep b n q A ok) {l : List Nat} (hl : l.length ≤ n) (hb : ∀ f ∈ l, f < b) : m_tells_of [q, rowD l] = ret (.int (A.run 0 A.start l)) := by
  obtain ⟨t3, t4, e⟩ := tells_1 R (lab := rowD l) (p := 0) (s3 := .em) (s4 := .em) R.ok0 hb (by omega)
  have bg := R.beg
  unfold m_tells_of x_tells_of xFor iEnumD
  unfold rowD at e ⊢
  simp [freezeAll, runN, runIO, endN, endIO, endV, xRet, xRetN, xSeq, xSet, xIf, xDrop, xNil, xBind, xNo, xPut, xPar, putAll, putV, mAndV, mOrV, mNotB, mAndT, mOrT, mNotT, mTestB, mTruth, truth, mIf, mFn, mFnIO, mConsA, mNilA, mConsD, mNilD, mConsV, mNilV, mStarD, items, mArg, mRet, retV, argV, mVar, mFz, mCall, mUn, lookAll, lookL, scal_non, scal_bl, scal_int, scal_str, scal_tup, scal_lst, scal_own, mChain, mBin, hold, look, mutAt, Slot.mut, mTup, mLst, mMut, mMth, mSlice, mNoO, mSomeO, mIsi, setC, tyOf, LINE, dLe, dLt, dGt, dGe, dAdd, dSub, dMul, dDiv, dMod, dNeg, bName, bTup, bCons, bNil, bg, List.replicate, e, -List.map_map]
theorem eqD_int (i j : Int) : dEq (.int i) (.int j) = some (.fz (.bl (i == j))) := rfl
theorem m_does_suit_ok (R : Rep b n q A ok) {l : List Nat} (hl : l.length ≤ n) (hb : ∀ f ∈ l, f < b) : m_does_suit [q, rowD l] = ret (.bl (A.good l)) := by
  have h1 := m_tells_of_ok R hl hb
  have h2 := R.due
  have e : A.good l = (A.run 0 A.start l == A.due) := rfl
  unfold m_does_suit x_does_suit
  simp [freezeAll, runN, runIO, endN, endIO, endV, xRet, xRetN, xSeq, xSet, xIf, xDrop, xNil, xBind, xNo, xPut, xPar, putAll, putV, mAndV, mOrV, mNotB, mAndT, mOrT, mNotT, mTestB, mTruth, truth, mIf, mFn, mFnIO, mConsA, mNilA, mConsD, mNilD, mConsV, mNilV, mStarD, items, mArg, mRet, retV, argV, mVar, mFz, mCall, mUn, lookAll, lookL, scal_non, scal_bl, scal_int, scal_str, scal_tup, scal_lst, scal_own, mChain, mBin, hold, look, mutAt, Slot.mut, mTup, mLst, mMut, mMth, mSlice, mNoO, mSomeO, mIsi, setC, tyOf, LINE, dLe, dLt, dGt, dGe, dAdd, dSub, dMul, dDiv, dMod, dNeg, bName, bTup, bCons, bNil, h1, h2, eqD_int, e]
end
end Pv
end

section
set_option maxRecDepth 100000
set_option maxHeartbeats 4000000
namespace Pv
open PySem PySem.Spec L2 PyProof.Rows

theorem beq_one (x : Nat) : ((x : Int) == 1) = decide (x = 1) := by
  rw [Bool.eq_iff_iff, beq_iff_eq, decide_eq_true_eq]; omega
theorem beq_zero (x : Nat) : ((x : Int) == 0) = decide (x = 0) := by
  rw [Bool.eq_iff_iff, beq_iff_eq, decide_eq_true_eq]; omega
def natOf : D → Nat
  | .int i => i.toNat
  | _ => 0
def rowOf : D → List Nat
  | .tup ds => ds.map natOf
  | _ => []
theorem rowOf_rowD (r : List Nat) : rowOf (rowD r) = r := by
  show (r.map figD).map natOf = r
  rw [List.map_map]
  conv => rhs; rw [← List.map_id r]
  exact List.map_congr_left fun x _ => rfl
theorem cutD_take (ds : List D) (p : Nat) (h : p ≤ ds.length) : cutD ds none (some ((p : Nat) : Int)) = ds.take p := by
  have e1 : HT.sIx ds.length 0 none = 0 := rfl
  have e2 : HT.sIx ds.length ds.length (some ((p : Nat) : Int)) = p := by
    simp only [HT.sIx]
    split <;> omega
  unfold cutD
  rw [e1, e2, List.drop_zero, Nat.sub_zero]
theorem cutD_drop (ds : List D) (p : Nat) (h : p ≤ ds.length) : cutD ds (some ((p : Nat) : Int)) none = ds.drop p := by
  have e1 : HT.sIx ds.length 0 (some ((p : Nat) : Int)) = p := by
    simp only [HT.sIx]
    split <;> omega
  have e2 : HT.sIx ds.length ds.length none = ds.length := rfl
  unfold cutD
  rw [e1, e2]
  exact List.take_of_length_le (by rw [List.length_drop]; exact Nat.le_refl _)
theorem m_with_figure_ok {r : List Nat} {p f : Nat} (hp : p < r.length) (hr : r.length ≤ 5000) : m_with_figure [rowD r, .int (p : Nat), .int (f : Nat)] = ret (rowD (r.set p f)) := by
  have h1 := cutD_take (r.map figD) p (by rw [List.length_map]; omega)
  have h2 := cutD_drop (r.map figD) (p + 1) (by rw [List.length_map]; omega)
  rw [Int.natCast_add] at h2
  have h2 : cutD (r.map figD) (some ((p : Int) + 1)) none = _ := h2
  have e : (r.set p f).map figD = (r.map figD).take p ++ figD f :: (r.map figD).drop (p + 1) := by
    rw [List.set_eq_take_append_cons_drop, if_pos hp, List.map_append, List.map_cons, List.map_take, List.map_drop]
  have hl : ((r.map figD).take p ++ figD f :: (r.map figD).drop (p + 1)).length ≤ 16777216 := by
    rw [← e, List.length_map, List.length_set]; omega
  unfold m_with_figure x_with_figure
  unfold rowD
  rw [e]
  unfold figD at h1 h2 hl ⊢
  rw [List.length_append, List.length_cons] at hl
  simp [freezeAll, runN, runIO, endN, endIO, endV, xRet, xRetN, xSeq, xSet, xIf, xDrop, xNil, xBind, xNo, xPut, xPar, putAll, putV, mAndV, mOrV, mNotB, mAndT, mOrT, mNotT, mTestB, mTruth, truth, mIf, mFn, mFnIO, mConsA, mNilA, mConsD, mNilD, mConsV, mNilV, mStarD, items, mArg, mRet, retV, argV, mVar, mFz, mCall, mUn, lookAll, lookL, scal_non, scal_bl, scal_int, scal_str, scal_tup, scal_lst, scal_own, mChain, mBin, hold, look, mutAt, Slot.mut, mTup, mLst, mMut, mMth, mSlice, mNoO, mSomeO, mIsi, setC, tyOf, LINE, dLe, dLt, dGt, dGe, dAdd, dSub, dMul, dDiv, dMod, dNeg, bName, bTup, bCons, bNil, dSl, h1, h2, hl, -List.map_take, -List.map_drop, -List.length_take, -List.length_drop, -List.map_set]
section
variable {A : Auto} {b n : Nat} {q : D} {ok : Int → Prop}
def fits (A : Auto) (b p : Nat) (r : List Nat) : List Nat := (List.range b).filter fun f => A.good (r.set p f)
theorem m_completions_ok (R : Rep b n q A ok) (hb : b ≤ 5000) (n5 : n ≤ 5000) {r : List Nat} {p : Nat} (hp : p < n) (hr : r.length = n) (hrb : ∀ f ∈ r, f < b) :
    m_completions_of [q, rowD r, .int (p : Nat)] = some ⟨.own (.lst ((fits A b p r).map figD)), .non⟩ := by
  have eb := R.base
  have b6 := b62_nat hb
  have hc : mComp (iRange1 (mConsD (mBin dIx (mVar 0) (mFz (.int 1))) mNilD)) (bName 3) x_completions_of_2 x_completions_of_1 [3] [.fz q, .fz (rowD r), .fz (.int (p : Nat)), .em] =
      some (.own (.lst ((fits A b p r).map figD)), [.fz q, .fz (rowD r), .fz (.int (p : Nat)), .em]) := by
    have h0 : iRange1 (mConsD (mBin dIx (mVar 0) (mFz (.int 1))) mNilD) [.fz q, .fz (rowD r), .fz (.int (p : Nat)), .em] = some ((List.range b).map fun (i : Nat) => D.int (i : Nat), [.fz q, .fz (rowD r), .fz (.int (p : Nat)), .em]) := by
      unfold iRange1
      simp [freezeAll, runN, runIO, endN, endIO, endV, xRet, xRetN, xSeq, xSet, xIf, xDrop, xNil, xBind, xNo, xPut, xPar, putAll, putV, mAndV, mOrV, mNotB, mAndT, mOrT, mNotT, mTestB, mTruth, truth, mIf, mFn, mFnIO, mConsA, mNilA, mConsD, mNilD, mConsV, mNilV, mStarD, items, mArg, mRet, retV, argV, mVar, mFz, mCall, mUn, lookAll, lookL, scal_non, scal_bl, scal_int, scal_str, scal_tup, scal_lst, scal_own, mChain, mBin, hold, look, mutAt, Slot.mut, mTup, mLst, mMut, mMth, mSlice, mNoO, mSomeO, mIsi, setC, tyOf, LINE, dLe, dLt, dGt, dGe, dAdd, dSub, dMul, dDiv, dMod, dNeg, bName, bTup, bCons, bNil, eb, b6, rangeD_eq]
    have := mComp_pure (pt := fun d => match d with
        | .int f => A.good (r.set p f.toNat)
        | d => false) (g := fun d => d) (t := x_completions_of_2) (f := x_completions_of_1) (i := 3) h0 (by simp) (fun d hd => ?_) (by rw [List.length_map, List.length_range]; unfold LINE; omega)
    · rw [this, List.map_id', List.filter_map]; rfl
    · obtain ⟨f, hf, rfl⟩ := List.mem_map.mp hd
      have g := m_with_figure_ok (r := r) (p := p) (f := f) (by omega) (by omega)
      have g2 := m_does_suit_ok R (l := r.set p f) (by rw [List.length_set]; omega) (fun x hx => by
        rcases List.mem_or_eq_of_mem_set hx with w | w
        · exact hrb x w
        · rw [w]; exact List.mem_range.mp hf)
      have sr : scal (.fz (rowD (r.set p f))) = false := rfl
      unfold x_completions_of_2 x_completions_of_1
      simp [freezeAll, runN, runIO, endN, endIO, endV, xRet, xRetN, xSeq, xSet, xIf, xDrop, xNil, xBind, xNo, xPut, xPar, putAll, putV, mAndV, mOrV, mNotB, mAndT, mOrT, mNotT, mTestB, mTruth, truth, mIf, mFn, mFnIO, mConsA, mNilA, mConsD, mNilD, mConsV, mNilV, mStarD, items, mArg, mRet, retV, argV, mVar, mFz, mCall, mUn, lookAll, lookL, scal_non, scal_bl, scal_int, scal_str, scal_tup, scal_lst, scal_own, mChain, mBin, hold, look, mutAt, Slot.mut, mTup, mLst, mMut, mMth, mSlice, mNoO, mSomeO, mIsi, setC, tyOf, LINE, dLe, dLt, dGt, dGe, dAdd, dSub, dMul, dDiv, dMod, dNeg, bName, bTup, bCons, bNil, g, g2, sr]
  unfold m_completions_of x_completions_of
  simp [freezeAll, runN, runIO, endN, endIO, endV, xRet, xRetN, xSeq, xSet, xIf, xDrop, xNil, xBind, xNo, xPut, xPar, putAll, putV, mAndV, mOrV, mNotB, mAndT, mOrT, mNotT, mTestB, mTruth, truth, mIf, mFn, mFnIO, mConsA, mNilA, mConsD, mNilD, mConsV, mNilV, mStarD, items, mArg, mRet, retV, argV, mVar, mFz, mCall, mUn, lookAll, lookL, scal_non, scal_bl, scal_int, scal_str, scal_tup, scal_lst, scal_own, mChain, mBin, hold, look, mutAt, Slot.mut, mTup, mLst, mMut, mMth, mSlice, mNoO, mSomeO, mIsi, setC, tyOf, LINE, dLe, dLt, dGt, dGe, dAdd, dSub, dMul, dDiv, dMod, dNeg, bName, bTup, bCons, bNil, List.replicate, hc]
theorem fits_len (A : Auto) (b p : Nat) (r : List Nat) : (fits A b p r).length = su (List.range b) fun f => if A.good (r.set p f) then 1 else 0 := by
  rw [su_countP]
  unfold fits
  rw [List.countP_eq_length_filter]
/-- the answer of is_sure_place -/
def sureB (A : Auto) (b n p : Nat) : Bool := ((rows b n).filter fun r => decide (r[p]? = some 0)).all fun r => decide ((fits A b p r).length = 1)
theorem sureB_ok {A : Auto} {b n p : Nat} (hb0 : 0 < b) (hp : p < n) (h : sureB A b n p = true) : A.sure b n p := by
  intro l r hl hr hlb hrb
  unfold sureB at h
  rw [List.all_eq_true] at h
  have hm : l ++ 0 :: r ∈ (rows b n).filter fun r => decide (r[p]? = some 0) := by
    rw [List.mem_filter]
    exact ⟨rows_mem.mpr ⟨by rw [List.length_append, List.length_cons]; omega, lt_app hlb (lt_cons hb0 hrb)⟩, decide_eq_true (get_mid hl)⟩
  have e := of_decide_eq_true (h _ hm)
  rw [fits_len] at e
  refine Eq.trans (su_congr fun f _ => ?_) e
  have : (l ++ 0 :: r).set p f = l ++ f :: r := by
    rw [List.set_append_right _ _ (by omega), hl, Nat.sub_self]; rfl
  rw [this]
theorem blsOf_map {α : Type} (l : List α) (v : α → Bool) : blsOf (l.map fun x => D.bl (v x)) = some (l.map v) := by
  induction l with
  | nil => rfl
  | cons a l ih => rw [List.map_cons, List.map_cons]; unfold blsOf; rw [ih]
theorem row_at {r : List Nat} {p f : Nat} (h : r[p]? = some f) : L2.atI (r.map figD) ((p : Nat) : Int) = some (figD f) := by
  apply atI_nat
  rw [List.getElem?_map, h]; rfl
theorem m_is_sure_place_ok (R : Rep b n q A ok) (hb : b ≤ 5000) (hb0 : 0 < b) (hn : b ^ n ≤ 5000) (n5 : n ≤ 5000) (ck : m_check_sized [q, .int (n : Nat)] = ret .non) (cf : m_check_few [q, .int (n : Nat)] = ret .non) {p : Nat} (hp : p < n) :
    m_is_sure_place [q, .int (n : Nat), .int (p : Nat)] = ret (.bl (sureB A b n p)) := by
  have eb := R.base
  have hl := m_all_labels_ok hb hb0 hn n5
  have bt : m_is_between [.int (p : Nat), .int 0, .int ((n : Int) - 1)] = ret (.bl true) := by
    rw [m_is_between_int]
    have h1 : decide ((0 : Int) ≤ (p : Nat)) = true := decide_eq_true (by omega)
    have h2 : decide (((p : Nat) : Int) ≤ (n : Int) - 1) = true := decide_eq_true (by omega)
    rw [h1, h2]; rfl
  have hlen : (rows b n).length ≤ LINE := by rw [rows_length]; unfold LINE; omega
  have hc1 : mComp (iSeq (mFn m_all_labels (mConsA (mBin dIx (mVar 0) (mFz (.int 1))) (mConsA (mVar 1) mNilA)))) (bName 4) x_is_sure_place_3 x_is_sure_place_2 [4] [.fz q, .fz (.int (n : Nat)), .fz (.int (p : Nat)), .em, .em] =
      some (.own (.lst (((rows b n).filter fun r => decide (r[p]? = some 0)).map rowD)), [.fz q, .fz (.int (n : Nat)), .fz (.int (p : Nat)), .em, .em]) := by
    have h0 : iSeq (mFn m_all_labels (mConsA (mBin dIx (mVar 0) (mFz (.int 1))) (mConsA (mVar 1) mNilA))) [.fz q, .fz (.int (n : Nat)), .fz (.int (p : Nat)), .em, .em] = some ((rows b n).map rowD, [.fz q, .fz (.int (n : Nat)), .fz (.int (p : Nat)), .em, .em]) := by
      unfold iSeq
      simp [freezeAll, runN, runIO, endN, endIO, endV, xRet, xRetN, xSeq, xSet, xIf, xDrop, xNil, xBind, xNo, xPut, xPar, putAll, putV, mAndV, mOrV, mNotB, mAndT, mOrT, mNotT, mTestB, mTruth, truth, mIf, mFn, mFnIO, mConsA, mNilA, mConsD, mNilD, mConsV, mNilV, mStarD, items, mArg, mRet, retV, argV, mVar, mFz, mCall, mUn, lookAll, lookL, scal_non, scal_bl, scal_int, scal_str, scal_tup, scal_lst, scal_own, mChain, mBin, hold, look, mutAt, Slot.mut, mTup, mLst, mMut, mMth, mSlice, mNoO, mSomeO, mIsi, setC, tyOf, LINE, dLe, dLt, dGt, dGe, dAdd, dSub, dMul, dDiv, dMod, dNeg, bName, bTup, bCons, bNil, eb, hl]
    have := mComp_pure (pt := fun d => match d with
        | .tup ds => (match ds[p]? with
          | some (.int f) => decide (f = 0)
          | _ => false)
        | _ => false) (g := fun d => d) (t := x_is_sure_place_3) (f := x_is_sure_place_2) (i := 4) h0 (by simp) (fun d hd => ?_) (by rw [List.length_map]; exact hlen)
    · rw [this, List.map_id', List.filter_map]
      congr 3
      refine congrArg D.lst (congrArg (List.map rowD) (List.filter_congr fun r hr => ?_))
      have hrl := (rows_mem.mp hr).1
      obtain ⟨f, hf⟩ := get_of (l := r) (i := p) (by omega)
      show (match (rowD r) with
        | .tup ds => (match ds[p]? with
          | some (.int f) => decide (f = 0)
          | _ => false)
        | _ => false) = _
      unfold rowD
      simp only [List.getElem?_map, hf, Option.map_some, figD]
      by_cases e : f = 0
      · subst e; rfl
      · rw [decide_eq_false (fun z => e (by omega)), decide_eq_false (fun z => e (Option.some.inj z))]
    · obtain ⟨r, hr, rfl⟩ := List.mem_map.mp hd
      have hrl := (rows_mem.mp hr).1
      obtain ⟨f, hf⟩ := get_of (l := r) (i := p) (by omega)
      have ra := row_at hf
      unfold x_is_sure_place_3 x_is_sure_place_2 rowD
      simp [freezeAll, runN, runIO, endN, endIO, endV, xRet, xRetN, xSeq, xSet, xIf, xDrop, xNil, xBind, xNo, xPut, xPar, putAll, putV, mAndV, mOrV, mNotB, mAndT, mOrT, mNotT, mTestB, mTruth, truth, mIf, mFn, mFnIO, mConsA, mNilA, mConsD, mNilD, mConsV, mNilV, mStarD, items, mArg, mRet, retV, argV, mVar, mFz, mCall, mUn, lookAll, lookL, scal_non, scal_bl, scal_int, scal_str, scal_tup, scal_lst, scal_own, mChain, mBin, hold, look, mutAt, Slot.mut, mTup, mLst, mMut, mMth, mSlice, mNoO, mSomeO, mIsi, setC, tyOf, LINE, dLe, dLt, dGt, dGe, dAdd, dSub, dMul, dDiv, dMod, dNeg, bName, bTup, bCons, bNil, dIx, ra, figD, eqD_int, hf, beq_zero, -List.map_map]
  have hc2 : mComp (iSeq (mVar 3)) (bName 4) mYes x_is_sure_place_1 [4] [.fz q, .fz (.int (n : Nat)), .fz (.int (p : Nat)), .own (.lst (((rows b n).filter fun r => decide (r[p]? = some 0)).map rowD)), .em] =
      some (.own (.lst (((rows b n).filter fun r => decide (r[p]? = some 0)).map fun r => D.bl (decide ((fits A b p r).length = 1)))), [.fz q, .fz (.int (n : Nat)), .fz (.int (p : Nat)), .fz (.lst (((rows b n).filter fun r => decide (r[p]? = some 0)).map rowD)), .em]) := by
    have h0 : iSeq (mVar 3) [.fz q, .fz (.int (n : Nat)), .fz (.int (p : Nat)), .own (.lst (((rows b n).filter fun r => decide (r[p]? = some 0)).map rowD)), .em] =
        some (((rows b n).filter fun r => decide (r[p]? = some 0)).map rowD, [.fz q, .fz (.int (n : Nat)), .fz (.int (p : Nat)), .fz (.lst (((rows b n).filter fun r => decide (r[p]? = some 0)).map rowD)), .em]) := by
      unfold iSeq
      simp [freezeAll, runN, runIO, endN, endIO, endV, xRet, xRetN, xSeq, xSet, xIf, xDrop, xNil, xBind, xNo, xPut, xPar, putAll, putV, mAndV, mOrV, mNotB, mAndT, mOrT, mNotT, mTestB, mTruth, truth, mIf, mFn, mFnIO, mConsA, mNilA, mConsD, mNilD, mConsV, mNilV, mStarD, items, mArg, mRet, retV, argV, mVar, mFz, mCall, mUn, lookAll, lookL, scal_non, scal_bl, scal_int, scal_str, scal_tup, scal_lst, scal_own, mChain, mBin, hold, look, mutAt, Slot.mut, mTup, mLst, mMut, mMth, mSlice, mNoO, mSomeO, mIsi, setC, tyOf, LINE, dLe, dLt, dGt, dGe, dAdd, dSub, dMul, dDiv, dMod, dNeg, bName, bTup, bCons, bNil]
    have hl2 : ((rows b n).filter fun r => decide (r[p]? = some 0)).length ≤ LINE := Nat.le_trans (List.length_filter_le _ _) hlen
    have := mComp_map (g := fun d => D.bl (decide ((fits A b p (rowOf d)).length = 1))) (f := x_is_sure_place_1) (i := 4) h0 (by simp) (fun d hd => ?_) (by rw [List.length_map]; exact hl2)
    · rw [this, List.map_map]
      congr 3
      refine congrArg D.lst (List.map_congr_left fun r hr => ?_)
      simp only [Function.comp, rowOf_rowD]
    · obtain ⟨r, hr, rfl⟩ := List.mem_map.mp hd
      obtain ⟨hr1, hr2⟩ := rows_mem.mp (List.mem_filter.mp hr).1
      have g := m_completions_ok R hb n5 hp hr1 hr2
      have sr : scal (.fz (rowD r)) = false := rfl
      unfold x_is_sure_place_1
      simp [freezeAll, runN, runIO, endN, endIO, endV, xRet, xRetN, xSeq, xSet, xIf, xDrop, xNil, xBind, xNo, xPut, xPar, putAll, putV, mAndV, mOrV, mNotB, mAndT, mOrT, mNotT, mTestB, mTruth, truth, mIf, mFn, mFnIO, mConsA, mNilA, mConsD, mNilD, mConsV, mNilV, mStarD, items, mArg, mRet, retV, argV, mVar, mFz, mCall, mUn, lookAll, lookL, scal_non, scal_bl, scal_int, scal_str, scal_tup, scal_lst, scal_own, mChain, mBin, hold, look, mutAt, Slot.mut, mTup, mLst, mMut, mMth, mSlice, mNoO, mSomeO, mIsi, setC, tyOf, LINE, dLe, dLt, dGt, dGe, dAdd, dSub, dMul, dDiv, dMod, dNeg, bName, bTup, bCons, bNil, g, sr, dLen, eqD_int, beq_one, rowOf_rowD]
  have bl := blsOf_map ((rows b n).filter fun r => decide (r[p]? = some 0)) fun r => decide ((fits A b p r).length = 1)
  unfold m_is_sure_place x_is_sure_place
  simp [freezeAll, runN, runIO, endN, endIO, endV, xRet, xRetN, xSeq, xSet, xIf, xDrop, xNil, xBind, xNo, xPut, xPar, putAll, putV, mAndV, mOrV, mNotB, mAndT, mOrT, mNotT, mTestB, mTruth, truth, mIf, mFn, mFnIO, mConsA, mNilA, mConsD, mNilD, mConsV, mNilV, mStarD, items, mArg, mRet, retV, argV, mVar, mFz, mCall, mUn, lookAll, lookL, scal_non, scal_bl, scal_int, scal_str, scal_tup, scal_lst, scal_own, mChain, mBin, hold, look, mutAt, Slot.mut, mTup, mLst, mMut, mMth, mSlice, mNoO, mSomeO, mIsi, setC, tyOf, LINE, dLe, dLt, dGt, dGe, dAdd, dSub, dMul, dDiv, dMod, dNeg, bName, bTup, bCons, bNil, ck, cf, bt, List.replicate, hc1, hc2, dAll, bl, sureB]
end
end Pv
end

section
set_option maxRecDepth 100000
set_option maxHeartbeats 4000000
namespace Pv
open PySem PySem.Spec L2 PyProof.Rows

/-! ### the four kinds of rules -/
def vD (b w d : Nat) : D := .tup [.str "value", .int (b : Nat), .int (w : Nat), .int (d : Nat)]
def qD (b : Nat) (sq : List (List Nat)) (s e : Nat) : D := .tup [.str "square", .int (b : Nat), .tup (sq.map rowD), .int (s : Nat), .int (e : Nat)]
def wD (b w : Nat) (ws : List Nat) (d : Nat) : D := .tup [.str "weights", .int (b : Nat), .int (w : Nat), rowD ws, .int (d : Nat)]
def tD (b w : Nat) (ts : List (List Nat)) (d : Nat) : D := .tup [.str "tables", .int (b : Nat), .int (w : Nat), .tup (ts.map rowD), .int (d : Nat)]
theorem eq_ww : dEq (.str "weights") (.str "weights") = some (.fz (.bl true)) := by kernel_rfl
theorem eq_wt : dEq (.str "weights") (.str "tables") = some (.fz (.bl false)) := by kernel_rfl
theorem eq_wq : dEq (.str "weights") (.str "square") = some (.fz (.bl false)) := by kernel_rfl
theorem eq_wv : dEq (.str "weights") (.str "value") = some (.fz (.bl false)) := by kernel_rfl
theorem eq_tw : dEq (.str "tables") (.str "weights") = some (.fz (.bl false)) := by kernel_rfl
theorem eq_tt : dEq (.str "tables") (.str "tables") = some (.fz (.bl true)) := by kernel_rfl
theorem eq_tq : dEq (.str "tables") (.str "square") = some (.fz (.bl false)) := by kernel_rfl
theorem eq_tv : dEq (.str "tables") (.str "value") = some (.fz (.bl false)) := by kernel_rfl
theorem eq_qw : dEq (.str "square") (.str "weights") = some (.fz (.bl false)) := by kernel_rfl
theorem eq_qt : dEq (.str "square") (.str "tables") = some (.fz (.bl false)) := by kernel_rfl
theorem eq_qq : dEq (.str "square") (.str "square") = some (.fz (.bl true)) := by kernel_rfl
theorem eq_qv : dEq (.str "square") (.str "value") = some (.fz (.bl false)) := by kernel_rfl
theorem eq_vw : dEq (.str "value") (.str "weights") = some (.fz (.bl false)) := by kernel_rfl
theorem eq_vt : dEq (.str "value") (.str "tables") = some (.fz (.bl false)) := by kernel_rfl
theorem eq_vq : dEq (.str "value") (.str "square") = some (.fz (.bl false)) := by kernel_rfl
theorem eq_vv : dEq (.str "value") (.str "value") = some (.fz (.bl true)) := by kernel_rfl
section
variable {b w d s e : Nat} {ws : List Nat} {sq ts : List (List Nat)}
theorem v0 : dIx (vD b w d) (.int 0) = some (.fz (.str "value")) := rfl
theorem v1 : dIx (vD b w d) (.int 1) = some (.fz (.int (b : Nat))) := rfl
theorem v2 : dIx (vD b w d) (.int 2) = some (.fz (.int (w : Nat))) := rfl
theorem v9 : dIx (vD b w d) (.int (-1)) = some (.fz (.int (d : Nat))) := rfl
theorem q0 : dIx (qD b sq s e) (.int 0) = some (.fz (.str "square")) := rfl
theorem q1 : dIx (qD b sq s e) (.int 1) = some (.fz (.int (b : Nat))) := rfl
theorem q2 : dIx (qD b sq s e) (.int 2) = some (.fz (.tup (sq.map rowD))) := rfl
theorem q3 : dIx (qD b sq s e) (.int 3) = some (.fz (.int (s : Nat))) := rfl
theorem q9 : dIx (qD b sq s e) (.int (-1)) = some (.fz (.int (e : Nat))) := rfl
theorem w0 : dIx (wD b w ws d) (.int 0) = some (.fz (.str "weights")) := rfl
theorem w1 : dIx (wD b w ws d) (.int 1) = some (.fz (.int (b : Nat))) := rfl
theorem w2 : dIx (wD b w ws d) (.int 2) = some (.fz (.int (w : Nat))) := rfl
theorem w3 : dIx (wD b w ws d) (.int 3) = some (.fz (rowD ws)) := rfl
theorem w9 : dIx (wD b w ws d) (.int (-1)) = some (.fz (.int (d : Nat))) := rfl
theorem t0 : dIx (tD b w ts d) (.int 0) = some (.fz (.str "tables")) := rfl
theorem t1 : dIx (tD b w ts d) (.int 1) = some (.fz (.int (b : Nat))) := rfl
theorem t2 : dIx (tD b w ts d) (.int 2) = some (.fz (.int (w : Nat))) := rfl
theorem t3 : dIx (tD b w ts d) (.int 3) = some (.fz (.tup (ts.map rowD))) := rfl
theorem t9 : dIx (tD b w ts d) (.int (-1)) = some (.fz (.int (d : Nat))) := rfl
end
theorem dIx_row {r : List Nat} {p f : Nat} (h : r[p]? = some f) : dIx (rowD r) (.int (p : Nat)) = some (.fz (.int (f : Nat))) := by
  show (L2.atI (r.map figD) ((p : Nat) : Int)).map Val.fz = _
  rw [row_at h]; rfl
theorem dIx_rows {rs : List (List Nat)} {p : Nat} {r : List Nat} (h : rs[p]? = some r) : dIx (.tup (rs.map rowD)) (.int (p : Nat)) = some (.fz (rowD r)) := by
  show (L2.atI (rs.map rowD) ((p : Nat) : Int)).map Val.fz = _
  rw [atI_nat (v := rowD r) (by rw [List.getElem?_map, h]; rfl)]; rfl
theorem mulOk_r (i : Int) (j : Nat) (h : j ≤ 5000) : mulOk i (j : Nat) = true := by
  unfold mulOk
  rw [Bool.or_eq_true, Bool.or_eq_true]
  exact .inl (.inr (decide_eq_true (by omega)))
def vA (b w d : Nat) : Auto := ⟨fun _ h f => (h * b + f) % w, 0, d⟩
def wA (w : Nat) (ws : List Nat) (d : Nat) : Auto := ⟨fun p h f => (h + (ws[p]?.getD 0 : Nat) * f) % w, 0, d⟩
def tA (w : Nat) (ts : List (List Nat)) (d : Nat) : Auto := ⟨fun p h f => (h + ((ts[p]?.getD [])[f]?.getD 0 : Nat)) % w, 0, d⟩
def qA (sq : List (List Nat)) (s e : Nat) : Auto := ⟨fun _ h f => ((sq[h.toNat]?.getD [])[f]?.getD 0 : Nat), s, e⟩
theorem goes_v {b w d p f : Nat} {h : Int} (hb : b ≤ 5000) (hw : 0 < w) : m_goes_on [vD b w d, .int (p : Nat), .int h, .int (f : Nat)] = ret (.int ((h * b + f) % w)) := by
  have mo := mulOk_r h b hb
  have hw' : (0 : Int) < (w : Nat) := by omega
  have hw2 : ((w : Nat) : Int) ≠ 0 := by omega
  unfold m_goes_on x_goes_on
  simp [freezeAll, runN, runIO, endN, endIO, endV, xRet, xRetN, xSeq, xSet, xIf, xDrop, xNil, xBind, xNo, xPut, xPar, putAll, putV, mAndV, mOrV, mNotB, mAndT, mOrT, mNotT, mTestB, mTruth, truth, mIf, mFn, mFnIO, mConsA, mNilA, mConsD, mNilD, mConsV, mNilV, mStarD, items, mArg, mRet, retV, argV, mVar, mFz, mCall, mUn, lookAll, lookL, scal_non, scal_bl, scal_int, scal_str, scal_tup, scal_lst, scal_own, mChain, mBin, hold, look, mutAt, Slot.mut, mTup, mLst, mMut, mMth, mSlice, mNoO, mSomeO, mIsi, setC, tyOf, LINE, dLe, dLt, dGt, dGe, dAdd, dSub, dMul, dDiv, dMod, dNeg, bName, bTup, bCons, bNil, v0, v1, v2, eq_vw, eq_vt, eq_vq, mo, hw, hw']
theorem goes_w {b w d p f : Nat} {ws : List Nat} {h : Int} (hb : b ≤ 5000) (hf : f < b) (hw : 0 < w) (hp : p < ws.length) : m_goes_on [wD b w ws d, .int (p : Nat), .int h, .int (f : Nat)] = ret (.int ((h + (ws[p]?.getD 0 : Nat) * f) % w)) := by
  obtain ⟨x, hx⟩ := get_of hp
  have ix := dIx_row hx
  have mo := mulOk_r (x : Nat) f (by omega)
  rw [hx]
  unfold m_goes_on x_goes_on
  simp [freezeAll, runN, runIO, endN, endIO, endV, xRet, xRetN, xSeq, xSet, xIf, xDrop, xNil, xBind, xNo, xPut, xPar, putAll, putV, mAndV, mOrV, mNotB, mAndT, mOrT, mNotT, mTestB, mTruth, truth, mIf, mFn, mFnIO, mConsA, mNilA, mConsD, mNilD, mConsV, mNilV, mStarD, items, mArg, mRet, retV, argV, mVar, mFz, mCall, mUn, lookAll, lookL, scal_non, scal_bl, scal_int, scal_str, scal_tup, scal_lst, scal_own, mChain, mBin, hold, look, mutAt, Slot.mut, mTup, mLst, mMut, mMth, mSlice, mNoO, mSomeO, mIsi, setC, tyOf, LINE, dLe, dLt, dGt, dGe, dAdd, dSub, dMul, dDiv, dMod, dNeg, bName, bTup, bCons, bNil, w0, w1, w2, w3, eq_ww, ix, mo, hw]
theorem goes_t {b w d p f : Nat} {ts : List (List Nat)} {h : Int} (hw : 0 < w) {r : List Nat} {x : Nat} (hr : ts[p]? = some r) (hx : r[f]? = some x) : m_goes_on [tD b w ts d, .int (p : Nat), .int h, .int (f : Nat)] = ret (.int ((h + ((ts[p]?.getD [])[f]?.getD 0 : Nat)) % w)) := by
  have ix := dIx_rows hr
  have iy := dIx_row hx
  rw [hr]
  simp only [Option.getD_some]
  rw [hx]
  unfold m_goes_on x_goes_on
  simp [freezeAll, runN, runIO, endN, endIO, endV, xRet, xRetN, xSeq, xSet, xIf, xDrop, xNil, xBind, xNo, xPut, xPar, putAll, putV, mAndV, mOrV, mNotB, mAndT, mOrT, mNotT, mTestB, mTruth, truth, mIf, mFn, mFnIO, mConsA, mNilA, mConsD, mNilD, mConsV, mNilV, mStarD, items, mArg, mRet, retV, argV, mVar, mFz, mCall, mUn, lookAll, lookL, scal_non, scal_bl, scal_int, scal_str, scal_tup, scal_lst, scal_own, mChain, mBin, hold, look, mutAt, Slot.mut, mTup, mLst, mMut, mMth, mSlice, mNoO, mSomeO, mIsi, setC, tyOf, LINE, dLe, dLt, dGt, dGe, dAdd, dSub, dMul, dDiv, dMod, dNeg, bName, bTup, bCons, bNil, t0, t1, t2, t3, eq_tw, eq_tt, ix, iy, hw]
theorem goes_q {b s e p f k : Nat} {sq : List (List Nat)} {r : List Nat} {x : Nat} (hr : sq[k]? = some r) (hx : r[f]? = some x) : m_goes_on [qD b sq s e, .int (p : Nat), .int (k : Nat), .int (f : Nat)] = ret (.int (x : Nat)) := by
  have ix := dIx_rows hr
  have iy := dIx_row hx
  unfold m_goes_on x_goes_on
  simp [freezeAll, runN, runIO, endN, endIO, endV, xRet, xRetN, xSeq, xSet, xIf, xDrop, xNil, xBind, xNo, xPut, xPar, putAll, putV, mAndV, mOrV, mNotB, mAndT, mOrT, mNotT, mTestB, mTruth, truth, mIf, mFn, mFnIO, mConsA, mNilA, mConsD, mNilD, mConsV, mNilV, mStarD, items, mArg, mRet, retV, argV, mVar, mFz, mCall, mUn, lookAll, lookL, scal_non, scal_bl, scal_int, scal_str, scal_tup, scal_lst, scal_own, mChain, mBin, hold, look, mutAt, Slot.mut, mTup, mLst, mMut, mMth, mSlice, mNoO, mSomeO, mIsi, setC, tyOf, LINE, dLe, dLt, dGt, dGe, dAdd, dSub, dMul, dDiv, dMod, dNeg, bName, bTup, bCons, bNil, q0, q1, q2, q3, eq_qw, eq_qt, eq_qq, ix, iy]
/-- rows of figures below w -/
def Below (w : Nat) (l : List Nat) : Prop := ∀ x ∈ l, x < w
def Rect (k m w : Nat) (rs : List (List Nat)) : Prop := rs.length = k ∧ ∀ r ∈ rs, r.length = m ∧ Below w r
theorem Rect.get {k m w : Nat} {rs : List (List Nat)} (h : Rect k m w rs) {i : Nat} (hi : i < k) : ∃ r, rs[i]? = some r ∧ r.length = m ∧ Below w r := by
  obtain ⟨r, hr⟩ := get_of (l := rs) (i := i) (by rw [h.1]; exact hi)
  exact ⟨r, hr, h.2 r (List.mem_of_getElem? hr)⟩
theorem rep_v {b n w d : Nat} (hb : b ≤ 5000) (hw : 0 < w) : Rep b n (vD b w d) (vA b w d) (fun _ => True) where
  base := v1
  due := v9
  beg := by
    unfold m_begins x_begins
    simp [freezeAll, runN, runIO, endN, endIO, endV, xRet, xRetN, xSeq, xSet, xIf, xDrop, xNil, xBind, xNo, xPut, xPar, putAll, putV, mAndV, mOrV, mNotB, mAndT, mOrT, mNotT, mTestB, mTruth, truth, mIf, mFn, mFnIO, mConsA, mNilA, mConsD, mNilD, mConsV, mNilV, mStarD, items, mArg, mRet, retV, argV, mVar, mFz, mCall, mUn, lookAll, lookL, scal_non, scal_bl, scal_int, scal_str, scal_tup, scal_lst, scal_own, mChain, mBin, hold, look, mutAt, Slot.mut, mTup, mLst, mMut, mMth, mSlice, mNoO, mSomeO, mIsi, setC, tyOf, LINE, dLe, dLt, dGt, dGe, dAdd, dSub, dMul, dDiv, dMod, dNeg, bName, bTup, bCons, bNil, v0, eq_vq]
    rfl
  ok0 := trivial
  goes := fun p h f _ _ _ => ⟨goes_v hb hw, trivial⟩
theorem rep_w {b n w d : Nat} {ws : List Nat} (hb : b ≤ 5000) (hw : 0 < w) (hl : ws.length = n) : Rep b n (wD b w ws d) (wA w ws d) (fun _ => True) where
  base := w1
  due := w9
  beg := by
    unfold m_begins x_begins
    simp [freezeAll, runN, runIO, endN, endIO, endV, xRet, xRetN, xSeq, xSet, xIf, xDrop, xNil, xBind, xNo, xPut, xPar, putAll, putV, mAndV, mOrV, mNotB, mAndT, mOrT, mNotT, mTestB, mTruth, truth, mIf, mFn, mFnIO, mConsA, mNilA, mConsD, mNilD, mConsV, mNilV, mStarD, items, mArg, mRet, retV, argV, mVar, mFz, mCall, mUn, lookAll, lookL, scal_non, scal_bl, scal_int, scal_str, scal_tup, scal_lst, scal_own, mChain, mBin, hold, look, mutAt, Slot.mut, mTup, mLst, mMut, mMth, mSlice, mNoO, mSomeO, mIsi, setC, tyOf, LINE, dLe, dLt, dGt, dGe, dAdd, dSub, dMul, dDiv, dMod, dNeg, bName, bTup, bCons, bNil, w0, eq_wq]
    rfl
  ok0 := trivial
  goes := fun p h f hp _ hf => ⟨goes_w hb hf hw (by omega), trivial⟩
theorem rep_t {b n w d : Nat} {ts : List (List Nat)} (hw : 0 < w) (hr : Rect n b w ts) : Rep b n (tD b w ts d) (tA w ts d) (fun _ => True) where
  base := t1
  due := t9
  beg := by
    unfold m_begins x_begins
    simp [freezeAll, runN, runIO, endN, endIO, endV, xRet, xRetN, xSeq, xSet, xIf, xDrop, xNil, xBind, xNo, xPut, xPar, putAll, putV, mAndV, mOrV, mNotB, mAndT, mOrT, mNotT, mTestB, mTruth, truth, mIf, mFn, mFnIO, mConsA, mNilA, mConsD, mNilD, mConsV, mNilV, mStarD, items, mArg, mRet, retV, argV, mVar, mFz, mCall, mUn, lookAll, lookL, scal_non, scal_bl, scal_int, scal_str, scal_tup, scal_lst, scal_own, mChain, mBin, hold, look, mutAt, Slot.mut, mTup, mLst, mMut, mMth, mSlice, mNoO, mSomeO, mIsi, setC, tyOf, LINE, dLe, dLt, dGt, dGe, dAdd, dSub, dMul, dDiv, dMod, dNeg, bName, bTup, bCons, bNil, t0, eq_tq]
    rfl
  ok0 := trivial
  goes := fun p h f hp _ hf => by
    obtain ⟨r, h1, h2, _⟩ := hr.get hp
    obtain ⟨x, hx⟩ := get_of (l := r) (i := f) (by omega)
    exact ⟨goes_t hw h1 hx, trivial⟩
theorem rep_q {b n s e : Nat} {sq : List (List Nat)} (hs : s < b) (hr : Rect b b b sq) : Rep b n (qD b sq s e) (qA sq s e) (fun h => 0 ≤ h ∧ h < b) where
  base := q1
  due := q9
  beg := by
    unfold m_begins x_begins
    simp [freezeAll, runN, runIO, endN, endIO, endV, xRet, xRetN, xSeq, xSet, xIf, xDrop, xNil, xBind, xNo, xPut, xPar, putAll, putV, mAndV, mOrV, mNotB, mAndT, mOrT, mNotT, mTestB, mTruth, truth, mIf, mFn, mFnIO, mConsA, mNilA, mConsD, mNilD, mConsV, mNilV, mStarD, items, mArg, mRet, retV, argV, mVar, mFz, mCall, mUn, lookAll, lookL, scal_non, scal_bl, scal_int, scal_str, scal_tup, scal_lst, scal_own, mChain, mBin, hold, look, mutAt, Slot.mut, mTup, mLst, mMut, mMth, mSlice, mNoO, mSomeO, mIsi, setC, tyOf, LINE, dLe, dLt, dGt, dGe, dAdd, dSub, dMul, dDiv, dMod, dNeg, bName, bTup, bCons, bNil, q0, q3, eq_qq]
    rfl
  ok0 := by
    show (0 : Int) ≤ (s : Nat) ∧ ((s : Nat) : Int) < b
    omega
  goes := fun p h f hp hh hf => by
    obtain ⟨k, rfl⟩ : ∃ k : Nat, h = (k : Nat) := ⟨h.toNat, by omega⟩
    obtain ⟨r, h1, h2, h3⟩ := hr.get (i := k) (by omega)
    obtain ⟨x, hx⟩ := get_of (l := r) (i := f) (by omega)
    have g := goes_q (b := b) (s := s) (e := e) (p := p) h1 hx
    have es : (qA sq s e).step p ((k : Nat) : Int) f = (x : Nat) := by
      show ((((sq[((k : Nat) : Int).toNat]?).getD [])[f]?.getD 0 : Nat) : Int) = _
      rw [Int.toNat_natCast, h1]
      simp only [Option.getD_some]
      rw [hx]; rfl
    rw [es]
    refine ⟨g, ?_⟩
    have := h3 x (List.mem_of_getElem? hx)
    omega
end Pv
end

section
set_option maxRecDepth 100000
set_option maxHeartbeats 4000000
namespace Pv
open PySem PySem.Spec L2 PyProof.Rows

/-! ### what is a rule -/
theorem betw_nat {v : Nat} {lo hi : Int} (h1 : lo ≤ (v : Nat)) (h2 : ((v : Nat) : Int) ≤ hi) : m_is_between [.int (v : Nat), .int lo, .int hi] = ret (.bl true) := by
  rw [m_is_between_int, decide_eq_true h1, decide_eq_true h2]; rfl
theorem betw_two {v : Nat} {w : Nat} (h : v < w) : m_is_between [.int (v : Nat), .int 0, .int ((w : Int) - 1)] = ret (.bl true) := betw_nat (by omega) (by omega)
theorem allD_true {α : Type} (l : List α) : blsOf (l.map fun _ => D.bl true) = some (l.map fun _ => true) := blsOf_map l fun _ => true
theorem all_true {α : Type} (l : List α) : (l.map fun _ => true).all id = true := by
  rw [List.all_eq_true]
  intro x hx
  obtain ⟨_, _, rfl⟩ := List.mem_map.mp hx
  rfl
theorem isD_tup (ds : List D) : isD "tuple" (.tup ds) = some true := by
  show kitB "tuple" "tuple" = _
  decide +kernel
theorem isD_str (x : PySem.Str) : isD "str" (.str x) = some true := by
  show kitB "str" "str" = _
  decide +kernel
theorem isD_row (r : List Nat) : isD "tuple" (rowD r) = some true := isD_tup _
theorem m_are_between_ok {r : List Nat} {w : Nat} (h : Below w r) (hl : r.length ≤ 5000) : m_are_between [rowD r, .int 0, .int ((w : Int) - 1)] = ret (.bl true) := by
  have hc : mComp (iSeq (mVar 0)) (bName 3) mYes x_are_between_1 [3] [.fz (rowD r), .fz (.int 0), .fz (.int ((w : Int) - 1)), .em] = some (.own (.lst (r.map fun _ => D.bl true)), [.fz (rowD r), .fz (.int 0), .fz (.int ((w : Int) - 1)), .em]) := by
    have h0 : iSeq (mVar 0) [.fz (rowD r), .fz (.int 0), .fz (.int ((w : Int) - 1)), .em] = some (r.map figD, [.fz (rowD r), .fz (.int 0), .fz (.int ((w : Int) - 1)), .em]) := by
      unfold iSeq rowD
      simp [freezeAll, runN, runIO, endN, endIO, endV, xRet, xRetN, xSeq, xSet, xIf, xDrop, xNil, xBind, xNo, xPut, xPar, putAll, putV, mAndV, mOrV, mNotB, mAndT, mOrT, mNotT, mTestB, mTruth, truth, mIf, mFn, mFnIO, mConsA, mNilA, mConsD, mNilD, mConsV, mNilV, mStarD, items, mArg, mRet, retV, argV, mVar, mFz, mCall, mUn, lookAll, lookL, scal_non, scal_bl, scal_int, scal_str, scal_tup, scal_lst, scal_own, mChain, mBin, hold, look, mutAt, Slot.mut, mTup, mLst, mMut, mMth, mSlice, mNoO, mSomeO, mIsi, setC, tyOf, LINE, dLe, dLt, dGt, dGe, dAdd, dSub, dMul, dDiv, dMod, dNeg, bName, bTup, bCons, bNil]
    have := mComp_map (g := fun _ => D.bl true) (f := x_are_between_1) (i := 3) h0 (by simp) (fun d hd => ?_) (by rw [List.length_map]; unfold LINE; omega)
    · rw [this, List.map_map]; rfl
    · obtain ⟨x, hx, rfl⟩ := List.mem_map.mp hd
      have g := betw_two (h x hx)
      unfold x_are_between_1 figD
      simp [freezeAll, runN, runIO, endN, endIO, endV, xRet, xRetN, xSeq, xSet, xIf, xDrop, xNil, xBind, xNo, xPut, xPar, putAll, putV, mAndV, mOrV, mNotB, mAndT, mOrT, mNotT, mTestB, mTruth, truth, mIf, mFn, mFnIO, mConsA, mNilA, mConsD, mNilD, mConsV, mNilV, mStarD, items, mArg, mRet, retV, argV, mVar, mFz, mCall, mUn, lookAll, lookL, scal_non, scal_bl, scal_int, scal_str, scal_tup, scal_lst, scal_own, mChain, mBin, hold, look, mutAt, Slot.mut, mTup, mLst, mMut, mMth, mSlice, mNoO, mSomeO, mIsi, setC, tyOf, LINE, dLe, dLt, dGt, dGe, dAdd, dSub, dMul, dDiv, dMod, dNeg, bName, bTup, bCons, bNil, g]
  have ad := allD_true r
  have at_ := all_true r
  have ir := isD_row r
  unfold m_are_between x_are_between
  simp [freezeAll, runN, runIO, endN, endIO, endV, xRet, xRetN, xSeq, xSet, xIf, xDrop, xNil, xBind, xNo, xPut, xPar, putAll, putV, mAndV, mOrV, mNotB, mAndT, mOrT, mNotT, mTestB, mTruth, truth, mIf, mFn, mFnIO, mConsA, mNilA, mConsD, mNilD, mConsV, mNilV, mStarD, items, mArg, mRet, retV, argV, mVar, mFz, mCall, mUn, lookAll, lookL, scal_non, scal_bl, scal_int, scal_str, scal_tup, scal_lst, scal_own, mChain, mBin, hold, look, mutAt, Slot.mut, mTup, mLst, mMut, mMth, mSlice, mNoO, mSomeO, mIsi, setC, tyOf, LINE, dLe, dLt, dGt, dGe, dAdd, dSub, dMul, dDiv, dMod, dNeg, bName, bTup, bCons, bNil, ir, hc, dAll, ad, at_, List.replicate]
theorem eqNat (a b : Nat) : dEq (.int (a : Nat)) (.int (b : Nat)) = some (.fz (.bl (decide (a = b)))) := by
  rw [eqD_int]
  have : (((a : Nat) : Int) == (b : Nat)) = decide (a = b) := by
    rw [Bool.eq_iff_iff, beq_iff_eq, decide_eq_true_eq]; omega
  rw [this]
theorem neInt (i j : Int) : dNe (.int i) (.int j) = some (.fz (.bl (!(i == j)))) := rfl
theorem lenRow (r : List Nat) : dLen [rowD r] = some (.fz (.int (r.length : Nat))) := by
  show some (Val.fz (D.int ((r.map figD).length : Nat))) = _
  rw [List.length_map]
theorem m_are_rows_ok {rs : List (List Nat)} {k m w : Nat} (h : Rect k m w rs) (hk : k ≤ 5000) (hm : m ≤ 5000) : m_are_rows [.tup (rs.map rowD), .int (m : Nat), .int 0, .int ((w : Int) - 1)] = ret (.bl true) := by
  have hc : mComp (iSeq (mVar 0)) (bName 4) mYes x_are_rows_1 [4] [.fz (.tup (rs.map rowD)), .fz (.int (m : Nat)), .fz (.int 0), .fz (.int ((w : Int) - 1)), .em] = some (.own (.lst (rs.map fun _ => D.bl true)), [.fz (.tup (rs.map rowD)), .fz (.int (m : Nat)), .fz (.int 0), .fz (.int ((w : Int) - 1)), .em]) := by
    have h0 : iSeq (mVar 0) [.fz (.tup (rs.map rowD)), .fz (.int (m : Nat)), .fz (.int 0), .fz (.int ((w : Int) - 1)), .em] = some (rs.map rowD, [.fz (.tup (rs.map rowD)), .fz (.int (m : Nat)), .fz (.int 0), .fz (.int ((w : Int) - 1)), .em]) := by
      unfold iSeq
      simp [freezeAll, runN, runIO, endN, endIO, endV, xRet, xRetN, xSeq, xSet, xIf, xDrop, xNil, xBind, xNo, xPut, xPar, putAll, putV, mAndV, mOrV, mNotB, mAndT, mOrT, mNotT, mTestB, mTruth, truth, mIf, mFn, mFnIO, mConsA, mNilA, mConsD, mNilD, mConsV, mNilV, mStarD, items, mArg, mRet, retV, argV, mVar, mFz, mCall, mUn, lookAll, lookL, scal_non, scal_bl, scal_int, scal_str, scal_tup, scal_lst, scal_own, mChain, mBin, hold, look, mutAt, Slot.mut, mTup, mLst, mMut, mMth, mSlice, mNoO, mSomeO, mIsi, setC, tyOf, LINE, dLe, dLt, dGt, dGe, dAdd, dSub, dMul, dDiv, dMod, dNeg, bName, bTup, bCons, bNil]
    have := mComp_map (g := fun _ => D.bl true) (f := x_are_rows_1) (i := 4) h0 (by simp) (fun d hd => ?_) (by rw [List.length_map, h.1]; unfold LINE; omega)
    · rw [this, List.map_map]; rfl
    · obtain ⟨r, hr, rfl⟩ := List.mem_map.mp hd
      obtain ⟨r1, r2⟩ := h.2 r hr
      have g := m_are_between_ok r2 (by omega)
      have ln := lenRow r
      have en := eqNat r.length m
      rw [r1] at en ln
      unfold x_are_rows_1
      simp [freezeAll, runN, runIO, endN, endIO, endV, xRet, xRetN, xSeq, xSet, xIf, xDrop, xNil, xBind, xNo, xPut, xPar, putAll, putV, mAndV, mOrV, mNotB, mAndT, mOrT, mNotT, mTestB, mTruth, truth, mIf, mFn, mFnIO, mConsA, mNilA, mConsD, mNilD, mConsV, mNilV, mStarD, items, mArg, mRet, retV, argV, mVar, mFz, mCall, mUn, lookAll, lookL, scal_non, scal_bl, scal_int, scal_str, scal_tup, scal_lst, scal_own, mChain, mBin, hold, look, mutAt, Slot.mut, mTup, mLst, mMut, mMth, mSlice, mNoO, mSomeO, mIsi, setC, tyOf, LINE, dLe, dLt, dGt, dGe, dAdd, dSub, dMul, dDiv, dMod, dNeg, bName, bTup, bCons, bNil, g, ln, en]
  have ad := allD_true rs
  have at_ := all_true rs
  have it := isD_tup (rs.map rowD)
  unfold m_are_rows x_are_rows
  simp [freezeAll, runN, runIO, endN, endIO, endV, xRet, xRetN, xSeq, xSet, xIf, xDrop, xNil, xBind, xNo, xPut, xPar, putAll, putV, mAndV, mOrV, mNotB, mAndT, mOrT, mNotT, mTestB, mTruth, truth, mIf, mFn, mFnIO, mConsA, mNilA, mConsD, mNilD, mConsV, mNilV, mStarD, items, mArg, mRet, retV, argV, mVar, mFz, mCall, mUn, lookAll, lookL, scal_non, scal_bl, scal_int, scal_str, scal_tup, scal_lst, scal_own, mChain, mBin, hold, look, mutAt, Slot.mut, mTup, mLst, mMut, mMth, mSlice, mNoO, mSomeO, mIsi, setC, tyOf, LINE, dLe, dLt, dGt, dGe, dAdd, dSub, dMul, dDiv, dMod, dNeg, bName, bTup, bCons, bNil, it, hc, dAll, ad, at_, List.replicate]
theorem lenTup (ds : List D) : dLen [.tup ds] = some (.fz (.int (ds.length : Nat))) := rfl
theorem m_is_square_rule_ok {b s e : Nat} {sq : List (List Nat)} (hb : b ≤ 5000) (hs : s < b) (he : e < b) (h : Rect b b b sq) : m_is_square_rule [.int (b : Nat), .tup [.tup (sq.map rowD), .int (s : Nat), .int (e : Nat)]] = ret (.bl true) := by
  have h1 := m_are_rows_ok h hb hb
  have h2 := betw_two hs
  have h3 := betw_two he
  have ln : dLen [.tup (sq.map rowD)] = some (.fz (.int (b : Nat))) := by rw [lenTup, List.length_map, h.1]
  have en : dNe (.int (b : Nat)) (.int (b : Nat)) = some (.fz (.bl false)) := by rw [neInt]; simp
  unfold m_is_square_rule x_is_square_rule
  simp [freezeAll, runN, runIO, endN, endIO, endV, xRet, xRetN, xSeq, xSet, xIf, xDrop, xNil, xBind, xNo, xPut, xPar, putAll, putV, mAndV, mOrV, mNotB, mAndT, mOrT, mNotT, mTestB, mTruth, truth, mIf, mFn, mFnIO, mConsA, mNilA, mConsD, mNilD, mConsV, mNilV, mStarD, items, mArg, mRet, retV, argV, mVar, mFz, mCall, mUn, lookAll, lookL, scal_non, scal_bl, scal_int, scal_str, scal_tup, scal_lst, scal_own, mChain, mBin, hold, look, mutAt, Slot.mut, mTup, mLst, mMut, mMth, mSlice, mNoO, mSomeO, mIsi, setC, tyOf, LINE, dLe, dLt, dGt, dGe, dAdd, dSub, dMul, dDiv, dMod, dNeg, bName, bTup, bCons, bNil, h1, h2, h3, ln, en, List.replicate]
section
variable {b n w d s e : Nat} {ws : List Nat} {sq ts : List (List Nat)}
theorem tab_v : tb_PARTS.find? (fun q => decide (q.1 = ("value" : PySem.Str))) = some (("value" : PySem.Str), D.int 4) := by kernel_rfl
theorem tab_q : tb_PARTS.find? (fun q => decide (q.1 = ("square" : PySem.Str))) = some (("square" : PySem.Str), D.int 5) := by kernel_rfl
theorem tab_w : tb_PARTS.find? (fun q => decide (q.1 = ("weights" : PySem.Str))) = some (("weights" : PySem.Str), D.int 5) := by kernel_rfl
theorem tab_t : tb_PARTS.find? (fun q => decide (q.1 = ("tables" : PySem.Str))) = some (("tables" : PySem.Str), D.int 5) := by kernel_rfl
theorem toPyAll_map {α : Type} (l : List α) (g : α → D) (p : α → PyData) (h : ∀ x ∈ l, toPy (g x) = some (p x)) : toPyAll (l.map g) = some (l.map p) := by
  induction l with
  | nil => rfl
  | cons a l ih =>
    rw [List.map_cons, List.map_cons]
    unfold toPyAll
    rw [h a List.mem_cons_self, ih fun x hx => h x (List.mem_cons_of_mem _ hx)]
def pyRow (r : List Nat) : PyData := .tuple (r.map fun f => .int (f : Nat))
theorem toPy_row (r : List Nat) : toPy (rowD r) = some (pyRow r) := by
  show (match toPyAll (r.map figD) with
    | some ps => some (PyData.tuple ps)
    | none => none) = _
  rw [toPyAll_map r figD (fun f => .int (f : Nat)) fun _ _ => rfl]; rfl
theorem toPy_tupOf {ds : List D} {ps : List PyData} (h : toPyAll ds = some ps) : toPy (.tup ds) = some (.tuple ps) := by
  unfold toPy
  rw [h]
theorem lay_map {α : Type} (l : List α) (p : α → PyData) (h : ∀ x ∈ l, (p x).canLay0 = true) : PyData.canLayAll0 (l.map p) = true := by
  induction l with
  | nil => rfl
  | cons a l ih =>
    rw [List.map_cons]
    unfold PyData.canLayAll0
    rw [h a List.mem_cons_self, ih fun x hx => h x (List.mem_cons_of_mem _ hx)]; rfl
theorem depth_map {α : Type} (l : List α) (p : α → PyData) {k : Nat} (h : ∀ x ∈ l, (p x).depth ≤ k) : PyData.depthAll (l.map p) ≤ k := by
  induction l with
  | nil => exact Nat.zero_le _
  | cons a l ih =>
    rw [List.map_cons]
    unfold PyData.depthAll
    exact Nat.max_le.mpr ⟨h a List.mem_cons_self, ih fun x hx => h x (List.mem_cons_of_mem _ hx)⟩
theorem lay_row (r : List Nat) : (pyRow r).canLay0 = true := lay_map r _ fun _ _ => rfl
theorem depth_row (r : List Nat) : (pyRow r).depth ≤ 1 := by
  show PyData.depthAll _ + 1 ≤ 1
  have := depth_map r (fun f => PyData.int (f : Nat)) (k := 0) fun _ _ => Nat.le_refl 0
  omega
/-- a rule is no empty tuple -/
theorem ne_empty {d : D} {ds : List D} {p : PyData} {ps : List PyData} (h : toPyAll (d :: ds) = some (p :: ps)) (hl : PyData.canLayAll0 (p :: ps) = true) (hd : PyData.depthAll (p :: ps) ≤ 60) : dEq (.tup (d :: ds)) (.tup []) = some (.fz (.bl false)) := by
  have e1 := toPy_tupOf h
  have e2 : toPy (.tup []) = some (.tuple []) := rfl
  have s1 : SeqAt.shaped (.tuple (p :: ps)) = true := by
    unfold SeqAt.shaped
    rw [Bool.and_eq_true]
    refine ⟨hl, decide_eq_true ?_⟩
    show PyData.depthAll (p :: ps) + 1 ≤ 64
    omega
  have s2 : SeqAt.shaped (.tuple []) = true := rfl
  show (match eqD (.tup (d :: ds)) (.tup []) with
    | some r => some (Val.fz (.bl r))
    | none => none) = _
  unfold eqD
  rw [e1, e2]
  simp only [s1, s2, Bool.and_self, if_true]
  rfl
theorem so_v : PyData.strOk ("value" : PySem.Str) = true := by decide +kernel
theorem so_q : PyData.strOk ("square" : PySem.Str) = true := by decide +kernel
theorem so_w : PyData.strOk ("weights" : PySem.Str) = true := by decide +kernel
theorem so_t : PyData.strOk ("tables" : PySem.Str) = true := by decide +kernel
theorem m_is_rule_v (hb : 2 ≤ b) (hb2 : b ≤ 16) (hw : 2 ≤ w) (hw2 : w ≤ 97) (hd : d < w) : m_is_rule [vD b w d] = ret (.bl true) := by
  have ne : dEq (vD b w d) (.tup []) = some (.fz (.bl false)) := ne_empty (p := .str "value") (ps := [.int (b : Nat), .int (w : Nat), .int (d : Nat)]) rfl (by
    simp only [PyData.canLayAll0, PyData.canLay0, so_v]; rfl) (by
    simp only [PyData.depthAll, PyData.depth]; omega)
  have it : isD "tuple" (vD b w d) = some true := isD_tup _
  have is_ := isD_str "value"
  have ln : dLen [vD b w d] = some (.fz (.int 4)) := rfl
  have nn : dNe (.int 4) (.int 4) = some (.fz (.bl false)) := rfl
  have b1 := betw_nat (v := b) (lo := 2) (hi := 16) (by omega) (by omega)
  have b2 := betw_nat (v := w) (lo := 2) (hi := 97) (by omega) (by omega)
  have b3 := betw_two hd
  have sc : scal (.fz (vD b w d)) = false := rfl
  have fr : vD b w d = .tup [.str "value", .int (b : Nat), .int (w : Nat), .int (d : Nat)] := rfl
  unfold m_is_rule x_is_rule mTab
  simp [freezeAll, runN, runIO, endN, endIO, endV, xRet, xRetN, xSeq, xSet, xIf, xDrop, xNil, xBind, xNo, xPut, xPar, putAll, putV, mAndV, mOrV, mNotB, mAndT, mOrT, mNotT, mTestB, mTruth, truth, mIf, mFn, mFnIO, mConsA, mNilA, mConsD, mNilD, mConsV, mNilV, mStarD, items, mArg, mRet, retV, argV, mVar, mFz, mCall, mUn, lookAll, lookL, scal_non, scal_bl, scal_int, scal_str, scal_tup, scal_lst, scal_own, mChain, mBin, hold, look, mutAt, Slot.mut, mTup, mLst, mMut, mMth, mSlice, mNoO, mSomeO, mIsi, setC, tyOf, LINE, dLe, dLt, dGt, dGe, dAdd, dSub, dMul, dDiv, dMod, dNeg, bName, bTup, bCons, bNil, it, ne, is_, v0, v1, v2, v9, ln, nn, tab_v, b1, b2, b3, eq_vq, eq_vw, eq_vv, sc]
theorem pyAll_rows (rs : List (List Nat)) : toPyAll (rs.map rowD) = some (rs.map pyRow) := toPyAll_map rs rowD pyRow fun r _ => toPy_row r
theorem lay_rows (rs : List (List Nat)) : PyData.canLayAll0 (rs.map pyRow) = true := lay_map rs pyRow fun r _ => lay_row r
theorem depth_rows (rs : List (List Nat)) : PyData.depthAll (rs.map pyRow) ≤ 1 := depth_map rs pyRow fun r _ => depth_row r
theorem py_rows (rs : List (List Nat)) : toPy (.tup (rs.map rowD)) = some (.tuple (rs.map pyRow)) := toPy_tupOf (pyAll_rows rs)
theorem py4 (x : PySem.Str) (i j k : Int) (d : D) (p : PyData) (h : toPy d = some p) : toPyAll [.str x, .int i, .int j, d, .int k] = some [.str x, .int i, .int j, p, .int k] := by
  unfold toPyAll; unfold toPyAll; unfold toPyAll; unfold toPyAll; unfold toPyAll; unfold toPyAll
  rw [h]; rfl
theorem py3 (x : PySem.Str) (i j k : Int) (d : D) (p : PyData) (h : toPy d = some p) : toPyAll [.str x, .int i, d, .int j, .int k] = some [.str x, .int i, p, .int j, .int k] := by
  unfold toPyAll; unfold toPyAll; unfold toPyAll; unfold toPyAll; unfold toPyAll; unfold toPyAll
  rw [h]; rfl
theorem m_is_rule_w (hb : 2 ≤ b) (hb2 : b ≤ 16) (hw : 2 ≤ w) (hw2 : w ≤ 97) (hd : d < w) (hl : 1 ≤ ws.length) (hl2 : ws.length ≤ 12) (hws : Below w ws) : m_is_rule [wD b w ws d] = ret (.bl true) := by
  have dr := depth_row ws
  have ne : dEq (wD b w ws d) (.tup []) = some (.fz (.bl false)) := ne_empty (py4 _ _ _ _ _ _ (toPy_row ws)) (by
    simp only [PyData.canLayAll0, PyData.canLay0, so_w, lay_row]; rfl) (by
    simp only [PyData.depthAll, PyData.depth]; omega)
  have it : isD "tuple" (wD b w ws d) = some true := isD_tup _
  have is_ := isD_str "weights"
  have ln : dLen [wD b w ws d] = some (.fz (.int 5)) := rfl
  have nn : dNe (.int 5) (.int 5) = some (.fz (.bl false)) := rfl
  have b1 := betw_nat (v := b) (lo := 2) (hi := 16) (by omega) (by omega)
  have b2 := betw_nat (v := w) (lo := 2) (hi := 97) (by omega) (by omega)
  have b3 := betw_two hd
  have b4 := m_are_between_ok hws (by omega)
  have l2 := lenRow ws
  have sc : scal (.fz (wD b w ws d)) = false := rfl
  have c1 : decide ((1 : Int) ≤ (ws.length : Nat)) = true := decide_eq_true (by omega)
  have c2 : decide (((ws.length : Nat) : Int) ≤ 12) = true := decide_eq_true (by omega)
  have c1' : ((1 : Int) ≤ (ws.length : Nat)) := by omega
  have c2' : (((ws.length : Nat) : Int) ≤ 12) := by omega
  unfold m_is_rule x_is_rule mTab
  simp [freezeAll, runN, runIO, endN, endIO, endV, xRet, xRetN, xSeq, xSet, xIf, xDrop, xNil, xBind, xNo, xPut, xPar, putAll, putV, mAndV, mOrV, mNotB, mAndT, mOrT, mNotT, mTestB, mTruth, truth, mIf, mFn, mFnIO, mConsA, mNilA, mConsD, mNilD, mConsV, mNilV, mStarD, items, mArg, mRet, retV, argV, mVar, mFz, mCall, mUn, lookAll, lookL, scal_non, scal_bl, scal_int, scal_str, scal_tup, scal_lst, scal_own, mChain, mBin, hold, look, mutAt, Slot.mut, mTup, mLst, mMut, mMth, mSlice, mNoO, mSomeO, mIsi, setC, tyOf, LINE, dLe, dLt, dGt, dGe, dAdd, dSub, dMul, dDiv, dMod, dNeg, bName, bTup, bCons, bNil, it, ne, is_, w0, w1, w2, w3, w9, ln, nn, tab_w, b1, b2, b3, b4, l2, eq_wq, eq_ww, sc, c1, c2, c1', c2']
theorem m_is_rule_t (hb : 2 ≤ b) (hb2 : b ≤ 16) (hw : 2 ≤ w) (hw2 : w ≤ 97) (hd : d < w) (hl : 1 ≤ n) (hl2 : n ≤ 12) (hts : Rect n b w ts) : m_is_rule [tD b w ts d] = ret (.bl true) := by
  have dr := depth_rows ts
  have ne : dEq (tD b w ts d) (.tup []) = some (.fz (.bl false)) := ne_empty (py4 _ _ _ _ _ _ (py_rows ts)) (by
    simp only [PyData.canLayAll0, PyData.canLay0, so_t, lay_rows]; rfl) (by
    simp only [PyData.depthAll, PyData.depth]; omega)
  have it : isD "tuple" (tD b w ts d) = some true := isD_tup _
  have is_ := isD_str "tables"
  have ln : dLen [tD b w ts d] = some (.fz (.int 5)) := rfl
  have nn : dNe (.int 5) (.int 5) = some (.fz (.bl false)) := rfl
  have b1 := betw_nat (v := b) (lo := 2) (hi := 16) (by omega) (by omega)
  have b2 := betw_nat (v := w) (lo := 2) (hi := 97) (by omega) (by omega)
  have b3 := betw_two hd
  have b4 := m_are_rows_ok hts (by omega) (by omega)
  have l2 : dLen [.tup (ts.map rowD)] = some (.fz (.int (n : Nat))) := by rw [lenTup, List.length_map, hts.1]
  have sc : scal (.fz (tD b w ts d)) = false := rfl
  have c1' : ((1 : Int) ≤ (n : Nat)) := by omega
  have c2' : (((n : Nat) : Int) ≤ 12) := by omega
  unfold m_is_rule x_is_rule mTab
  simp [freezeAll, runN, runIO, endN, endIO, endV, xRet, xRetN, xSeq, xSet, xIf, xDrop, xNil, xBind, xNo, xPut, xPar, putAll, putV, mAndV, mOrV, mNotB, mAndT, mOrT, mNotT, mTestB, mTruth, truth, mIf, mFn, mFnIO, mConsA, mNilA, mConsD, mNilD, mConsV, mNilV, mStarD, items, mArg, mRet, retV, argV, mVar, mFz, mCall, mUn, lookAll, lookL, scal_non, scal_bl, scal_int, scal_str, scal_tup, scal_lst, scal_own, mChain, mBin, hold, look, mutAt, Slot.mut, mTup, mLst, mMut, mMth, mSlice, mNoO, mSomeO, mIsi, setC, tyOf, LINE, dLe, dLt, dGt, dGe, dAdd, dSub, dMul, dDiv, dMod, dNeg, bName, bTup, bCons, bNil, it, ne, is_, t0, t1, t2, t3, t9, ln, nn, tab_t, b1, b2, b3, b4, l2, eq_tq, eq_tw, eq_tv, sc, c1', c2']
theorem m_is_rule_q (hb : 2 ≤ b) (hb2 : b ≤ 16) (hs : s < b) (he : e < b) (hsq : Rect b b b sq) : m_is_rule [qD b sq s e] = ret (.bl true) := by
  have dr := depth_rows sq
  have ne : dEq (qD b sq s e) (.tup []) = some (.fz (.bl false)) := ne_empty (py3 _ _ _ _ _ _ (py_rows sq)) (by
    simp only [PyData.canLayAll0, PyData.canLay0, so_q, lay_rows]; rfl) (by
    simp only [PyData.depthAll, PyData.depth]; omega)
  have it : isD "tuple" (qD b sq s e) = some true := isD_tup _
  have is_ := isD_str "square"
  have ln : dLen [qD b sq s e] = some (.fz (.int 5)) := rfl
  have nn : dNe (.int 5) (.int 5) = some (.fz (.bl false)) := rfl
  have b1 := betw_nat (v := b) (lo := 2) (hi := 16) (by omega) (by omega)
  have b4 := m_is_square_rule_ok (b := b) (by omega) hs he hsq
  have sl : dSl (qD b sq s e) (some 2) none = some (.fz (.tup [.tup (sq.map rowD), .int (s : Nat), .int (e : Nat)])) := rfl
  have sc : scal (.fz (qD b sq s e)) = false := rfl
  unfold m_is_rule x_is_rule mTab
  simp [freezeAll, runN, runIO, endN, endIO, endV, xRet, xRetN, xSeq, xSet, xIf, xDrop, xNil, xBind, xNo, xPut, xPar, putAll, putV, mAndV, mOrV, mNotB, mAndT, mOrT, mNotT, mTestB, mTruth, truth, mIf, mFn, mFnIO, mConsA, mNilA, mConsD, mNilD, mConsV, mNilV, mStarD, items, mArg, mRet, retV, argV, mVar, mFz, mCall, mUn, lookAll, lookL, scal_non, scal_bl, scal_int, scal_str, scal_tup, scal_lst, scal_own, mChain, mBin, hold, look, mutAt, Slot.mut, mTup, mLst, mMut, mMth, mSlice, mNoO, mSomeO, mIsi, setC, tyOf, LINE, dLe, dLt, dGt, dGe, dAdd, dSub, dMul, dDiv, dMod, dNeg, bName, bTup, bCons, bNil, it, ne, is_, q0, q1, ln, nn, tab_q, b1, b4, sl, eq_qq, sc]
end
end Pv
end

section
set_option maxRecDepth 100000
set_option maxHeartbeats 4000000
namespace Pv
open PySem PySem.Spec L2 PyProof.Rows
section
variable {b n w d s e : Nat} {ws : List Nat} {sq ts : List (List Nat)} {q : D}
theorem m_check_rule_ok (h : m_is_rule [q] = ret (.bl true)) : m_check_rule [q] = ret .non := by
  unfold m_check_rule x_check_rule
  simp [freezeAll, runN, runIO, endN, endIO, endV, xRet, xRetN, xSeq, xSet, xIf, xDrop, xNil, xBind, xNo, xPut, xPar, putAll, putV, mAndV, mOrV, mNotB, mAndT, mOrT, mNotT, mTestB, mTruth, truth, mIf, mFn, mFnIO, mConsA, mNilA, mConsD, mNilD, mConsV, mNilV, mStarD, items, mArg, mRet, retV, argV, mVar, mFz, mCall, mUn, lookAll, lookL, scal_non, scal_bl, scal_int, scal_str, scal_tup, scal_lst, scal_own, mChain, mBin, hold, look, mutAt, Slot.mut, mTup, mLst, mMut, mMth, mSlice, mNoO, mSomeO, mIsi, setC, tyOf, LINE, dLe, dLt, dGt, dGe, dAdd, dSub, dMul, dDiv, dMod, dNeg, bName, bTup, bCons, bNil, h]
theorem m_check_size_ok (h1 : 1 ≤ n) (h2 : n ≤ 12) : m_check_size [.int (n : Nat)] = ret .non := by
  have b1 := betw_nat (v := n) (lo := 1) (hi := 12) (by omega) (by omega)
  unfold m_check_size x_check_size
  simp [freezeAll, runN, runIO, endN, endIO, endV, xRet, xRetN, xSeq, xSet, xIf, xDrop, xNil, xBind, xNo, xPut, xPar, putAll, putV, mAndV, mOrV, mNotB, mAndT, mOrT, mNotT, mTestB, mTruth, truth, mIf, mFn, mFnIO, mConsA, mNilA, mConsD, mNilD, mConsV, mNilV, mStarD, items, mArg, mRet, retV, argV, mVar, mFz, mCall, mUn, lookAll, lookL, scal_non, scal_bl, scal_int, scal_str, scal_tup, scal_lst, scal_own, mChain, mBin, hold, look, mutAt, Slot.mut, mTup, mLst, mMut, mMth, mSlice, mNoO, mSomeO, mIsi, setC, tyOf, LINE, dLe, dLt, dGt, dGe, dAdd, dSub, dMul, dDiv, dMod, dNeg, bName, bTup, bCons, bNil, b1]
theorem in_v : dIn false (.str "value") (.tup [.str "square", .str "value"]) = some (.fz (.bl true)) := by kernel_rfl
theorem in_q : dIn false (.str "square") (.tup [.str "square", .str "value"]) = some (.fz (.bl true)) := by kernel_rfl
theorem in_w : dIn false (.str "weights") (.tup [.str "square", .str "value"]) = some (.fz (.bl false)) := by kernel_rfl
theorem in_t : dIn false (.str "tables") (.tup [.str "square", .str "value"]) = some (.fz (.bl false)) := by kernel_rfl
theorem takes_v : m_does_take [vD b w d, .int (n : Nat)] = ret (.bl true) := by
  unfold m_does_take x_does_take
  simp [freezeAll, runN, runIO, endN, endIO, endV, xRet, xRetN, xSeq, xSet, xIf, xDrop, xNil, xBind, xNo, xPut, xPar, putAll, putV, mAndV, mOrV, mNotB, mAndT, mOrT, mNotT, mTestB, mTruth, truth, mIf, mFn, mFnIO, mConsA, mNilA, mConsD, mNilD, mConsV, mNilV, mStarD, items, mArg, mRet, retV, argV, mVar, mFz, mCall, mUn, lookAll, lookL, scal_non, scal_bl, scal_int, scal_str, scal_tup, scal_lst, scal_own, mChain, mBin, hold, look, mutAt, Slot.mut, mTup, mLst, mMut, mMth, mSlice, mNoO, mSomeO, mIsi, setC, tyOf, LINE, dLe, dLt, dGt, dGe, dAdd, dSub, dMul, dDiv, dMod, dNeg, bName, bTup, bCons, bNil, v0, in_v]
theorem takes_q : m_does_take [qD b sq s e, .int (n : Nat)] = ret (.bl true) := by
  unfold m_does_take x_does_take
  simp [freezeAll, runN, runIO, endN, endIO, endV, xRet, xRetN, xSeq, xSet, xIf, xDrop, xNil, xBind, xNo, xPut, xPar, putAll, putV, mAndV, mOrV, mNotB, mAndT, mOrT, mNotT, mTestB, mTruth, truth, mIf, mFn, mFnIO, mConsA, mNilA, mConsD, mNilD, mConsV, mNilV, mStarD, items, mArg, mRet, retV, argV, mVar, mFz, mCall, mUn, lookAll, lookL, scal_non, scal_bl, scal_int, scal_str, scal_tup, scal_lst, scal_own, mChain, mBin, hold, look, mutAt, Slot.mut, mTup, mLst, mMut, mMth, mSlice, mNoO, mSomeO, mIsi, setC, tyOf, LINE, dLe, dLt, dGt, dGe, dAdd, dSub, dMul, dDiv, dMod, dNeg, bName, bTup, bCons, bNil, q0, in_q]
theorem takes_w (h : ws.length = n) : m_does_take [wD b w ws d, .int (n : Nat)] = ret (.bl true) := by
  have l2 := lenRow ws
  rw [h] at l2
  have en := eqNat n n
  unfold m_does_take x_does_take
  simp [freezeAll, runN, runIO, endN, endIO, endV, xRet, xRetN, xSeq, xSet, xIf, xDrop, xNil, xBind, xNo, xPut, xPar, putAll, putV, mAndV, mOrV, mNotB, mAndT, mOrT, mNotT, mTestB, mTruth, truth, mIf, mFn, mFnIO, mConsA, mNilA, mConsD, mNilD, mConsV, mNilV, mStarD, items, mArg, mRet, retV, argV, mVar, mFz, mCall, mUn, lookAll, lookL, scal_non, scal_bl, scal_int, scal_str, scal_tup, scal_lst, scal_own, mChain, mBin, hold, look, mutAt, Slot.mut, mTup, mLst, mMut, mMth, mSlice, mNoO, mSomeO, mIsi, setC, tyOf, LINE, dLe, dLt, dGt, dGe, dAdd, dSub, dMul, dDiv, dMod, dNeg, bName, bTup, bCons, bNil, w0, w3, in_w, l2, en]
theorem takes_t (h : ts.length = n) : m_does_take [tD b w ts d, .int (n : Nat)] = ret (.bl true) := by
  have l2 : dLen [.tup (ts.map rowD)] = some (.fz (.int (n : Nat))) := by rw [lenTup, List.length_map, h]
  have en := eqNat n n
  unfold m_does_take x_does_take
  simp [freezeAll, runN, runIO, endN, endIO, endV, xRet, xRetN, xSeq, xSet, xIf, xDrop, xNil, xBind, xNo, xPut, xPar, putAll, putV, mAndV, mOrV, mNotB, mAndT, mOrT, mNotT, mTestB, mTruth, truth, mIf, mFn, mFnIO, mConsA, mNilA, mConsD, mNilD, mConsV, mNilV, mStarD, items, mArg, mRet, retV, argV, mVar, mFz, mCall, mUn, lookAll, lookL, scal_non, scal_bl, scal_int, scal_str, scal_tup, scal_lst, scal_own, mChain, mBin, hold, look, mutAt, Slot.mut, mTup, mLst, mMut, mMth, mSlice, mNoO, mSomeO, mIsi, setC, tyOf, LINE, dLe, dLt, dGt, dGe, dAdd, dSub, dMul, dDiv, dMod, dNeg, bName, bTup, bCons, bNil, t0, t3, in_t, l2, en]
theorem m_check_sized_ok (sc : scal (.fz q) = false) (h : m_is_rule [q] = ret (.bl true)) (h1 : 1 ≤ n) (h2 : n ≤ 12) (h3 : m_does_take [q, .int (n : Nat)] = ret (.bl true)) : m_check_sized [q, .int (n : Nat)] = ret .non := by
  have c1 := m_check_rule_ok h
  have c2 := m_check_size_ok h1 h2
  unfold m_check_sized x_check_sized
  simp [freezeAll, runN, runIO, endN, endIO, endV, xRet, xRetN, xSeq, xSet, xIf, xDrop, xNil, xBind, xNo, xPut, xPar, putAll, putV, mAndV, mOrV, mNotB, mAndT, mOrT, mNotT, mTestB, mTruth, truth, mIf, mFn, mFnIO, mConsA, mNilA, mConsD, mNilD, mConsV, mNilV, mStarD, items, mArg, mRet, retV, argV, mVar, mFz, mCall, mUn, lookAll, lookL, scal_non, scal_bl, scal_int, scal_str, scal_tup, scal_lst, scal_own, mChain, mBin, hold, look, mutAt, Slot.mut, mTup, mLst, mMut, mMth, mSlice, mNoO, mSomeO, mIsi, setC, tyOf, LINE, dLe, dLt, dGt, dGe, dAdd, dSub, dMul, dDiv, dMod, dNeg, bName, bTup, bCons, bNil, c1, c2, h3]
theorem power_1 {b m : Nat} (hb : b ≤ 5000) : ∀ (k : Nat) {c : Nat} {s3 : Slot} (xs : List D), xs.length = k →
    ∃ s3', loopF (bName 3) x_power_1 xs [.fz (.int (b : Nat)), .fz (.int (m : Nat)), .fz (.int (c : Nat)), s3] = some (.nx [.fz (.int (b : Nat)), .fz (.int (m : Nat)), .fz (.int ((c * b ^ k : Nat) : Int)), s3'])
  | 0, c, s3, xs, h => by
    rw [List.length_eq_zero_iff.mp h, Nat.pow_zero, Nat.mul_one]
    exact ⟨s3, rfl⟩
  | k + 1, c, s3, [], h => by cases h
  | k + 1, c, s3, x :: xs, h => by
    obtain ⟨t3, e⟩ := power_1 hb k (c := c * b) (s3 := .fz x) xs (Nat.succ.inj h)
    refine ⟨t3, ?_⟩
    have mo := mulOk_r (c : Nat) b hb
    have b1 : bName 3 x [.fz (.int (b : Nat)), .fz (.int (m : Nat)), .fz (.int (c : Nat)), s3] = some [.fz (.int (b : Nat)), .fz (.int (m : Nat)), .fz (.int (c : Nat)), .fz x] := rfl
    have b2 : x_power_1 [.fz (.int (b : Nat)), .fz (.int (m : Nat)), .fz (.int (c : Nat)), .fz x] = some (.nx [.fz (.int (b : Nat)), .fz (.int (m : Nat)), .fz (.int ((c * b : Nat) : Int)), .fz x]) := by
      unfold x_power_1
      rw [Int.natCast_mul]
      simp [freezeAll, runN, runIO, endN, endIO, endV, xRet, xRetN, xSeq, xSet, xIf, xDrop, xNil, xBind, xNo, xPut, xPar, putAll, putV, mAndV, mOrV, mNotB, mAndT, mOrT, mNotT, mTestB, mTruth, truth, mIf, mFn, mFnIO, mConsA, mNilA, mConsD, mNilD, mConsV, mNilV, mStarD, items, mArg, mRet, retV, argV, mVar, mFz, mCall, mUn, lookAll, lookL, scal_non, scal_bl, scal_int, scal_str, scal_tup, scal_lst, scal_own, mChain, mBin, hold, look, mutAt, Slot.mut, mTup, mLst, mMut, mMth, mSlice, mNoO, mSomeO, mIsi, setC, tyOf, LINE, dLe, dLt, dGt, dGe, dAdd, dSub, dMul, dDiv, dMod, dNeg, bName, bTup, bCons, bNil, mo]
    unfold loopF
    rw [b1]
    dsimp only
    rw [b2]
    dsimp only
    rw [e, Nat.pow_succ, Nat.mul_comm (b ^ k) b, ← Nat.mul_assoc]
theorem m_power_ok {b n : Nat} (hb : b ≤ 5000) (hn : n ≤ 5000) : m_power [.int (b : Nat), .int (n : Nat)] = ret (.int ((b ^ n : Nat) : Int)) := by
  obtain ⟨t3, e⟩ := power_1 (m := n) hb n (c := 1) (s3 := .em) ((List.range n).map fun (i : Nat) => D.int (i : Nat)) (by rw [List.length_map, List.length_range])
  rw [Nat.one_mul] at e
  have e : loopF (bName 3) x_power_1 ((List.range n).map fun (i : Nat) => D.int (i : Nat)) [.fz (.int (b : Nat)), .fz (.int (n : Nat)), .fz (.int 1), .em] = _ := e
  have b6 := b62_nat hn
  unfold m_power x_power xFor iRange1
  simp [freezeAll, runN, runIO, endN, endIO, endV, xRet, xRetN, xSeq, xSet, xIf, xDrop, xNil, xBind, xNo, xPut, xPar, putAll, putV, mAndV, mOrV, mNotB, mAndT, mOrT, mNotT, mTestB, mTruth, truth, mIf, mFn, mFnIO, mConsA, mNilA, mConsD, mNilD, mConsV, mNilV, mStarD, items, mArg, mRet, retV, argV, mVar, mFz, mCall, mUn, lookAll, lookL, scal_non, scal_bl, scal_int, scal_str, scal_tup, scal_lst, scal_own, mChain, mBin, hold, look, mutAt, Slot.mut, mTup, mLst, mMut, mMth, mSlice, mNoO, mSomeO, mIsi, setC, tyOf, LINE, dLe, dLt, dGt, dGe, dAdd, dSub, dMul, dDiv, dMod, dNeg, bName, bTup, bCons, bNil, b6, rangeD_eq, List.replicate, e]
theorem m_check_few_ok (hb : b ≤ 5000) (hn : n ≤ 5000) (h : b ^ n ≤ 5000) (i1 : dIx q (.int 1) = some (.fz (.int (b : Nat)))) : m_check_few [q, .int (n : Nat)] = ret .non := by
  have hp := m_power_ok hb hn
  have hd : decide ((5000 : Int) < ((b ^ n : Nat) : Int)) = false := decide_eq_false (by omega)
  have hd' : ¬ ((5000 : Int) < ((b ^ n : Nat) : Int)) := by omega
  unfold m_check_few x_check_few
  generalize b ^ n = m at hp hd hd'
  simp [freezeAll, runN, runIO, endN, endIO, endV, xRet, xRetN, xSeq, xSet, xIf, xDrop, xNil, xBind, xNo, xPut, xPar, putAll, putV, mAndV, mOrV, mNotB, mAndT, mOrT, mNotT, mTestB, mTruth, truth, mIf, mFn, mFnIO, mConsA, mNilA, mConsD, mNilD, mConsV, mNilV, mStarD, items, mArg, mRet, retV, argV, mVar, mFz, mCall, mUn, lookAll, lookL, scal_non, scal_bl, scal_int, scal_str, scal_tup, scal_lst, scal_own, mChain, mBin, hold, look, mutAt, Slot.mut, mTup, mLst, mMut, mMth, mSlice, mNoO, mSomeO, mIsi, setC, tyOf, LINE, dLe, dLt, dGt, dGe, dAdd, dSub, dMul, dDiv, dMod, dNeg, bName, bTup, bCons, bNil, i1, hp, hd, hd']
/-- a rule as the law uses it -/
structure Fine (b n : Nat) (q : D) (A : Auto) : Prop where
  ok : ∃ ok, Rep b n q A ok
  ck : m_check_sized [q, .int (n : Nat)] = ret .non
  good : ∀ l : List Nat, l.length = n → Below b l → m__law_is_good [q, rowD l] = ret (.bl (A.good l))
end
/-! ### the law's own reading -/
section
variable {b n w d s e : Nat} {ws : List Nat} {sq ts : List (List Nat)} {q : D}
def rawW (ws : List Nat) : Nat → Int → List Nat → Int
  | _, a, [] => a
  | p, a, f :: l => rawW ws (p + 1) (a + (ws[p]?.getD 0 : Nat) * f) l
def rawT (ts : List (List Nat)) : Nat → Int → List Nat → Int
  | _, a, [] => a
  | p, a, f :: l => rawT ts (p + 1) (a + ((ts[p]?.getD [])[f]?.getD 0 : Nat)) l
def rawV (b : Nat) : Int → List Nat → Int
  | a, [] => a
  | a, f :: l => rawV b (a * b + f) l
theorem rawW_mod : ∀ (l : List Nat) (p : Nat) (a : Int), (wA w ws d).run p (a % w) l = rawW ws p a l % w
  | [], p, a => rfl
  | f :: l, p, a => by
    show (wA w ws d).run (p + 1) ((a % w + (ws[p]?.getD 0 : Nat) * f) % w) l = rawW ws (p + 1) (a + (ws[p]?.getD 0 : Nat) * f) l % w
    rw [← rawW_mod l, Int.emod_add_emod]
theorem rawT_mod : ∀ (l : List Nat) (p : Nat) (a : Int), (tA w ts d).run p (a % w) l = rawT ts p a l % w
  | [], p, a => rfl
  | f :: l, p, a => by
    show (tA w ts d).run (p + 1) ((a % w + ((ts[p]?.getD [])[f]?.getD 0 : Nat)) % w) l = rawT ts (p + 1) (a + ((ts[p]?.getD [])[f]?.getD 0 : Nat)) l % w
    rw [← rawT_mod l, Int.emod_add_emod]
theorem rawV_mod : ∀ (l : List Nat) (p : Nat) (a : Int), (vA b w d).run p (a % w) l = rawV b a l % w
  | [], p, a => rfl
  | f :: l, p, a => by
    show (vA b w d).run (p + 1) ((a % w * b + f) % w) l = rawV b (a * b + f) l % w
    rw [← rawV_mod l (p + 1)]
    congr 1
    rw [Int.add_emod, Int.mul_emod, Int.emod_emod, ← Int.mul_emod, ← Int.add_emod]
theorem law_v {b w d : Nat} {lab : D} (hb : b ≤ 5000) : ∀ (l : List Nat) {p : Nat} {a : Int} {s3 s4 s5 : Slot}, ∃ s4' s5',
    loopF (bTup 2 (bCons (bName 5) (bCons (bName 4) bNil))) x__law_tells_1 (enumD p (l.map figD)) [.fz (vD b w d), .fz lab, .fz (.int a), s3, s4, s5] = some (.nx [.fz (vD b w d), .fz lab, .fz (.int (rawV b a l)), s3, s4', s5'])
  | [], p, a, s3, s4, s5 => ⟨s4, s5, rfl⟩
  | f :: l, p, a, s3, s4, s5 => by
    obtain ⟨t4, t5, e⟩ := law_v (w := w) (d := d) (lab := lab) hb l (p := p + 1) (a := a * b + f) (s3 := s3) (s4 := .fz (figD f)) (s5 := .fz (.int (p : Nat)))
    refine ⟨t4, t5, ?_⟩
    have mo := mulOk_r a b hb
    rw [List.map_cons]
    unfold enumD loopF
    have b1 : bTup 2 (bCons (bName 5) (bCons (bName 4) bNil)) (D.tup [.int (p : Nat), figD f]) [.fz (vD b w d), .fz lab, .fz (.int a), s3, s4, s5] = some [.fz (vD b w d), .fz lab, .fz (.int a), s3, .fz (figD f), .fz (.int (p : Nat))] := rfl
    have b2 : x__law_tells_1 [.fz (vD b w d), .fz lab, .fz (.int a), s3, .fz (figD f), .fz (.int (p : Nat))] = some (.nx [.fz (vD b w d), .fz lab, .fz (.int (a * b + f)), s3, .fz (figD f), .fz (.int (p : Nat))]) := by
      unfold x__law_tells_1 figD
      simp [freezeAll, runN, runIO, endN, endIO, endV, xRet, xRetN, xSeq, xSet, xIf, xDrop, xNil, xBind, xNo, xPut, xPar, putAll, putV, mAndV, mOrV, mNotB, mAndT, mOrT, mNotT, mTestB, mTruth, truth, mIf, mFn, mFnIO, mConsA, mNilA, mConsD, mNilD, mConsV, mNilV, mStarD, items, mArg, mRet, retV, argV, mVar, mFz, mCall, mUn, lookAll, lookL, scal_non, scal_bl, scal_int, scal_str, scal_tup, scal_lst, scal_own, mChain, mBin, hold, look, mutAt, Slot.mut, mTup, mLst, mMut, mMth, mSlice, mNoO, mSomeO, mIsi, setC, tyOf, LINE, dLe, dLt, dGt, dGe, dAdd, dSub, dMul, dDiv, dMod, dNeg, bName, bTup, bCons, bNil, v0, v1, eq_vw, eq_vt, mo]
    rw [b1]
    dsimp only
    rw [b2]
    exact e
theorem law_w {b w d : Nat} {ws : List Nat} {lab : D} (hb : b ≤ 5000) : ∀ (l : List Nat) {p : Nat} {a : Int} {s3 s4 s5 : Slot}, Below b l → p + l.length ≤ ws.length → ∃ s4' s5',
    loopF (bTup 2 (bCons (bName 5) (bCons (bName 4) bNil))) x__law_tells_1 (enumD p (l.map figD)) [.fz (wD b w ws d), .fz lab, .fz (.int a), s3, s4, s5] = some (.nx [.fz (wD b w ws d), .fz lab, .fz (.int (rawW ws p a l)), s3, s4', s5'])
  | [], p, a, s3, s4, s5, _, _ => ⟨s4, s5, rfl⟩
  | f :: l, p, a, s3, s4, s5, hl, hp => by
    rw [List.length_cons] at hp
    obtain ⟨x, hx⟩ := get_of (l := ws) (i := p) (by omega)
    have ix := dIx_row hx
    obtain ⟨t4, t5, e⟩ := law_w (ws := ws) (w := w) (d := d) (lab := lab) hb l (p := p + 1) (a := a + (ws[p]?.getD 0 : Nat) * f) (s3 := s3) (s4 := .fz (figD f)) (s5 := .fz (.int (p : Nat))) (fun y hy => hl y (List.mem_cons_of_mem _ hy)) (by omega)
    refine ⟨t4, t5, ?_⟩
    have hf := hl f List.mem_cons_self
    have mo := mulOk_r (x : Nat) f (by omega)
    rw [List.map_cons]
    unfold enumD loopF
    have b1 : bTup 2 (bCons (bName 5) (bCons (bName 4) bNil)) (D.tup [.int (p : Nat), figD f]) [.fz (wD b w ws d), .fz lab, .fz (.int a), s3, s4, s5] = some [.fz (wD b w ws d), .fz lab, .fz (.int a), s3, .fz (figD f), .fz (.int (p : Nat))] := rfl
    have b2 : x__law_tells_1 [.fz (wD b w ws d), .fz lab, .fz (.int a), s3, .fz (figD f), .fz (.int (p : Nat))] = some (.nx [.fz (wD b w ws d), .fz lab, .fz (.int (a + (ws[p]?.getD 0 : Nat) * f)), s3, .fz (figD f), .fz (.int (p : Nat))]) := by
      rw [hx]
      unfold x__law_tells_1 figD
      simp [freezeAll, runN, runIO, endN, endIO, endV, xRet, xRetN, xSeq, xSet, xIf, xDrop, xNil, xBind, xNo, xPut, xPar, putAll, putV, mAndV, mOrV, mNotB, mAndT, mOrT, mNotT, mTestB, mTruth, truth, mIf, mFn, mFnIO, mConsA, mNilA, mConsD, mNilD, mConsV, mNilV, mStarD, items, mArg, mRet, retV, argV, mVar, mFz, mCall, mUn, lookAll, lookL, scal_non, scal_bl, scal_int, scal_str, scal_tup, scal_lst, scal_own, mChain, mBin, hold, look, mutAt, Slot.mut, mTup, mLst, mMut, mMth, mSlice, mNoO, mSomeO, mIsi, setC, tyOf, LINE, dLe, dLt, dGt, dGe, dAdd, dSub, dMul, dDiv, dMod, dNeg, bName, bTup, bCons, bNil, w0, w1, w3, eq_ww, ix, mo]
    rw [b1]
    dsimp only
    rw [b2]
    exact e
theorem law_t {b w d n : Nat} {ts : List (List Nat)} {lab : D} (ht : Rect n b w ts) : ∀ (l : List Nat) {p : Nat} {a : Int} {s3 s4 s5 : Slot}, Below b l → p + l.length ≤ n → ∃ s4' s5',
    loopF (bTup 2 (bCons (bName 5) (bCons (bName 4) bNil))) x__law_tells_1 (enumD p (l.map figD)) [.fz (tD b w ts d), .fz lab, .fz (.int a), s3, s4, s5] = some (.nx [.fz (tD b w ts d), .fz lab, .fz (.int (rawT ts p a l)), s3, s4', s5'])
  | [], p, a, s3, s4, s5, _, _ => ⟨s4, s5, rfl⟩
  | f :: l, p, a, s3, s4, s5, hl, hp => by
    rw [List.length_cons] at hp
    obtain ⟨r, hr, hr2, _⟩ := ht.get (i := p) (by omega)
    have hf := hl f List.mem_cons_self
    obtain ⟨x, hx⟩ := get_of (l := r) (i := f) (by omega)
    have ix := dIx_rows hr
    have iy := dIx_row hx
    obtain ⟨t4, t5, e⟩ := law_t (w := w) (d := d) (lab := lab) ht l (p := p + 1) (a := a + ((ts[p]?.getD [])[f]?.getD 0 : Nat)) (s3 := s3) (s4 := .fz (figD f)) (s5 := .fz (.int (p : Nat))) (fun y hy => hl y (List.mem_cons_of_mem _ hy)) (by omega)
    refine ⟨t4, t5, ?_⟩
    rw [List.map_cons]
    unfold enumD loopF
    have b1 : bTup 2 (bCons (bName 5) (bCons (bName 4) bNil)) (D.tup [.int (p : Nat), figD f]) [.fz (tD b w ts d), .fz lab, .fz (.int a), s3, s4, s5] = some [.fz (tD b w ts d), .fz lab, .fz (.int a), s3, .fz (figD f), .fz (.int (p : Nat))] := rfl
    have b2 : x__law_tells_1 [.fz (tD b w ts d), .fz lab, .fz (.int a), s3, .fz (figD f), .fz (.int (p : Nat))] = some (.nx [.fz (tD b w ts d), .fz lab, .fz (.int (a + ((ts[p]?.getD [])[f]?.getD 0 : Nat))), s3, .fz (figD f), .fz (.int (p : Nat))]) := by
      rw [hr]
      simp only [Option.getD_some]
      rw [hx]
      unfold x__law_tells_1 figD
      simp [freezeAll, runN, runIO, endN, endIO, endV, xRet, xRetN, xSeq, xSet, xIf, xDrop, xNil, xBind, xNo, xPut, xPar, putAll, putV, mAndV, mOrV, mNotB, mAndT, mOrT, mNotT, mTestB, mTruth, truth, mIf, mFn, mFnIO, mConsA, mNilA, mConsD, mNilD, mConsV, mNilV, mStarD, items, mArg, mRet, retV, argV, mVar, mFz, mCall, mUn, lookAll, lookL, scal_non, scal_bl, scal_int, scal_str, scal_tup, scal_lst, scal_own, mChain, mBin, hold, look, mutAt, Slot.mut, mTup, mLst, mMut, mMth, mSlice, mNoO, mSomeO, mIsi, setC, tyOf, LINE, dLe, dLt, dGt, dGe, dAdd, dSub, dMul, dDiv, dMod, dNeg, bName, bTup, bCons, bNil, t0, t1, t3, eq_tw, eq_tt, ix, iy]
    rw [b1]
    dsimp only
    rw [b2]
    exact e
theorem law_q {b s e n : Nat} {sq : List (List Nat)} {lab : D} (hsq : Rect b b b sq) : ∀ (l : List Nat) {k : Nat} {p : Nat} {s2 s4 s5 : Slot}, k < b → Below b l → ∃ k' s4', (qA sq s e).run p ((k : Nat) : Int) l = (k' : Nat) ∧
    loopF (bName 4) x__law_tells_2 (l.map figD) [.fz (qD b sq s e), .fz lab, s2, .fz (.int (k : Nat)), s4, s5] = some (.nx [.fz (qD b sq s e), .fz lab, s2, .fz (.int (k' : Nat)), s4', s5])
  | [], k, p, s2, s4, s5, _, _ => ⟨k, s4, rfl, rfl⟩
  | f :: l, k, p, s2, s4, s5, hk, hl => by
    obtain ⟨r, hr, hr2, hr3⟩ := hsq.get hk
    have hf := hl f List.mem_cons_self
    obtain ⟨x, hx⟩ := get_of (l := r) (i := f) (by omega)
    have ix := dIx_rows hr
    have iy := dIx_row hx
    obtain ⟨k', t4, e1, e2⟩ := law_q (s := s) (e := e) (n := n) (lab := lab) hsq l (k := x) (p := p + 1) (s2 := s2) (s4 := .fz (figD f)) (s5 := s5) (hr3 x (List.mem_of_getElem? hx)) (fun y hy => hl y (List.mem_cons_of_mem _ hy))
    refine ⟨k', t4, ?_, ?_⟩
    · rw [← e1]
      show (qA sq s e).run (p + 1) ((((sq[((k : Nat) : Int).toNat]?).getD [])[f]?.getD 0 : Nat) : Int) l = _
      rw [Int.toNat_natCast, hr]
      simp only [Option.getD_some]
      rw [hx]; rfl
    · rw [List.map_cons]
      unfold loopF
      have b1 : bName 4 (figD f) [.fz (qD b sq s e), .fz lab, s2, .fz (.int (k : Nat)), s4, s5] = some [.fz (qD b sq s e), .fz lab, s2, .fz (.int (k : Nat)), .fz (figD f), s5] := rfl
      have b2 : x__law_tells_2 [.fz (qD b sq s e), .fz lab, s2, .fz (.int (k : Nat)), .fz (figD f), s5] = some (.nx [.fz (qD b sq s e), .fz lab, s2, .fz (.int (x : Nat)), .fz (figD f), s5]) := by
        unfold x__law_tells_2 figD
        simp [freezeAll, runN, runIO, endN, endIO, endV, xRet, xRetN, xSeq, xSet, xIf, xDrop, xNil, xBind, xNo, xPut, xPar, putAll, putV, mAndV, mOrV, mNotB, mAndT, mOrT, mNotT, mTestB, mTruth, truth, mIf, mFn, mFnIO, mConsA, mNilA, mConsD, mNilD, mConsV, mNilV, mStarD, items, mArg, mRet, retV, argV, mVar, mFz, mCall, mUn, lookAll, lookL, scal_non, scal_bl, scal_int, scal_str, scal_tup, scal_lst, scal_own, mChain, mBin, hold, look, mutAt, Slot.mut, mTup, mLst, mMut, mMth, mSlice, mNoO, mSomeO, mIsi, setC, tyOf, LINE, dLe, dLt, dGt, dGe, dAdd, dSub, dMul, dDiv, dMod, dNeg, bName, bTup, bCons, bNil, q2, ix, iy]
      rw [b1]
      dsimp only
      rw [b2]
      exact e2
theorem tells_v {l : List Nat} (hb : b ≤ 5000) (hw : 0 < w) : m__law_tells [vD b w d, rowD l] = ret (.int ((vA b w d).run 0 0 l)) := by
  obtain ⟨t4, t5, e⟩ := law_v (w := w) (d := d) (lab := rowD l) hb l (p := 0) (a := 0) (s3 := .em) (s4 := .em) (s5 := .em)
  have h := rawV_mod (b := b) (w := w) (d := d) l 0 0
  rw [Int.zero_emod] at h
  unfold m__law_tells x__law_tells xFor iEnumD
  rw [h]
  unfold rowD at e ⊢
  simp [freezeAll, runN, runIO, endN, endIO, endV, xRet, xRetN, xSeq, xSet, xIf, xDrop, xNil, xBind, xNo, xPut, xPar, putAll, putV, mAndV, mOrV, mNotB, mAndT, mOrT, mNotT, mTestB, mTruth, truth, mIf, mFn, mFnIO, mConsA, mNilA, mConsD, mNilD, mConsV, mNilV, mStarD, items, mArg, mRet, retV, argV, mVar, mFz, mCall, mUn, lookAll, lookL, scal_non, scal_bl, scal_int, scal_str, scal_tup, scal_lst, scal_own, mChain, mBin, hold, look, mutAt, Slot.mut, mTup, mLst, mMut, mMth, mSlice, mNoO, mSomeO, mIsi, setC, tyOf, LINE, dLe, dLt, dGt, dGe, dAdd, dSub, dMul, dDiv, dMod, dNeg, bName, bTup, bCons, bNil, v0, v2, eq_vq, List.replicate, e, hw, -List.map_map]
theorem tells_w {l : List Nat} (hb : b ≤ 5000) (hw : 0 < w) (hl : l.length ≤ ws.length) (hlb : Below b l) : m__law_tells [wD b w ws d, rowD l] = ret (.int ((wA w ws d).run 0 0 l)) := by
  obtain ⟨t4, t5, e⟩ := law_w (ws := ws) (w := w) (d := d) (lab := rowD l) hb l (p := 0) (a := 0) (s3 := .em) (s4 := .em) (s5 := .em) hlb (by omega)
  have h := rawW_mod (ws := ws) (w := w) (d := d) l 0 0
  rw [Int.zero_emod] at h
  unfold m__law_tells x__law_tells xFor iEnumD
  rw [h]
  unfold rowD at e ⊢
  simp [freezeAll, runN, runIO, endN, endIO, endV, xRet, xRetN, xSeq, xSet, xIf, xDrop, xNil, xBind, xNo, xPut, xPar, putAll, putV, mAndV, mOrV, mNotB, mAndT, mOrT, mNotT, mTestB, mTruth, truth, mIf, mFn, mFnIO, mConsA, mNilA, mConsD, mNilD, mConsV, mNilV, mStarD, items, mArg, mRet, retV, argV, mVar, mFz, mCall, mUn, lookAll, lookL, scal_non, scal_bl, scal_int, scal_str, scal_tup, scal_lst, scal_own, mChain, mBin, hold, look, mutAt, Slot.mut, mTup, mLst, mMut, mMth, mSlice, mNoO, mSomeO, mIsi, setC, tyOf, LINE, dLe, dLt, dGt, dGe, dAdd, dSub, dMul, dDiv, dMod, dNeg, bName, bTup, bCons, bNil, w0, w2, eq_wq, List.replicate, e, hw, -List.map_map]
theorem tells_t {l : List Nat} (hw : 0 < w) (ht : Rect n b w ts) (hl : l.length ≤ n) (hlb : Below b l) : m__law_tells [tD b w ts d, rowD l] = ret (.int ((tA w ts d).run 0 0 l)) := by
  obtain ⟨t4, t5, e⟩ := law_t (w := w) (d := d) (lab := rowD l) ht l (p := 0) (a := 0) (s3 := .em) (s4 := .em) (s5 := .em) hlb (by omega)
  have h := rawT_mod (ts := ts) (w := w) (d := d) l 0 0
  rw [Int.zero_emod] at h
  unfold m__law_tells x__law_tells xFor iEnumD
  rw [h]
  unfold rowD at e ⊢
  simp [freezeAll, runN, runIO, endN, endIO, endV, xRet, xRetN, xSeq, xSet, xIf, xDrop, xNil, xBind, xNo, xPut, xPar, putAll, putV, mAndV, mOrV, mNotB, mAndT, mOrT, mNotT, mTestB, mTruth, truth, mIf, mFn, mFnIO, mConsA, mNilA, mConsD, mNilD, mConsV, mNilV, mStarD, items, mArg, mRet, retV, argV, mVar, mFz, mCall, mUn, lookAll, lookL, scal_non, scal_bl, scal_int, scal_str, scal_tup, scal_lst, scal_own, mChain, mBin, hold, look, mutAt, Slot.mut, mTup, mLst, mMut, mMth, mSlice, mNoO, mSomeO, mIsi, setC, tyOf, LINE, dLe, dLt, dGt, dGe, dAdd, dSub, dMul, dDiv, dMod, dNeg, bName, bTup, bCons, bNil, t0, t2, eq_tq, List.replicate, e, hw, -List.map_map]
theorem tells_q {l : List Nat} (hs : s < b) (hsq : Rect b b b sq) (hlb : Below b l) : m__law_tells [qD b sq s e, rowD l] = ret (.int ((qA sq s e).run 0 (s : Nat) l)) := by
  obtain ⟨k', t4, e1, e2⟩ := law_q (s := s) (e := e) (n := 0) (lab := rowD l) hsq l (k := s) (p := 0) (s2 := .em) (s4 := .em) (s5 := .em) hs hlb
  rw [e1]
  unfold m__law_tells x__law_tells xFor iSeq
  unfold rowD at e2 ⊢
  simp [freezeAll, runN, runIO, endN, endIO, endV, xRet, xRetN, xSeq, xSet, xIf, xDrop, xNil, xBind, xNo, xPut, xPar, putAll, putV, mAndV, mOrV, mNotB, mAndT, mOrT, mNotT, mTestB, mTruth, truth, mIf, mFn, mFnIO, mConsA, mNilA, mConsD, mNilD, mConsV, mNilV, mStarD, items, mArg, mRet, retV, argV, mVar, mFz, mCall, mUn, lookAll, lookL, scal_non, scal_bl, scal_int, scal_str, scal_tup, scal_lst, scal_own, mChain, mBin, hold, look, mutAt, Slot.mut, mTup, mLst, mMut, mMth, mSlice, mNoO, mSomeO, mIsi, setC, tyOf, LINE, dLe, dLt, dGt, dGe, dAdd, dSub, dMul, dDiv, dMod, dNeg, bName, bTup, bCons, bNil, q0, q3, eq_qq, List.replicate, e2, -List.map_map]
theorem m_good_of {q : D} {A : Auto} {l : List Nat} (sc : scal (.fz q) = false) (h1 : m__law_tells [q, rowD l] = ret (.int (A.run 0 A.start l))) (h2 : dIx q (.int (-1)) = some (.fz (.int A.due))) : m__law_is_good [q, rowD l] = ret (.bl (A.good l)) := by
  have e : A.good l = (A.run 0 A.start l == A.due) := rfl
  unfold m__law_is_good x__law_is_good
  simp [freezeAll, runN, runIO, endN, endIO, endV, xRet, xRetN, xSeq, xSet, xIf, xDrop, xNil, xBind, xNo, xPut, xPar, putAll, putV, mAndV, mOrV, mNotB, mAndT, mOrT, mNotT, mTestB, mTruth, truth, mIf, mFn, mFnIO, mConsA, mNilA, mConsD, mNilD, mConsV, mNilV, mStarD, items, mArg, mRet, retV, argV, mVar, mFz, mCall, mUn, lookAll, lookL, scal_non, scal_bl, scal_int, scal_str, scal_tup, scal_lst, scal_own, mChain, mBin, hold, look, mutAt, Slot.mut, mTup, mLst, mMut, mMth, mSlice, mNoO, mSomeO, mIsi, setC, tyOf, LINE, dLe, dLt, dGt, dGe, dAdd, dSub, dMul, dDiv, dMod, dNeg, bName, bTup, bCons, bNil, h1, h2, eqD_int, e]
theorem fine_v (hb : 2 ≤ b) (hb2 : b ≤ 16) (hw : 2 ≤ w) (hw2 : w ≤ 97) (hd : d < w) (hn : 1 ≤ n) (hn2 : n ≤ 12) : Fine b n (vD b w d) (vA b w d) :=
  ⟨⟨_, rep_v (by omega) (by omega)⟩, m_check_sized_ok rfl (m_is_rule_v hb hb2 hw hw2 hd) hn hn2 takes_v, fun l _ _ => m_good_of rfl (tells_v (by omega) (by omega)) v9⟩
theorem fine_w (hb : 2 ≤ b) (hb2 : b ≤ 16) (hw : 2 ≤ w) (hw2 : w ≤ 97) (hd : d < w) (hn : 1 ≤ n) (hn2 : n ≤ 12) (hl : ws.length = n) (hws : Below w ws) : Fine b n (wD b w ws d) (wA w ws d) :=
  ⟨⟨_, rep_w (by omega) (by omega) hl⟩, m_check_sized_ok rfl (m_is_rule_w hb hb2 hw hw2 hd (by omega) (by omega) hws) hn hn2 (takes_w hl), fun l h1 h2 => m_good_of rfl (tells_w (by omega) (by omega) (by omega) h2) w9⟩
theorem fine_t (hb : 2 ≤ b) (hb2 : b ≤ 16) (hw : 2 ≤ w) (hw2 : w ≤ 97) (hd : d < w) (hn : 1 ≤ n) (hn2 : n ≤ 12) (ht : Rect n b w ts) : Fine b n (tD b w ts d) (tA w ts d) :=
  ⟨⟨_, rep_t (by omega) ht⟩, m_check_sized_ok rfl (m_is_rule_t hb hb2 hw hw2 hd hn hn2 ht) hn hn2 (takes_t ht.1), fun l h1 h2 => m_good_of rfl (tells_t (by omega) ht (by omega) h2) t9⟩
theorem fine_q (hb : 2 ≤ b) (hb2 : b ≤ 16) (hs : s < b) (he : e < b) (hn : 1 ≤ n) (hn2 : n ≤ 12) (hsq : Rect b b b sq) : Fine b n (qD b sq s e) (qA sq s e) :=
  ⟨⟨_, rep_q hs hsq⟩, m_check_sized_ok rfl (m_is_rule_q hb hb2 hs he hsq) hn hn2 takes_q, fun l h1 h2 => m_good_of rfl (tells_q hs hsq h2) q9⟩
end
end Pv
end

section
set_option maxRecDepth 100000
set_option maxHeartbeats 4000000
namespace Pv
open PySem PySem.Spec L2 PyProof.Rows

/-! ### the pot -/
structure Pot (c : Nat) (d : D) : Prop where
  ex : ∃ a b k : Int, d = .lst [.int a, .int b, .int k] ∧ 0 ≤ a ∧ 0 ≤ b ∧ b < 2305843009213693952 ∧ 0 ≤ k ∧ k ≤ c
theorem Pot.mono {c c' : Nat} {d : D} (h : Pot c d) (hc : c ≤ c') : Pot c' d := by
  obtain ⟨a, b, k, e, h1, h2, h3, h4, h5⟩ := h.ex
  exact ⟨a, b, k, e, h1, h2, h3, h4, by omega⟩
theorem mulOk_l {i : Int} (j : Int) (h1 : -18446744073709551616 < i) (h2 : i < 18446744073709551616) : mulOk i j = true := by
  unfold mulOk
  rw [Bool.or_eq_true, Bool.or_eq_true]
  exact .inl (.inl (decide_eq_true (by omega)))
theorem mulOk_rr (i : Int) {j : Int} (h1 : -18446744073709551616 < j) (h2 : j < 18446744073709551616) : mulOk i j = true := by
  unfold mulOk
  rw [Bool.or_eq_true, Bool.or_eq_true]
  exact .inl (.inr (decide_eq_true (by omega)))
theorem powOk_3 {i : Int} (h1 : 0 ≤ i) (h2 : i < 2 ^ 200) : powOk i 3 = true := by
  unfold powOk
  rw [Bool.and_eq_true]
  refine ⟨by decide, decide_eq_true ?_⟩
  have hl : i.natAbs.log2 < 200 := PySem.Flt.log2_lt_of (by decide) (by omega)
  show (i.natAbs.log2 + 1) * 3 ≤ 1000000
  omega
theorem divOk_nat {u : Nat} (h1 : 1 ≤ u) (h2 : u ≤ 5000) : divOk (u : Nat) = true := by
  unfold divOk
  rw [Bool.and_eq_true, Bool.or_eq_true]
  exact ⟨decide_eq_true (by omega), .inl (by rw [Nat.ble_eq]; omega)⟩
theorem take_1 {a b k : Int} {u : Nat} (hu : 1 ≤ u) (hu2 : u ≤ 5000) (ha : 0 < a) : m__law_take [.lst [.int a, .int b, .int k], .int (u : Nat)] = some ⟨.fz (.int (a % u)), .lst [.int (a / u), .int b, .int k]⟩ := by
  have h0 : (0 : Int) < (u : Nat) := by omega
  have dv := divOk_nat hu hu2
  have i0 : dIx (.lst [.int a, .int b, .int k]) (.int 0) = some (.fz (.int a)) := rfl
  have st : gSet (.lst [.int a, .int b, .int k]) (.int 0) (.int (a / u)) = some (.lst [.int (a / u), .int b, .int k]) := rfl
  have hu0 : 0 < u := hu
  unfold m__law_take x__law_take
  simp [freezeAll, runN, runIO, endN, endIO, endV, xRet, xRetN, xSeq, xSet, xIf, xDrop, xNil, xBind, xNo, xPut, xPar, putAll, putV, mAndV, mOrV, mNotB, mAndT, mOrT, mNotT, mTestB, mTruth, truth, mIf, mFn, mFnIO, mConsA, mNilA, mConsD, mNilD, mConsV, mNilV, mStarD, items, mArg, mRet, retV, argV, mVar, mFz, mCall, mUn, lookAll, lookL, scal_non, scal_bl, scal_int, scal_str, scal_tup, scal_lst, scal_own, mChain, mBin, hold, look, mutAt, Slot.mut, mTup, mLst, mMut, mMth, mSlice, mNoO, mSomeO, mIsi, setC, tyOf, LINE, dLe, dLt, dGt, dGe, dAdd, dSub, dMul, dDiv, dMod, dNeg, bName, bTup, bCons, bNil, i0, ha, h0, hu0, dv, st, dInt, List.replicate]
theorem primes_at {k : Int} (h : 0 ≤ k) : ∃ pr : Int, dIx (.lst [.int 2147482109, .int 2147482099, .int 2147482091, .int 2147482073, .int 2147482067]) (.int (k % 5)) = some (.fz (.int pr)) ∧ 2147482067 ≤ pr ∧ pr ≤ 2147482109 := by
  have h1 : 0 ≤ k % 5 := Int.emod_nonneg _ (by decide)
  have h2 : k % 5 < 5 := Int.emod_lt_of_pos _ (by decide)
  generalize k % 5 = m at h1 h2
  obtain ⟨j, rfl⟩ : ∃ j : Nat, m = j := ⟨m.toNat, by omega⟩
  match j, h2 with
  | 0, _ => exact ⟨_, rfl, by decide, by decide⟩
  | 1, _ => exact ⟨_, rfl, by decide, by decide⟩
  | 2, _ => exact ⟨_, rfl, by decide, by decide⟩
  | 3, _ => exact ⟨_, rfl, by decide, by decide⟩
  | 4, _ => exact ⟨_, rfl, by decide, by decide⟩
  | j + 5, h => omega
theorem take_2 {b k : Int} {u : Nat} (hu : 1 ≤ u) (hu2 : u ≤ 5000) (hb : 0 ≤ b) (hb2 : b < 2305843009213693952) (hk : 0 ≤ k) (hk2 : k ≤ 1000000) :
    ∃ x : Int, m__law_take [.lst [.int 0, .int b, .int k], .int (u : Nat)] = some ⟨.fz (.int (x % u)), .lst [.int 0, .int b, .int (k + 1)]⟩ := by
  have h0 : (0 : Int) < (u : Nat) := by omega
  have hu0 : 0 < u := hu
  obtain ⟨pr, ip, p1, p2⟩ := primes_at (k := k + 1) (by omega)
  have hp0 : 0 < pr := by omega
  have i0 : dIx (.lst [.int 0, .int b, .int k]) (.int 0) = some (.fz (.int 0)) := rfl
  have i2 : dIx (.lst [.int 0, .int b, .int k]) (.int 2) = some (.fz (.int k)) := rfl
  have st : gSet (.lst [.int 0, .int b, .int k]) (.int 2) (.int (k + 1)) = some (.lst [.int 0, .int b, .int (k + 1)]) := rfl
  have j1 : dIx (.lst [.int 0, .int b, .int (k + 1)]) (.int 1) = some (.fz (.int b)) := rfl
  have j2 : dIx (.lst [.int 0, .int b, .int (k + 1)]) (.int 2) = some (.fz (.int (k + 1))) := rfl
  have m1 : mulOk 71233 (k + 1) = true := mulOk_l _ (by decide) (by decide)
  have m2 : mulOk (71233 * (k + 1)) (k + 1) = true := mulOk_rr _ (by omega) (by omega)
  have kk : 0 ≤ 71233 * (k + 1) * (k + 1) := Int.mul_nonneg (by omega) (by omega)
  have kk2 : 71233 * (k + 1) * (k + 1) ≤ 71233 * 1000001 * 1000001 := Int.mul_le_mul (by omega) (by omega) (by omega) (by omega)
  have pw : powOk (b + 71233 * (k + 1) * (k + 1) + 2111) 3 = true := powOk_3 (by omega) (by omega)
  generalize hz : 71233 * (k + 1) * (k + 1) = z at pw
  have q1 : 0 ≤ (b + z + 2111) ^ 3 % pr := Int.emod_nonneg _ (by omega)
  have q2 : (b + z + 2111) ^ 3 % pr < pr := Int.emod_lt_of_pos _ hp0
  have m3 : mulOk 251 (k + 1) = true := mulOk_l _ (by decide) (by decide)
  have m4 : ∀ y, mulOk ((b + z + 2111) ^ 3 % pr) y = true := fun y => mulOk_l _ (by omega) (by omega)
  have dv : divOk 151 = true := rfl
  have dp : dPow (.int (b + z + 2111)) (.int 3) = some (.fz (.int ((b + z + 2111) ^ 3))) := by
    show (if powOk (b + z + 2111) 3 = true then _ else none) = _
    rw [if_pos pw]; rfl
  refine ⟨((b + z + 2111) ^ 3 % pr * ((b + z + 2111) ^ 3 % pr % 7919 + 251 * (k + 1)) % 2305843009213693907) / 151, ?_⟩
  unfold m__law_take x__law_take
  simp [freezeAll, runN, runIO, endN, endIO, endV, xRet, xRetN, xSeq, xSet, xIf, xDrop, xNil, xBind, xNo, xPut, xPar, putAll, putV, mAndV, mOrV, mNotB, mAndT, mOrT, mNotT, mTestB, mTruth, truth, mIf, mFn, mFnIO, mConsA, mNilA, mConsD, mNilD, mConsV, mNilV, mStarD, items, mArg, mRet, retV, argV, mVar, mFz, mCall, mUn, lookAll, lookL, scal_non, scal_bl, scal_int, scal_str, scal_tup, scal_lst, scal_own, mChain, mBin, hold, look, mutAt, Slot.mut, mTup, mLst, mMut, mMth, mSlice, mNoO, mSomeO, mIsi, setC, tyOf, LINE, dLe, dLt, dGt, dGe, dAdd, dSub, dMul, dDiv, dMod, dNeg, bName, bTup, bCons, bNil, i0, i2, st, j1, j2, ip, m1, m2, hz, dp, m3, m4, dv, hp0, h0, hu0, dInt, List.replicate]
theorem take_ok {c : Nat} {pot : D} {u : Nat} (h : Pot c pot) (hc : c ≤ 1000000) (hu : 1 ≤ u) (hu2 : u ≤ 5000) : ∃ (x : Nat) (pot' : D), m__law_take [pot, .int (u : Nat)] = some ⟨.fz (.int (x : Nat)), pot'⟩ ∧ x < u ∧ Pot (c + 1) pot' := by
  obtain ⟨a, b, k, rfl, h1, h2, h3, h4, h5⟩ := h.ex
  have fin : ∀ y : Int, ∃ x : Nat, y % u = (x : Nat) ∧ x < u := fun y => by
    have g1 : 0 ≤ y % u := Int.emod_nonneg _ (by omega)
    have g2 : y % u < u := Int.emod_lt_of_pos _ (by omega)
    exact ⟨(y % u).toNat, by omega, by omega⟩
  by_cases ha : 0 < a
  · obtain ⟨x, ex, hx⟩ := fin a
    refine ⟨x, _, ?_, hx, ⟨a / u, b, k, rfl, Int.ediv_nonneg h1 (by omega), h2, h3, h4, by omega⟩⟩
    rw [take_1 hu hu2 ha, ex]
  · have e : a = 0 := by omega
    subst e
    obtain ⟨y, hy⟩ := take_2 hu hu2 h2 h3 h4 (by omega)
    obtain ⟨x, ex, hx⟩ := fin y
    refine ⟨x, _, ?_, hx, ⟨0, b, k + 1, rfl, by omega, h2, h3, by omega, by omega⟩⟩
    rw [hy, ex]
/-- a list of texts, ints: one is drawn -/
theorem of_ok {c : Nat} {pot : D} {xs : List D} (h : Pot c pot) (hc : c ≤ 1000000) (h1 : 1 ≤ xs.length) (h2 : xs.length ≤ 5000) : ∃ (i : Nat) (x pot' : D), m__law_of [pot, .lst xs] = some ⟨.fz x, pot'⟩ ∧ xs[i]? = some x ∧ Pot (c + 1) pot' := by
  obtain ⟨i, pot', e, hi, hp⟩ := take_ok h hc h1 h2
  obtain ⟨x, hx⟩ := get_of (l := xs) (i := i) hi
  obtain ⟨a, b, k, rfl, _⟩ := h.ex
  refine ⟨i, x, pot', ?_, hx, hp⟩
  have ix : dIx (.lst xs) (.int (i : Nat)) = some (.fz x) := by
    show (L2.atI xs ((i : Nat) : Int)).map Val.fz = _
    rw [atI_nat hx]; rfl
  have ln : dLen [.lst xs] = some (.fz (.int (xs.length : Nat))) := rfl
  unfold m__law_of x__law_of
  simp [freezeAll, runN, runIO, endN, endIO, endV, xRet, xRetN, xSeq, xSet, xIf, xDrop, xNil, xBind, xNo, xPut, xPar, putAll, putV, mAndV, mOrV, mNotB, mAndT, mOrT, mNotT, mTestB, mTruth, truth, mIf, mFn, mFnIO, mConsA, mNilA, mConsD, mNilD, mConsV, mNilV, mStarD, items, mArg, mRet, retV, argV, mVar, mFz, mCall, mUn, lookAll, lookL, scal_non, scal_bl, scal_int, scal_str, scal_tup, scal_lst, scal_own, mChain, mBin, hold, look, mutAt, Slot.mut, mTup, mLst, mMut, mMth, mSlice, mNoO, mSomeO, mIsi, setC, tyOf, LINE, dLe, dLt, dGt, dGe, dAdd, dSub, dMul, dDiv, dMod, dNeg, bName, bTup, bCons, bNil, e, ix, ln]
theorem erase_map {α β : Type} (f : α → β) : ∀ (l : List α) (i : Nat), (l.map f).eraseIdx i = (l.eraseIdx i).map f
  | [], _ => rfl
  | _ :: _, 0 => rfl
  | a :: l, i + 1 => congrArg (f a :: ·) (erase_map f l i)
theorem erase_perm {α : Type} : ∀ {l : List α} {i : Nat} {y : α}, l[i]? = some y → (y :: l.eraseIdx i).Perm l
  | [], _, _, h => by cases h
  | a :: l, 0, y, h => by cases h; exact .refl _
  | a :: l, i + 1, y, h => (List.Perm.swap a y _).trans (.cons a (erase_perm (l := l) (i := i) h))
/-- some are drawn, one by one -/
theorem some_1 {many : D} : ∀ (n : Nat) (xs : List D), xs.length = n → ∀ {c : Nat} {pot pool : D} {left found : List Nat} {s3 : Slot}, Pot c pot → c + n ≤ 1000000 → n ≤ left.length → left.length ≤ 5000 → found.length + n ≤ 5000 →
    ∃ (s3' : Slot) (pot' : D) (left' found' : List Nat), loopF (bName 3) x__law_some_1 xs [.io pot, .fz pool, .fz many, s3, .own (.lst (left.map figD)), .own (.lst (found.map figD))] = some (.nx [.io pot', .fz pool, .fz many, s3', .own (.lst (left'.map figD)), .own (.lst (found'.map figD))]) ∧
      Pot (c + n) pot' ∧ (found ++ left).Perm (found' ++ left') ∧ found'.length = found.length + n
  | 0, xs, hxs, c, pot, pool, left, found, s3, hp, _, _, _, _ => by
    rw [List.length_eq_zero_iff.mp hxs]
    exact ⟨s3, pot, left, found, rfl, hp, .refl _, rfl⟩
  | n + 1, [], hxs, _, _, _, _, _, _, _, _, _, _, _ => by cases hxs
  | n + 1, x :: xs, hxs, c, pot, pool, left, found, s3, hp, hc, hl, hl2, hf => by
    obtain ⟨i, pot1, e1, hi, hp1⟩ := take_ok hp (by omega) (u := left.length) (by omega) (by omega)
    obtain ⟨y, hy⟩ := get_of (l := left) (i := i) hi
    obtain ⟨t3, pot', left', found', e2, g1, g2, g3⟩ := some_1 n xs (Nat.succ.inj hxs) (pool := pool) (many := many) (left := left.eraseIdx i) (found := found ++ [y]) (s3 := .fz x) hp1 (by omega) (by rw [List.length_eraseIdx_of_lt hi]; omega) (by rw [List.length_eraseIdx_of_lt hi]; omega) (by rw [List.length_append, List.length_singleton]; omega)
    refine ⟨t3, pot', left', found', ?_, by rw [show c + (n + 1) = c + 1 + n by omega]; exact g1, ?_, by rw [g3, List.length_append, List.length_singleton]; omega⟩
    · have b1 : bName 3 x [.io pot, .fz pool, .fz many, s3, .own (.lst (left.map figD)), .own (.lst (found.map figD))] = some [.io pot, .fz pool, .fz many, .fz x, .own (.lst (left.map figD)), .own (.lst (found.map figD))] := rfl
      have gp : gPop (.lst (left.map figD)) [.int (i : Nat)] = some (figD y, .lst ((left.eraseIdx i).map figD)) := by
        have b6 : B62 ((i : Nat) : Int) = true := b62_nat (by omega)
        have si : seqIndex? ((i : Nat) : Int) (left.map figD).length = some i := by
          rw [List.length_map]
          exact seqIndex_of (by omega) (by omega)
        have gt : (left.map figD)[i]? = some (figD y) := by rw [List.getElem?_map, hy]; rfl
        have er : (left.map figD).eraseIdx i = (left.eraseIdx i).map figD := by exact erase_map figD left i
        show (if B62 ((i : Nat) : Int) = true then _ else none) = _
        rw [if_pos b6, si]
        dsimp only
        rw [gt]
        dsimp only
        rw [er]
      have ln : dLen [.lst (left.map figD)] = some (.fz (.int (left.length : Nat))) := by
        show some (Val.fz (D.int ((left.map figD).length : Nat))) = _
        rw [List.length_map]
      have ga : gAppend (.lst (found.map figD)) [figD y] = some (.non, .lst ((found ++ [y]).map figD)) := by
        show (if (found.map figD).length < LINE then some (D.non, D.lst (found.map figD ++ [figD y])) else none) = _
        rw [if_pos (by rw [List.length_map]; unfold LINE; omega), List.map_append]; rfl
      have b2 : x__law_some_1 [.io pot, .fz pool, .fz many, .fz x, .own (.lst (left.map figD)), .own (.lst (found.map figD))] = some (.nx [.io pot1, .fz pool, .fz many, .fz x, .own (.lst ((left.eraseIdx i).map figD)), .own (.lst ((found ++ [y]).map figD))]) := by
        obtain ⟨a, b, k, rfl, _⟩ := hp.ex
        unfold x__law_some_1
        simp [freezeAll, runN, runIO, endN, endIO, endV, xRet, xRetN, xSeq, xSet, xIf, xDrop, xNil, xBind, xNo, xPut, xPar, putAll, putV, mAndV, mOrV, mNotB, mAndT, mOrT, mNotT, mTestB, mTruth, truth, mIf, mFn, mFnIO, mConsA, mNilA, mConsD, mNilD, mConsV, mNilV, mStarD, items, mArg, mRet, retV, argV, mVar, mFz, mCall, mUn, lookAll, lookL, scal_non, scal_bl, scal_int, scal_str, scal_tup, scal_lst, scal_own, mChain, mBin, hold, look, mutAt, Slot.mut, mTup, mLst, mMut, mMth, mSlice, mNoO, mSomeO, mIsi, setC, tyOf, LINE, dLe, dLt, dGt, dGe, dAdd, dSub, dMul, dDiv, dMod, dNeg, bName, bTup, bCons, bNil, e1, gp, ga, ln, -List.map_append]
      unfold loopF
      rw [b1]
      dsimp only
      rw [b2]
      exact e2
    · refine .trans ?_ g2
      rw [List.append_assoc]
      refine .append_left _ ?_
      exact (erase_perm hy).symm
end Pv
end

section
set_option maxRecDepth 100000
set_option maxHeartbeats 4000000
namespace Pv
open PySem PySem.Spec L2 PyProof.Rows

theorem m__law_some_ok {c b : Nat} {pot : D} (hp : Pot c pot) (hc : c + b ≤ 1000000) (hb : b ≤ 2000) : ∃ (pot' : D) (r : List Nat), m__law_some [pot, .lst ((List.range b).map figD), .int (b : Nat)] = some ⟨.own (.lst (r.map figD)), pot'⟩ ∧ Pot (c + b) pot' ∧ r.length = b ∧ Below b r := by
  obtain ⟨s3, pot', left', found', e, g1, g2, g3⟩ := some_1 (many := .int (b : Nat)) b ((List.range b).map fun (i : Nat) => D.int (i : Nat)) (by rw [List.length_map, List.length_range]) (pool := .lst ((List.range b).map figD)) (left := List.range b) (found := []) (s3 := .em) hp hc (by rw [List.length_range]; omega) (by rw [List.length_range]; omega) (by rw [List.length_nil]; omega)
  refine ⟨pot', found', ?_, g1, by rw [g3, List.length_nil, Nat.zero_add], fun x hx => ?_⟩
  · have e : loopF (bName 3) x__law_some_1 ((List.range b).map fun (i : Nat) => D.int (i : Nat)) [.io pot, .fz (.lst ((List.range b).map figD)), .fz (.int (b : Nat)), .em, .own (.lst ((List.range b).map figD)), .own (.lst [])] = _ := e
    have b6 : B62 ((b : Nat) : Int) = true := b62_nat (by omega)
    unfold m__law_some x__law_some xFor iRange1
    simp [freezeAll, runN, runIO, endN, endIO, endV, xRet, xRetN, xSeq, xSet, xIf, xDrop, xNil, xBind, xNo, xPut, xPar, putAll, putV, mAndV, mOrV, mNotB, mAndT, mOrT, mNotT, mTestB, mTruth, truth, mIf, mFn, mFnIO, mConsA, mNilA, mConsD, mNilD, mConsV, mNilV, mStarD, items, mArg, mRet, retV, argV, mVar, mFz, mCall, mUn, lookAll, lookL, scal_non, scal_bl, scal_int, scal_str, scal_tup, scal_lst, scal_own, mChain, mBin, hold, look, mutAt, Slot.mut, mTup, mLst, mMut, mMth, mSlice, mNoO, mSomeO, mIsi, setC, tyOf, LINE, dLe, dLt, dGt, dGe, dAdd, dSub, dMul, dDiv, dMod, dNeg, bName, bTup, bCons, bNil, b6, rangeD_eq, List.replicate, dList, e]
  · have : x ∈ [] ++ List.range b := g2.symm.subset (List.mem_append_left _ hx)
    rw [List.nil_append, List.mem_range] at this
    exact this
/-- a comprehension whose element draws -/
theorem loopC_st {el : Ev} {i : Nat} {E : D → DEnv} {P : D → Prop} {m B : Nat} (hE : ∀ pot, (E pot).set i .em = E pot) (hi : ∀ pot, i < (E pot).length) {ds : List D} :
    ∀ (ds' : List D) (c n : Nat) (pot : D), (∀ d ∈ ds', d ∈ ds) → (∀ d ∈ ds, ∀ (c : Nat) (pot : D), Pot c pot → c + m ≤ B → ∃ x pot', mRet el ((E pot).set i (.fz d)) = some (.fz x, (E pot').set i (.fz d)) ∧ P x ∧ Pot (c + m) pot') → Pot c pot → c + m * ds'.length ≤ B → n + ds'.length ≤ LINE →
      ∃ xs pot', loopC (bName i) mYes el [i] ds' (E pot) n = some (xs, E pot') ∧ xs.length = ds'.length ∧ (∀ x ∈ xs, P x) ∧ Pot (c + m * ds'.length) pot'
  | [], c, n, pot, _, _, hp, _, _ => ⟨[], pot, rfl, rfl, (fun x h => by cases h), by rw [List.length_nil, Nat.mul_zero]; exact hp⟩
  | d :: ds', c, n, pot, hs, h, hp, hc, hn => by
    rw [List.length_cons, Nat.mul_succ] at hc
    rw [List.length_cons] at hn
    obtain ⟨x, pot1, e1, px, hp1⟩ := h d (hs d List.mem_cons_self) c pot hp (by omega)
    obtain ⟨xs, pot', e2, l2, p2, hp2⟩ := loopC_st hE hi ds' (c + m) (n + 1) pot1 (fun y hy => hs y (List.mem_cons_of_mem _ hy)) h hp1 (by omega) (by omega)
    refine ⟨x :: xs, pot', ?_, congrArg (· + 1) l2, fun y hy => ?_, by rw [List.length_cons, Nat.mul_succ, show c + (m * ds'.length + m) = c + m + m * ds'.length by omega]; exact hp2⟩
    · have b1 : bName i d (E pot) = some ((E pot).set i (.fz d)) := if_pos (hi pot)
      have w1 : wipeE ((E pot1).set i (.fz d)) [i] = E pot1 := by
        show ((E pot1).set i (.fz d)).set i .em = _
        rw [List.set_set, hE]
      unfold loopC
      rw [b1]
      dsimp only [mYes]
      rw [e1]
      dsimp only
      rw [if_pos (by omega), w1, e2]
    · rcases List.mem_cons.mp hy with w | w
      · rw [w]; exact px
      · exact p2 y w
theorem mComp_st {fi : EvI} {el : Ev} {i : Nat} {E : D → DEnv} {P : D → Prop} {m B c : Nat} {ds : List D} {e : DEnv} {pot : D} (h0 : fi e = some (ds, e)) (he : e.set i .em = E pot) (hE : ∀ pot, (E pot).set i .em = E pot) (hi : ∀ pot, i < (E pot).length)
    (h : ∀ d ∈ ds, ∀ (c : Nat) (pot : D), Pot c pot → c + m ≤ B → ∃ x pot', mRet el ((E pot).set i (.fz d)) = some (.fz x, (E pot').set i (.fz d)) ∧ P x ∧ Pot (c + m) pot') (hp : Pot c pot) (hc : c + m * ds.length ≤ B) (hn : ds.length ≤ LINE) :
    ∃ xs pot', mComp fi (bName i) mYes el [i] e = some (.own (.lst xs), E pot') ∧ xs.length = ds.length ∧ (∀ x ∈ xs, P x) ∧ Pot (c + m * ds.length) pot' := by
  obtain ⟨xs, pot', e1, l1, p1, hp1⟩ := loopC_st (P := P) hE hi ds c 0 pot (fun d hd => hd) h hp hc (by omega)
  refine ⟨xs, pot', ?_, l1, p1, hp1⟩
  unfold mComp
  rw [h0]
  show (loopC (bName i) mYes el [i] ds (wipeE e [i]) 0).bind _ = _
  have w1 : wipeE e [i] = E pot := he
  rw [w1, e1]
  show some (Val.own (.lst xs), wipeE (E pot') [i]) = _
  have w2 : wipeE (E pot') [i] = E pot' := hE pot'
  rw [w2]
/-- a list of figures below w -/
def Fig (w : Nat) (x : D) : Prop := ∃ k : Nat, x = figD k ∧ k < w
theorem figs_row {w : Nat} : ∀ {xs : List D}, (∀ x ∈ xs, Fig w x) → ∃ r : List Nat, xs = r.map figD ∧ Below w r
  | [], _ => ⟨[], rfl, fun x h => by cases h⟩
  | x :: xs, h => by
    obtain ⟨k, rfl, hk⟩ := h x List.mem_cons_self
    obtain ⟨r, rfl, hr⟩ := figs_row (xs := xs) fun y hy => h y (List.mem_cons_of_mem _ hy)
    exact ⟨k :: r, rfl, fun y hy => (List.mem_cons.mp hy).elim (fun e => e ▸ hk) (hr y)⟩
def RowOf (m w : Nat) (x : D) : Prop := ∃ r : List Nat, x = rowD r ∧ r.length = m ∧ Below w r
theorem rows_rect {m w : Nat} : ∀ {xs : List D}, (∀ x ∈ xs, RowOf m w x) → ∃ rs : List (List Nat), xs = rs.map rowD ∧ Rect xs.length m w rs
  | [], _ => ⟨[], rfl, rfl, fun r h => by cases h⟩
  | x :: xs, h => by
    obtain ⟨r, rfl, h1, h2⟩ := h x List.mem_cons_self
    obtain ⟨rs, e, h3, h4⟩ := rows_rect (xs := xs) fun y hy => h y (List.mem_cons_of_mem _ hy)
    refine ⟨r :: rs, by rw [e]; rfl, by rw [List.length_cons, List.length_cons, h3], fun y hy => ?_⟩
    rcases List.mem_cons.mp hy with w | w
    · rw [w]; exact ⟨h1, h2⟩
    · exact h4 y w
theorem io_take {c u : Nat} {pot : D} (h : Pot c pot) : ∃ a b k : Int, pot = .lst [.int a, .int b, .int k] := by
  obtain ⟨a, b, k, e, _⟩ := h.ex
  exact ⟨a, b, k, e⟩
/-- one row of draws, in the slots of _law_rule -/
theorem draw_row {el : Ev} {fi : EvI} {c b u : Nat} {pot : D} {s1 s2 s3 s4 s5 s6 s7 s8 s9 s10 : Slot} (hp : Pot c pot) (hc : c + b ≤ 1000000) (hb : b ≤ 2000) (hu : 1 ≤ u) (hu2 : u ≤ 5000)
    (h0 : fi [.io pot, s1, s2, s3, s4, s5, s6, s7, s8, s9, s10] = some ((List.range b).map figD, [.io pot, s1, s2, s3, s4, s5, s6, s7, s8, s9, s10]))
    (he : ∀ (pot : D) (s10 : Slot), el [.io pot, s1, s2, s3, s4, s5, s6, s7, s8, s9, s10] = mFnIO m__law_take 0 (mConsD (mFz (.int (u : Nat))) mNilD) [.io pot, s1, s2, s3, s4, s5, s6, s7, s8, s9, s10]) :
    ∃ (r : List Nat) (pot' : D), mComp fi (bName 10) mYes el [10] [.io pot, s1, s2, s3, s4, s5, s6, s7, s8, s9, s10] = some (.own (.lst (r.map figD)), [.io pot', s1, s2, s3, s4, s5, s6, s7, s8, s9, .em]) ∧ r.length = b ∧ Below u r ∧ Pot (c + b) pot' := by
  obtain ⟨xs, pot', e1, l1, p1, hp1⟩ := mComp_st (E := fun pot => [.io pot, s1, s2, s3, s4, s5, s6, s7, s8, s9, .em]) (P := Fig u) (m := 1) (B := 1000000) (el := el) (i := 10) (c := c) h0 rfl (fun _ => rfl) (fun _ => by simp) (fun d hd c pot hp hc => by
    obtain ⟨x, pot', e, hx, hp'⟩ := take_ok hp (by omega) hu hu2
    refine ⟨figD x, pot', ?_, ⟨x, rfl, hx⟩, hp'⟩
    obtain ⟨a, b, k, rfl⟩ := io_take (u := u) hp
    show mRet el [.io (.lst [.int a, .int b, .int k]), s1, s2, s3, s4, s5, s6, s7, s8, s9, .fz d] = some (.fz (figD x), [.io pot', s1, s2, s3, s4, s5, s6, s7, s8, s9, .fz d])
    unfold mRet
    rw [he]
    simp [freezeAll, runN, runIO, endN, endIO, endV, xRet, xRetN, xSeq, xSet, xIf, xDrop, xNil, xBind, xNo, xPut, xPar, putAll, putV, mAndV, mOrV, mNotB, mAndT, mOrT, mNotT, mTestB, mTruth, truth, mIf, mFn, mFnIO, mConsA, mNilA, mConsD, mNilD, mConsV, mNilV, mStarD, items, mArg, mRet, retV, argV, mVar, mFz, mCall, mUn, lookAll, lookL, scal_non, scal_bl, scal_int, scal_str, scal_tup, scal_lst, scal_own, mChain, mBin, hold, look, mutAt, Slot.mut, mTup, mLst, mMut, mMth, mSlice, mNoO, mSomeO, mIsi, setC, tyOf, LINE, dLe, dLt, dGt, dGe, dAdd, dSub, dMul, dDiv, dMod, dNeg, bName, bTup, bCons, bNil, e, figD]) hp (by rw [List.length_map, List.length_range]; omega) (by rw [List.length_map, List.length_range]; unfold LINE; omega)
  rw [List.length_map, List.length_range] at l1 hp1
  obtain ⟨r, rfl, hr⟩ := figs_row p1
  rw [List.length_map] at l1
  exact ⟨r, pot', e1, l1, hr, by rw [Nat.one_mul] at hp1; exact hp1⟩
end Pv
end

section
set_option maxRecDepth 100000
set_option maxHeartbeats 4000000
namespace Pv
open PySem PySem.Spec L2 PyProof.Rows
section
variable {b n w way : Nat}
theorem range_src (b : Nat) (hb : b ≤ 5000) {pot : D} {s2 s3 s4 s5 s6 s7 s8 s9 s10 : Slot} : iRange1 (mConsD (mVar 1) mNilD) [.io pot, .fz (.int (b : Nat)), s2, s3, s4, s5, s6, s7, s8, s9, s10] = some ((List.range b).map figD, [.io pot, .fz (.int (b : Nat)), s2, s3, s4, s5, s6, s7, s8, s9, s10]) := by
  have b6 := b62_nat hb
  unfold iRange1
  simp [freezeAll, runN, runIO, endN, endIO, endV, xRet, xRetN, xSeq, xSet, xIf, xDrop, xNil, xBind, xNo, xPut, xPar, putAll, putV, mAndV, mOrV, mNotB, mAndT, mOrT, mNotT, mTestB, mTruth, truth, mIf, mFn, mFnIO, mConsA, mNilA, mConsD, mNilD, mConsV, mNilV, mStarD, items, mArg, mRet, retV, argV, mVar, mFz, mCall, mUn, lookAll, lookL, scal_non, scal_bl, scal_int, scal_str, scal_tup, scal_lst, scal_own, mChain, mBin, hold, look, mutAt, Slot.mut, mTup, mLst, mMut, mMth, mSlice, mNoO, mSomeO, mIsi, setC, tyOf, LINE, dLe, dLt, dGt, dGe, dAdd, dSub, dMul, dDiv, dMod, dNeg, bName, bTup, bCons, bNil, b6, rangeD_eq]
  intro a _; rfl
theorem range_src2 (n : Nat) (hn : n ≤ 5000) {pot : D} {s1 s3 s4 s5 s6 s7 s8 s9 s10 : Slot} : iRange1 (mConsD (mVar 2) mNilD) [.io pot, s1, .fz (.int (n : Nat)), s3, s4, s5, s6, s7, s8, s9, s10] = some ((List.range n).map figD, [.io pot, s1, .fz (.int (n : Nat)), s3, s4, s5, s6, s7, s8, s9, s10]) := by
  have b6 := b62_nat hn
  unfold iRange1
  simp [freezeAll, runN, runIO, endN, endIO, endV, xRet, xRetN, xSeq, xSet, xIf, xDrop, xNil, xBind, xNo, xPut, xPar, putAll, putV, mAndV, mOrV, mNotB, mAndT, mOrT, mNotT, mTestB, mTruth, truth, mIf, mFn, mFnIO, mConsA, mNilA, mConsD, mNilD, mConsV, mNilV, mStarD, items, mArg, mRet, retV, argV, mVar, mFz, mCall, mUn, lookAll, lookL, scal_non, scal_bl, scal_int, scal_str, scal_tup, scal_lst, scal_own, mChain, mBin, hold, look, mutAt, Slot.mut, mTup, mLst, mMut, mMth, mSlice, mNoO, mSomeO, mIsi, setC, tyOf, LINE, dLe, dLt, dGt, dGe, dAdd, dSub, dMul, dDiv, dMod, dNeg, bName, bTup, bCons, bNil, b6, rangeD_eq]
  intro a _; rfl
/-- one drawn row as a tuple -/
theorem rule_7 {c : Nat} {pot : D} (hp : Pot c pot) (hc : c + b ≤ 1000000) (hb1 : 1 ≤ b) (hb : b ≤ 16) {s2 s3 s4 s5 s6 s7 s8 s9 : Slot} :
    ∃ (r : List Nat) (pot' : D), mRet x__law_rule_7 [.io pot, .fz (.int (b : Nat)), s2, s3, s4, s5, s6, s7, s8, s9, .em] = some (.fz (rowD r), [.io pot', .fz (.int (b : Nat)), s2, s3, s4, s5, s6, s7, s8, s9, .em]) ∧ r.length = b ∧ Below b r ∧ Pot (c + b) pot' := by
  obtain ⟨r, pot', e, l1, h1, p1⟩ := draw_row (el := x__law_rule_6) (fi := iRange1 (mConsD (mVar 1) mNilD)) (u := b) (b := b) (s1 := .fz (.int (b : Nat))) (s2 := s2) (s3 := s3) (s4 := s4) (s5 := s5) (s6 := s6) (s7 := s7) (s8 := s8) (s9 := s9) (s10 := .em) hp hc (by omega) hb1 (by omega) (range_src b (by omega)) (fun _ _ => rfl)
  refine ⟨r, pot', ?_, l1, h1, p1⟩
  obtain ⟨a, x, k, rfl⟩ := io_take (u := b) hp
  unfold x__law_rule_7
  simp [freezeAll, runN, runIO, endN, endIO, endV, xRet, xRetN, xSeq, xSet, xIf, xDrop, xNil, xBind, xNo, xPut, xPar, putAll, putV, mAndV, mOrV, mNotB, mAndT, mOrT, mNotT, mTestB, mTruth, truth, mIf, mFn, mFnIO, mConsA, mNilA, mConsD, mNilD, mConsV, mNilV, mStarD, items, mArg, mRet, retV, argV, mVar, mFz, mCall, mUn, lookAll, lookL, scal_non, scal_bl, scal_int, scal_str, scal_tup, scal_lst, scal_own, mChain, mBin, hold, look, mutAt, Slot.mut, mTup, mLst, mMut, mMth, mSlice, mNoO, mSomeO, mIsi, setC, tyOf, LINE, dLe, dLt, dGt, dGe, dAdd, dSub, dMul, dDiv, dMod, dNeg, bName, bTup, bCons, bNil, e, dTuple, rowD]
theorem square_0 {c : Nat} {pot : D} (hp : Pot c pot) (hc : c + b * b ≤ 1000000) (hb1 : 1 ≤ b) (hb : b ≤ 16) {s2 s3 s4 s5 s6 s7 s9 : Slot} :
    ∃ (sq : List (List Nat)) (pot' : D), mComp (iRange1 (mConsD (mVar 1) mNilD)) (bName 8) mYes x__law_rule_7 [8] [.io pot, .fz (.int (b : Nat)), s2, s3, s4, s5, s6, s7, .em, s9, .em] =
      some (.own (.lst (sq.map rowD)), [.io pot', .fz (.int (b : Nat)), s2, s3, s4, s5, s6, s7, .em, s9, .em]) ∧ Rect b b b sq ∧ Pot (c + b * b) pot' := by
  obtain ⟨xs, pot', e1, l1, p1, hp1⟩ := mComp_st (fi := iRange1 (mConsD (mVar 1) mNilD)) (E := fun pot => [.io pot, .fz (.int (b : Nat)), s2, s3, s4, s5, s6, s7, .em, s9, .em]) (P := RowOf b b) (m := b) (B := 1000000) (el := x__law_rule_7) (i := 8) (c := c) (range_src b (by omega)) rfl (fun _ => rfl) (fun _ => by simp) (fun d hd c pot hp hc => by
    obtain ⟨r, pot', e, h1, h2, h3⟩ := rule_7 (b := b) hp (by omega) hb1 hb (s2 := s2) (s3 := s3) (s4 := s4) (s5 := s5) (s6 := s6) (s7 := s7) (s8 := .fz d) (s9 := s9)
    exact ⟨rowD r, pot', e, ⟨r, rfl, h1, h2⟩, h3⟩) hp (by rw [List.length_map, List.length_range]; omega) (by rw [List.length_map, List.length_range]; unfold LINE; omega)
  rw [List.length_map, List.length_range] at l1 hp1
  obtain ⟨rs, rfl, hr⟩ := rows_rect p1
  rw [l1] at hr
  exact ⟨rs, pot', e1, hr, hp1⟩
theorem rule_5 (hb1 : 1 ≤ b) (hb : b ≤ 16) {st row : Nat} (hst : st ≤ 5000) {pot : D} (hpt : ∃ a b k : Int, pot = .lst [.int a, .int b, .int k]) {s2 s3 s4 s5 s6 s7 : Slot} :
    ∃ r : List Nat, mRet x__law_rule_5 [.io pot, .fz (.int (b : Nat)), s2, s3, s4, s5, s6, s7, .fz (.int (row : Nat)), .fz (.int (st : Nat)), .em] = some (.fz (rowD r), [.io pot, .fz (.int (b : Nat)), s2, s3, s4, s5, s6, s7, .fz (.int (row : Nat)), .fz (.int (st : Nat)), .em]) ∧ r.length = b ∧ Below b r := by
  have hc := mComp_map (fi := iRange1 (mConsD (mVar 1) mNilD)) (g := fun d => figD ((row + st * natOf d) % b)) (f := x__law_rule_4) (i := 10) (e := [.io pot, .fz (.int (b : Nat)), s2, s3, s4, s5, s6, s7, .fz (.int (row : Nat)), .fz (.int (st : Nat)), .em]) (range_src b (by omega)) (by simp) (fun d hd => by
    obtain ⟨f, hf, rfl⟩ := List.mem_map.mp hd
    have mo := mulOk_nat st f hst
    have hb0 : (0 : Int) < (b : Nat) := by omega
    have hb0' : 0 < b := hb1
    have en : figD ((row + st * natOf (figD f)) % b) = .int (((row : Int) + (st : Nat) * (f : Nat)) % (b : Nat)) := by
      show D.int (((row + st * f) % b : Nat) : Int) = _
      rw [Int.natCast_emod, Int.natCast_add, Int.natCast_mul]
    rw [en]
    unfold x__law_rule_4 figD
    simp [freezeAll, runN, runIO, endN, endIO, endV, xRet, xRetN, xSeq, xSet, xIf, xDrop, xNil, xBind, xNo, xPut, xPar, putAll, putV, mAndV, mOrV, mNotB, mAndT, mOrT, mNotT, mTestB, mTruth, truth, mIf, mFn, mFnIO, mConsA, mNilA, mConsD, mNilD, mConsV, mNilV, mStarD, items, mArg, mRet, retV, argV, mVar, mFz, mCall, mUn, lookAll, lookL, scal_non, scal_bl, scal_int, scal_str, scal_tup, scal_lst, scal_own, mChain, mBin, hold, look, mutAt, Slot.mut, mTup, mLst, mMut, mMth, mSlice, mNoO, mSomeO, mIsi, setC, tyOf, LINE, dLe, dLt, dGt, dGe, dAdd, dSub, dMul, dDiv, dMod, dNeg, bName, bTup, bCons, bNil, mo, hb0, hb0']) (by rw [List.length_map, List.length_range]; unfold LINE; omega)
  refine ⟨(List.range b).map fun f => (row + st * f) % b, ?_, by rw [List.length_map, List.length_range], fun x hx => ?_⟩
  · obtain ⟨a, x, k, rfl⟩ := hpt
    rw [List.map_map] at hc
    have eg : ((fun d => figD ((row + st * natOf d) % b)) ∘ figD) = fun f => figD ((row + st * f) % b) := rfl
    rw [eg] at hc
    have er : rowD ((List.range b).map fun f => (row + st * f) % b) = .tup ((List.range b).map fun f => figD ((row + st * f) % b)) := by
      unfold rowD; rw [List.map_map]; rfl
    rw [er]
    unfold x__law_rule_5
    have hc : mComp (iRange1 (mConsD (mVar 1) mNilD)) (bName 10) mYes x__law_rule_4 [10] [.io (.lst [.int a, .int x, .int k]), .fz (.int (b : Nat)), s2, s3, s4, s5, s6, s7, .fz (.int (row : Nat)), .fz (.int (st : Nat)), .em] = some (.own (.lst ((List.range b).map fun f => figD ((row + st * f) % b))), [.io (.lst [.int a, .int x, .int k]), .fz (.int (b : Nat)), s2, s3, s4, s5, s6, s7, .fz (.int (row : Nat)), .fz (.int (st : Nat)), .em]) := hc
    simp [freezeAll, runN, runIO, endN, endIO, endV, xRet, xRetN, xSeq, xSet, xIf, xDrop, xNil, xBind, xNo, xPut, xPar, putAll, putV, mAndV, mOrV, mNotB, mAndT, mOrT, mNotT, mTestB, mTruth, truth, mIf, mFn, mFnIO, mConsA, mNilA, mConsD, mNilD, mConsV, mNilV, mStarD, items, mArg, mRet, retV, argV, mVar, mFz, mCall, mUn, lookAll, lookL, scal_non, scal_bl, scal_int, scal_str, scal_tup, scal_lst, scal_own, mChain, mBin, hold, look, mutAt, Slot.mut, mTup, mLst, mMut, mMth, mSlice, mNoO, mSomeO, mIsi, setC, tyOf, LINE, dLe, dLt, dGt, dGe, dAdd, dSub, dMul, dDiv, dMod, dNeg, bName, bTup, bCons, bNil, hc, dTuple]
  · obtain ⟨f, _, rfl⟩ := List.mem_map.mp hx
    exact Nat.mod_lt _ (by omega)
theorem square_1 {c : Nat} {pot : D} (hp : Pot c pot) (hc : c ≤ 1000000) (hb1 : 1 ≤ b) (hb : b ≤ 16) {st : Nat} (hst : st ≤ 5000) {s2 s3 s4 s5 s6 s7 : Slot} :
    ∃ (sq : List (List Nat)) (pot' : D), mComp (iRange1 (mConsD (mVar 1) mNilD)) (bName 8) mYes x__law_rule_5 [8] [.io pot, .fz (.int (b : Nat)), s2, s3, s4, s5, s6, s7, .em, .fz (.int (st : Nat)), .em] =
      some (.own (.lst (sq.map rowD)), [.io pot', .fz (.int (b : Nat)), s2, s3, s4, s5, s6, s7, .em, .fz (.int (st : Nat)), .em]) ∧ Rect b b b sq ∧ Pot c pot' := by
  obtain ⟨xs, pot', e1, l1, p1, hp1⟩ := mComp_st (fi := iRange1 (mConsD (mVar 1) mNilD)) (E := fun pot => [.io pot, .fz (.int (b : Nat)), s2, s3, s4, s5, s6, s7, .em, .fz (.int (st : Nat)), .em]) (P := RowOf b b) (m := 0) (B := 1000000) (el := x__law_rule_5) (i := 8) (c := c) (range_src b (by omega)) rfl (fun _ => rfl) (fun _ => by simp) (fun d hd c pot hp hc => by
    obtain ⟨f, hf, rfl⟩ := List.mem_map.mp hd
    obtain ⟨r, e, h1, h2⟩ := rule_5 (b := b) hb1 hb hst (row := f) (io_take (u := b) hp) (s2 := s2) (s3 := s3) (s4 := s4) (s5 := s5) (s6 := s6) (s7 := s7)
    exact ⟨rowD r, pot, e, ⟨r, rfl, h1, h2⟩, hp⟩) hp (by omega) (by rw [List.length_map, List.length_range]; unfold LINE; omega)
  rw [List.length_map, List.length_range] at l1 hp1
  obtain ⟨rs, rfl, hr⟩ := rows_rect p1
  rw [l1] at hr
  rw [Nat.zero_mul] at hp1
  exact ⟨rs, pot', e1, hr, hp1⟩
theorem draw_ws {c : Nat} {pot : D} (hp : Pot c pot) (hc : c + n ≤ 1000000) (hn : n ≤ 12) (hw : 1 ≤ w) (hw2 : w ≤ 5000) {s1 s4 s5 s7 s8 s9 s10 : Slot} :
    ∃ (r : List Nat) (pot' : D), mComp (iRange1 (mConsD (mVar 2) mNilD)) (bName 6) mYes x__law_rule_3 [6] [.io pot, s1, .fz (.int (n : Nat)), .fz (.int (w : Nat)), s4, s5, .em, s7, s8, s9, s10] = some (.own (.lst (r.map figD)), [.io pot', s1, .fz (.int (n : Nat)), .fz (.int (w : Nat)), s4, s5, .em, s7, s8, s9, s10]) ∧ r.length = n ∧ Below w r ∧ Pot (c + n) pot' := by
  obtain ⟨xs, pot', e1, l1, p1, hp1⟩ := mComp_st (fi := iRange1 (mConsD (mVar 2) mNilD)) (E := fun pot => [.io pot, s1, .fz (.int (n : Nat)), .fz (.int (w : Nat)), s4, s5, .em, s7, s8, s9, s10]) (P := Fig w) (m := 1) (B := 1000000) (el := x__law_rule_3) (i := 6) (c := c) (range_src2 n (by omega)) rfl (fun _ => rfl) (fun _ => by simp) (fun d hd c pot hp hc => by
    obtain ⟨x, pot', e, hx, hp'⟩ := take_ok hp (by omega) hw hw2
    refine ⟨figD x, pot', ?_, ⟨x, rfl, hx⟩, hp'⟩
    obtain ⟨a, y, k, rfl⟩ := io_take (u := w) hp
    show mRet x__law_rule_3 [.io (.lst [.int a, .int y, .int k]), s1, .fz (.int (n : Nat)), .fz (.int (w : Nat)), s4, s5, .fz d, s7, s8, s9, s10] = some (.fz (figD x), [.io pot', s1, .fz (.int (n : Nat)), .fz (.int (w : Nat)), s4, s5, .fz d, s7, s8, s9, s10])
    unfold x__law_rule_3
    simp [freezeAll, runN, runIO, endN, endIO, endV, xRet, xRetN, xSeq, xSet, xIf, xDrop, xNil, xBind, xNo, xPut, xPar, putAll, putV, mAndV, mOrV, mNotB, mAndT, mOrT, mNotT, mTestB, mTruth, truth, mIf, mFn, mFnIO, mConsA, mNilA, mConsD, mNilD, mConsV, mNilV, mStarD, items, mArg, mRet, retV, argV, mVar, mFz, mCall, mUn, lookAll, lookL, scal_non, scal_bl, scal_int, scal_str, scal_tup, scal_lst, scal_own, mChain, mBin, hold, look, mutAt, Slot.mut, mTup, mLst, mMut, mMth, mSlice, mNoO, mSomeO, mIsi, setC, tyOf, LINE, dLe, dLt, dGt, dGe, dAdd, dSub, dMul, dDiv, dMod, dNeg, bName, bTup, bCons, bNil, e, figD]) hp (by rw [List.length_map, List.length_range]; omega) (by rw [List.length_map, List.length_range]; unfold LINE; omega)
  rw [List.length_map, List.length_range] at l1 hp1
  obtain ⟨r, rfl, hr⟩ := figs_row p1
  rw [List.length_map] at l1
  exact ⟨r, pot', e1, l1, hr, by rw [Nat.one_mul] at hp1; exact hp1⟩
/-- one row of a table of rows -/
theorem tab_1 {c : Nat} {pot : D} (hp : Pot c pot) (hc : c + 2 * b ≤ 1000000) (hb1 : 1 ≤ b) (hb : b ≤ 16) (hw : 1 ≤ w) (hw2 : w ≤ 5000) {acc : List (List Nat)} (hacc : acc.length ≤ 100) {s6 s7 s8 s9 : Slot} :
    ∃ (r : List Nat) (pot' : D) (s8' : Slot), x__law_rule_2 [.io pot, .fz (.int (b : Nat)), .fz (.int (n : Nat)), .fz (.int (w : Nat)), .fz (.int (way : Nat)), .own (.lst (acc.map rowD)), s6, s7, s8, s9, .em] =
      some (.nx [.io pot', .fz (.int (b : Nat)), .fz (.int (n : Nat)), .fz (.int (w : Nat)), .fz (.int (way : Nat)), .own (.lst ((acc ++ [r]).map rowD)), s6, s7, s8', s9, .em]) ∧ r.length = b ∧ Below w r ∧ Pot (c + 2 * b) pot' := by
  obtain ⟨r, pot1, e, l1, h1, p1⟩ := draw_row (el := x__law_rule_1) (fi := iRange1 (mConsD (mVar 1) mNilD)) (u := w) (b := b) (s1 := .fz (.int (b : Nat))) (s2 := .fz (.int (n : Nat))) (s3 := .fz (.int (w : Nat))) (s4 := .fz (.int (way : Nat))) (s5 := .own (.lst (acc.map rowD))) (s6 := s6) (s7 := s7) (s8 := s8) (s9 := s9) (s10 := .em) hp (by omega) (by omega) hw hw2 (range_src b (by omega)) (fun _ _ => rfl)
  have ga : ∀ r : List Nat, gAppend (.lst (acc.map rowD)) [rowD r] = some (.non, .lst ((acc ++ [r]).map rowD)) := fun r => by
    show (if (acc.map rowD).length < LINE then some (D.non, D.lst (acc.map rowD ++ [rowD r])) else none) = _
    rw [if_pos (by rw [List.length_map]; unfold LINE; omega), List.map_append]; rfl
  have e3 : dEq (.int (way : Nat)) (.int 3) = some (.fz (.bl (decide (way = 3)))) := eqNat way 3
  have ew := eqNat w b
  obtain ⟨a, x, k, rfl⟩ := io_take (u := w) hp
  obtain ⟨a1, x1, k1, rfl⟩ := io_take (u := w) p1
  by_cases hcond : way = 3 ∧ w = b
  · obtain ⟨h3, h4⟩ := hcond
    obtain ⟨pot2, r2, e2, g1, g2, g3⟩ := m__law_some_ok p1 (b := b) (by omega) (by omega)
    have rb : RgB 0 (b : Nat) = true := by
      unfold RgB
      rw [Bool.and_eq_true, Bool.and_eq_true]
      exact ⟨⟨rfl, b62_nat (by omega)⟩, decide_eq_true (by omega)⟩
    have eg : rangeD 0 1 ((b : Nat) : Int).toNat = (List.range b).map figD := by rw [Int.toNat_natCast, rangeD_eq]; rfl
    have eg' : rangeD 0 1 b = (List.range b).map figD := by rw [rangeD_eq]; rfl
    have gar := ga r2
    refine ⟨r2, pot2, .own (.lst (r.map figD)), ?_, g2, by rw [h4]; exact g3, by rw [show c + 2 * b = c + b + b by omega]; exact g1⟩
    rw [decide_eq_true h3] at e3
    rw [decide_eq_true h4] at ew
    obtain ⟨a2, x2, k2, rfl⟩ := io_take (u := w) g1
    unfold x__law_rule_2 mLr1
    unfold rowD at gar
    unfold rowD
    unfold rowD at e
    simp [freezeAll, runN, runIO, endN, endIO, endV, xRet, xRetN, xSeq, xSet, xIf, xDrop, xNil, xBind, xNo, xPut, xPar, putAll, putV, mAndV, mOrV, mNotB, mAndT, mOrT, mNotT, mTestB, mTruth, truth, mIf, mFn, mFnIO, mConsA, mNilA, mConsD, mNilD, mConsV, mNilV, mStarD, items, mArg, mRet, retV, argV, mVar, mFz, mCall, mUn, lookAll, lookL, scal_non, scal_bl, scal_int, scal_str, scal_tup, scal_lst, scal_own, mChain, mBin, hold, look, mutAt, Slot.mut, mTup, mLst, mMut, mMth, mSlice, mNoO, mSomeO, mIsi, setC, tyOf, LINE, dLe, dLt, dGt, dGe, dAdd, dSub, dMul, dDiv, dMod, dNeg, bName, bTup, bCons, bNil, e, e3, ew, e2, rb, eg', dTuple, gar, -List.map_append]
  · refine ⟨r, _, .own (.lst (r.map figD)), ?_, l1, h1, p1.mono (by omega)⟩
    have gar := ga r
    unfold x__law_rule_2
    unfold rowD at gar
    unfold rowD
    unfold rowD at e
    by_cases h3 : way = 3
    · have h4 : ¬ w = b := fun z => hcond ⟨h3, z⟩
      rw [decide_eq_true h3] at e3
      rw [decide_eq_false h4] at ew
      simp [freezeAll, runN, runIO, endN, endIO, endV, xRet, xRetN, xSeq, xSet, xIf, xDrop, xNil, xBind, xNo, xPut, xPar, putAll, putV, mAndV, mOrV, mNotB, mAndT, mOrT, mNotT, mTestB, mTruth, truth, mIf, mFn, mFnIO, mConsA, mNilA, mConsD, mNilD, mConsV, mNilV, mStarD, items, mArg, mRet, retV, argV, mVar, mFz, mCall, mUn, lookAll, lookL, scal_non, scal_bl, scal_int, scal_str, scal_tup, scal_lst, scal_own, mChain, mBin, hold, look, mutAt, Slot.mut, mTup, mLst, mMut, mMth, mSlice, mNoO, mSomeO, mIsi, setC, tyOf, LINE, dLe, dLt, dGt, dGe, dAdd, dSub, dMul, dDiv, dMod, dNeg, bName, bTup, bCons, bNil, e, e3, ew, dTuple, gar, -List.map_append]
    · rw [decide_eq_false h3] at e3
      simp [freezeAll, runN, runIO, endN, endIO, endV, xRet, xRetN, xSeq, xSet, xIf, xDrop, xNil, xBind, xNo, xPut, xPar, putAll, putV, mAndV, mOrV, mNotB, mAndT, mOrT, mNotT, mTestB, mTruth, truth, mIf, mFn, mFnIO, mConsA, mNilA, mConsD, mNilD, mConsV, mNilV, mStarD, items, mArg, mRet, retV, argV, mVar, mFz, mCall, mUn, lookAll, lookL, scal_non, scal_bl, scal_int, scal_str, scal_tup, scal_lst, scal_own, mChain, mBin, hold, look, mutAt, Slot.mut, mTup, mLst, mMut, mMth, mSlice, mNoO, mSomeO, mIsi, setC, tyOf, LINE, dLe, dLt, dGt, dGe, dAdd, dSub, dMul, dDiv, dMod, dNeg, bName, bTup, bCons, bNil, e, e3, dTuple, gar, -List.map_append]
end
end Pv
end

section
set_option maxRecDepth 100000
set_option maxHeartbeats 4000000
namespace Pv
open PySem PySem.Spec L2 PyProof.Rows
section
variable {b n w way : Nat}
theorem tab_2 (hb1 : 1 ≤ b) (hb : b ≤ 16) (hw : 1 ≤ w) (hw2 : w ≤ 5000) : ∀ (xs : List D) {c : Nat} {pot : D} {acc : List (List Nat)} {s6 s7 s8 s9 : Slot}, Pot c pot → c + 2 * b * xs.length ≤ 1000000 → acc.length + xs.length ≤ 100 → Rect acc.length b w acc →
    ∃ (ts : List (List Nat)) (pot' : D) (s6' s8' : Slot), loopF (bName 6) x__law_rule_2 xs [.io pot, .fz (.int (b : Nat)), .fz (.int (n : Nat)), .fz (.int (w : Nat)), .fz (.int (way : Nat)), .own (.lst (acc.map rowD)), s6, s7, s8, s9, .em] =
      some (.nx [.io pot', .fz (.int (b : Nat)), .fz (.int (n : Nat)), .fz (.int (w : Nat)), .fz (.int (way : Nat)), .own (.lst (ts.map rowD)), s6', s7, s8', s9, .em]) ∧ Rect (acc.length + xs.length) b w ts ∧ Pot (c + 2 * b * xs.length) pot'
  | [], c, pot, acc, s6, s7, s8, s9, hp, _, _, hr => ⟨acc, pot, s6, s8, rfl, hr, by rw [List.length_nil, Nat.mul_zero]; exact hp⟩
  | x :: xs, c, pot, acc, s6, s7, s8, s9, hp, hc, hl, hr => by
    rw [List.length_cons, Nat.mul_succ] at hc
    rw [List.length_cons] at hl
    obtain ⟨r, pot1, t8, e1, l1, h1, p1⟩ := tab_1 (n := n) (way := way) hp (by omega) hb1 hb hw hw2 (acc := acc) (by omega) (s6 := .fz x) (s7 := s7) (s8 := s8) (s9 := s9)
    have hr2 : Rect (acc ++ [r]).length b w (acc ++ [r]) := ⟨rfl, fun y hy => by
      rcases List.mem_append.mp hy with q | q
      · exact hr.2 y q
      · rw [List.mem_singleton] at q; rw [q]; exact ⟨l1, h1⟩⟩
    obtain ⟨ts, pot', u6, u8, e2, h2, p2⟩ := tab_2 hb1 hb hw hw2 xs (acc := acc ++ [r]) (s6 := .fz x) (s7 := s7) (s8 := t8) (s9 := s9) p1 (by omega) (by rw [List.length_append, List.length_singleton]; omega) hr2
    refine ⟨ts, pot', u6, u8, ?_, ?_, by rw [List.length_cons, Nat.mul_succ, show c + (2 * b * xs.length + 2 * b) = c + 2 * b + 2 * b * xs.length by omega]; exact p2⟩
    · have b1 : bName 6 x [.io pot, .fz (.int (b : Nat)), .fz (.int (n : Nat)), .fz (.int (w : Nat)), .fz (.int (way : Nat)), .own (.lst (acc.map rowD)), s6, s7, s8, s9, .em] = some [.io pot, .fz (.int (b : Nat)), .fz (.int (n : Nat)), .fz (.int (w : Nat)), .fz (.int (way : Nat)), .own (.lst (acc.map rowD)), .fz x, s7, s8, s9, .em] := rfl
      unfold loopF
      rw [b1]
      dsimp only
      rw [e1]
      exact e2
    · rw [List.length_append, List.length_singleton] at h2
      rw [List.length_cons, show acc.length + (xs.length + 1) = acc.length + 1 + xs.length by omega]
      exact h2
/-- the rule that is drawn -/
theorem law_rule_ok {c : Nat} {pot : D} (hp : Pot c pot) (hc : c + 1000 ≤ 1000000) (hb : 2 ≤ b) (hb2 : b ≤ 16) (hn : 1 ≤ n) (hn2 : n ≤ 12) :
    ∃ (q : D) (A : Auto) (pot' : D), m__law_rule [pot, .int (b : Nat), .int (n : Nat)] = some ⟨.fz q, pot'⟩ ∧ Fine b n q A ∧ Pot (c + 1000) pot' ∧ scal (.fz q) = false := by
  -- the whole
  obtain ⟨x, pot1, e1, hx, p1⟩ := take_ok hp (by omega) (u := 9) (by omega) (by omega)
  obtain ⟨i, wv, pot2, e2, hi, p2⟩ := of_ok p1 (by omega) (xs := [.int (b : Nat), .int (b : Nat), .int (2 + (x : Nat))]) (by simp) (by simp)
  have hwv : ∃ w : Nat, wv = .int (w : Nat) ∧ 2 ≤ w ∧ w ≤ 97 := by
    match i, hi with
    | 0, hi => cases hi; exact ⟨b, rfl, hb, by omega⟩
    | 1, hi => cases hi; exact ⟨b, rfl, hb, by omega⟩
    | 2, hi => cases hi; exact ⟨2 + x, by rw [Int.natCast_add]; rfl, by omega, by omega⟩
    | i + 3, hi => simp at hi
  obtain ⟨w, rfl, hw, hw2⟩ := hwv
  obtain ⟨way, pot3, e3, hway, p3⟩ := take_ok p2 (by omega) (u := 5) (by omega) (by omega)
  obtain ⟨a0, x0, k0, ep⟩ := io_take (u := w) hp
  obtain ⟨a1, x1, k1, ep1⟩ := io_take (u := w) p1
  obtain ⟨a2, x2, k2, ep2⟩ := io_take (u := w) p2
  obtain ⟨a3, x3, k3, ep3⟩ := io_take (u := w) p3
  have w0' : dEq (.int (way : Nat)) (.int 0) = some (.fz (.bl (decide (way = 0)))) := eqNat way 0
  have w1' : dEq (.int (way : Nat)) (.int 1) = some (.fz (.bl (decide (way = 1)))) := eqNat way 1
  have w2' : dEq (.int (way : Nat)) (.int 2) = some (.fz (.bl (decide (way = 2)))) := eqNat way 2
  have e1' : m__law_take [pot, .int 9] = _ := e1
  have e3' : m__law_take [pot2, .int 5] = _ := e3
  by_cases h0 : way = 0
  · obtain ⟨d, pot4, e4, hd, p4⟩ := take_ok p3 (by omega) (u := w) (by omega) (by omega)
    refine ⟨vD b w d, _, pot4, ?_, fine_v hb hb2 hw hw2 hd hn hn2, p4.mono (by omega), rfl⟩
    obtain ⟨a4, x4, k4, ep4⟩ := io_take (u := w) p4
    rw [decide_eq_true h0] at w0'
    subst ep ep1 ep2 ep3 ep4
    unfold m__law_rule x__law_rule
    simp [freezeAll, runN, runIO, endN, endIO, endV, xRet, xRetN, xSeq, xSet, xIf, xDrop, xNil, xBind, xNo, xPut, xPar, putAll, putV, mAndV, mOrV, mNotB, mAndT, mOrT, mNotT, mTestB, mTruth, truth, mIf, mFn, mFnIO, mConsA, mNilA, mConsD, mNilD, mConsV, mNilV, mStarD, items, mArg, mRet, retV, argV, mVar, mFz, mCall, mUn, lookAll, lookL, scal_non, scal_bl, scal_int, scal_str, scal_tup, scal_lst, scal_own, mChain, mBin, hold, look, mutAt, Slot.mut, mTup, mLst, mMut, mMth, mSlice, mNoO, mSomeO, mIsi, setC, tyOf, LINE, dLe, dLt, dGt, dGe, dAdd, dSub, dMul, dDiv, dMod, dNeg, bName, bTup, bCons, bNil, e1', e2, e3', e4, w0', List.replicate, vD]
  · rw [decide_eq_false h0] at w0'
    by_cases h1 : way = 1
    · rw [decide_eq_true h1] at w1'
      have bb : b * b ≤ 16 * 16 := Nat.mul_le_mul hb2 hb2
      obtain ⟨sq, pot4, e4, r4, p4⟩ := square_0 (b := b) p3 (by omega) (by omega) hb2 (s2 := .fz (.int (n : Nat))) (s3 := .fz (.int (w : Nat))) (s4 := .fz (.int (way : Nat))) (s5 := .em) (s6 := .em) (s7 := .em) (s9 := .em)
      obtain ⟨coin, pot5, e5, hcoin, p5⟩ := take_ok p4 (by omega) (u := 2) (by omega) (by omega)
      have e5' : m__law_take [pot4, .int 2] = _ := e5
      have c0 : dEq (.int (coin : Nat)) (.int 0) = some (.fz (.bl (decide (coin = 0)))) := eqNat coin 0
      obtain ⟨a4, x4, k4, ep4⟩ := io_take (u := w) p4
      obtain ⟨a5, x5, k5, ep5⟩ := io_take (u := w) p5
      by_cases hc0 : coin = 0
      · rw [decide_eq_true hc0] at c0
        obtain ⟨y, pot6, e6, hy, p6⟩ := take_ok p5 (by omega) (u := b - 1) (by omega) (by omega)
        have eb1 : (((b - 1 : Nat)) : Int) = (b : Int) - 1 := by omega
        rw [eb1] at e6
        obtain ⟨sq2, pot7, e7, r7, p7⟩ := square_1 (b := b) p6 (by omega) (by omega) hb2 (st := 1 + y) (by omega) (s2 := .fz (.int (n : Nat))) (s3 := .fz (.int (w : Nat))) (s4 := .fz (.int (way : Nat))) (s5 := .em) (s6 := .em) (s7 := .fz (.tup (sq.map rowD)))
        have ey : ((1 + y : Nat) : Int) = 1 + (y : Int) := by omega
        rw [ey] at e7
        obtain ⟨st, pot8, e8, hst, p8⟩ := take_ok p7 (by omega) (u := b) (by omega) (by omega)
        obtain ⟨en, pot9, e9, hen, p9⟩ := take_ok p8 (by omega) (u := b) (by omega) (by omega)
        refine ⟨qD b sq2 st en, _, pot9, ?_, fine_q hb hb2 hst hen hn hn2 r7, p9.mono (by omega), rfl⟩
        obtain ⟨a6, x6, k6, ep6⟩ := io_take (u := w) p6
        obtain ⟨a7, x7, k7, ep7⟩ := io_take (u := w) p7
        obtain ⟨a8, x8, k8, ep8⟩ := io_take (u := w) p8
        obtain ⟨a9, x9, k9, ep9⟩ := io_take (u := w) p9
        subst ep ep1 ep2 ep3 ep4 ep5 ep6 ep7 ep8 ep9
        unfold m__law_rule x__law_rule
        simp [freezeAll, runN, runIO, endN, endIO, endV, xRet, xRetN, xSeq, xSet, xIf, xDrop, xNil, xBind, xNo, xPut, xPar, putAll, putV, mAndV, mOrV, mNotB, mAndT, mOrT, mNotT, mTestB, mTruth, truth, mIf, mFn, mFnIO, mConsA, mNilA, mConsD, mNilD, mConsV, mNilV, mStarD, items, mArg, mRet, retV, argV, mVar, mFz, mCall, mUn, lookAll, lookL, scal_non, scal_bl, scal_int, scal_str, scal_tup, scal_lst, scal_own, mChain, mBin, hold, look, mutAt, Slot.mut, mTup, mLst, mMut, mMth, mSlice, mNoO, mSomeO, mIsi, setC, tyOf, LINE, dLe, dLt, dGt, dGe, dAdd, dSub, dMul, dDiv, dMod, dNeg, bName, bTup, bCons, bNil, e1', e2, e3', w0', w1', e4, e5', c0, e6, e7, e8, e9, dTuple, List.replicate, qD]
      · rw [decide_eq_false hc0] at c0
        obtain ⟨st, pot8, e8, hst, p8⟩ := take_ok p5 (by omega) (u := b) (by omega) (by omega)
        obtain ⟨en, pot9, e9, hen, p9⟩ := take_ok p8 (by omega) (u := b) (by omega) (by omega)
        refine ⟨qD b sq st en, _, pot9, ?_, fine_q hb hb2 hst hen hn hn2 r4, p9.mono (by omega), rfl⟩
        obtain ⟨a8, x8, k8, ep8⟩ := io_take (u := w) p8
        obtain ⟨a9, x9, k9, ep9⟩ := io_take (u := w) p9
        subst ep ep1 ep2 ep3 ep4 ep5 ep8 ep9
        unfold m__law_rule x__law_rule
        simp [freezeAll, runN, runIO, endN, endIO, endV, xRet, xRetN, xSeq, xSet, xIf, xDrop, xNil, xBind, xNo, xPut, xPar, putAll, putV, mAndV, mOrV, mNotB, mAndT, mOrT, mNotT, mTestB, mTruth, truth, mIf, mFn, mFnIO, mConsA, mNilA, mConsD, mNilD, mConsV, mNilV, mStarD, items, mArg, mRet, retV, argV, mVar, mFz, mCall, mUn, lookAll, lookL, scal_non, scal_bl, scal_int, scal_str, scal_tup, scal_lst, scal_own, mChain, mBin, hold, look, mutAt, Slot.mut, mTup, mLst, mMut, mMth, mSlice, mNoO, mSomeO, mIsi, setC, tyOf, LINE, dLe, dLt, dGt, dGe, dAdd, dSub, dMul, dDiv, dMod, dNeg, bName, bTup, bCons, bNil, e1', e2, e3', w0', w1', e4, e5', c0, e8, e9, dTuple, List.replicate, qD]
    · rw [decide_eq_false h1] at w1'
      by_cases h2 : way = 2
      · rw [decide_eq_true h2] at w2'
        obtain ⟨ws, pot4, e4, l4, b4, p4⟩ := draw_ws (n := n) (w := w) p3 (by omega) hn2 (by omega) (by omega) (s1 := .fz (.int (b : Nat))) (s4 := .fz (.int (way : Nat))) (s5 := .em) (s7 := .em) (s8 := .em) (s9 := .em) (s10 := .em)
        obtain ⟨d, pot5, e5, hd, p5⟩ := take_ok p4 (by omega) (u := w) (by omega) (by omega)
        refine ⟨wD b w ws d, _, pot5, ?_, fine_w hb hb2 hw hw2 hd hn hn2 l4 b4, p5.mono (by omega), rfl⟩
        obtain ⟨a4, x4, k4, ep4⟩ := io_take (u := w) p4
        obtain ⟨a5, x5, k5, ep5⟩ := io_take (u := w) p5
        subst ep ep1 ep2 ep3 ep4 ep5
        unfold m__law_rule x__law_rule
        simp [freezeAll, runN, runIO, endN, endIO, endV, xRet, xRetN, xSeq, xSet, xIf, xDrop, xNil, xBind, xNo, xPut, xPar, putAll, putV, mAndV, mOrV, mNotB, mAndT, mOrT, mNotT, mTestB, mTruth, truth, mIf, mFn, mFnIO, mConsA, mNilA, mConsD, mNilD, mConsV, mNilV, mStarD, items, mArg, mRet, retV, argV, mVar, mFz, mCall, mUn, lookAll, lookL, scal_non, scal_bl, scal_int, scal_str, scal_tup, scal_lst, scal_own, mChain, mBin, hold, look, mutAt, Slot.mut, mTup, mLst, mMut, mMth, mSlice, mNoO, mSomeO, mIsi, setC, tyOf, LINE, dLe, dLt, dGt, dGe, dAdd, dSub, dMul, dDiv, dMod, dNeg, bName, bTup, bCons, bNil, e1', e2, e3', w0', w1', w2', e4, e5, dTuple, List.replicate, wD, rowD]
      · rw [decide_eq_false h2] at w2'
        have bn : 2 * b * n ≤ 2 * 16 * 12 := Nat.mul_le_mul (by omega) hn2
        have e4s := tab_2 (b := b) (n := n) (w := w) (way := way) (by omega) hb2 (by omega) (by omega) ((List.range n).map figD) (c := c + 1 + 1 + 1) (pot := pot3) (acc := []) (s6 := .em) (s7 := .em) (s8 := .em) (s9 := .em) p3 (by rw [List.length_map, List.length_range]; omega) (by rw [List.length_map, List.length_range, List.length_nil]; omega) ⟨rfl, fun r h => by cases h⟩
        rw [List.length_map, List.length_range, List.length_nil, Nat.zero_add] at e4s
        obtain ⟨ts, pot4, u6, u8, e4, r4, p4⟩ := e4s
        have e4 : loopF (bName 6) x__law_rule_2 ((List.range n).map figD) [.io pot3, .fz (.int (b : Nat)), .fz (.int (n : Nat)), .fz (.int (w : Nat)), .fz (.int (way : Nat)), .own (.lst []), .em, .em, .em, .em, .em] = _ := e4
        have src := fun pot => range_src2 n (by omega) (pot := pot) (s1 := .fz (.int (b : Nat))) (s3 := .fz (.int (w : Nat))) (s4 := .fz (.int (way : Nat))) (s5 := .own (.lst [])) (s6 := .em) (s7 := .em) (s8 := .em) (s9 := .em) (s10 := .em)
        obtain ⟨d, pot5, e5, hd, p5⟩ := take_ok p4 (by omega) (u := w) (by omega) (by omega)
        refine ⟨tD b w ts d, _, pot5, ?_, fine_t hb hb2 hw hw2 hd hn hn2 r4, p5.mono (by omega), rfl⟩
        obtain ⟨a4, x4, k4, ep4⟩ := io_take (u := w) p4
        obtain ⟨a5, x5, k5, ep5⟩ := io_take (u := w) p5
        subst ep ep1 ep2 ep3 ep4 ep5
        unfold m__law_rule x__law_rule xFor
        simp [freezeAll, runN, runIO, endN, endIO, endV, xRet, xRetN, xSeq, xSet, xIf, xDrop, xNil, xBind, xNo, xPut, xPar, putAll, putV, mAndV, mOrV, mNotB, mAndT, mOrT, mNotT, mTestB, mTruth, truth, mIf, mFn, mFnIO, mConsA, mNilA, mConsD, mNilD, mConsV, mNilV, mStarD, items, mArg, mRet, retV, argV, mVar, mFz, mCall, mUn, lookAll, lookL, scal_non, scal_bl, scal_int, scal_str, scal_tup, scal_lst, scal_own, mChain, mBin, hold, look, mutAt, Slot.mut, mTup, mLst, mMut, mMth, mSlice, mNoO, mSomeO, mIsi, setC, tyOf, LINE, dLe, dLt, dGt, dGe, dAdd, dSub, dMul, dDiv, dMod, dNeg, bName, bTup, bCons, bNil, e1', e2, e3', w0', w1', w2', src, e4, e5, dTuple, List.replicate, tD]
end
end Pv
end

section
set_option maxRecDepth 100000
set_option maxHeartbeats 4000000
namespace Pv
open PySem PySem.Spec L2 PyProof.Rows

/-! ### the text of a row of pairs -/
def pairD (x : Int × Int) : D := .tup [.int x.1, .int x.2]
def pairP (x : Int × Int) : PyData := .tuple [.int x.1, .int x.2]
def Few (x : Int × Int) : Prop := (0 ≤ x.1 ∧ x.1 ≤ 5000) ∧ 0 ≤ x.2 ∧ x.2 ≤ 5000
theorem few_log {i : Int} (h : 0 ≤ i ∧ i ≤ 5000) : i.natAbs.log2 < 13 := PySem.Flt.log2_lt_of (by decide) (by omega)
theorem few_int {i : Int} (h : 0 ≤ i ∧ i ≤ 5000) : (PyData.int i).showable = true ∧ (PyData.int i).leavesShort 8 = true ∧ (PyData.int i).weight ≤ 14 := by
  have hl := few_log h
  refine ⟨decide_eq_true (by omega), decide_eq_true ?_, ?_⟩
  · show (PySem.Str.ofString (toString i)).length ≤ 8
    rw [PySem.ofString_length]
    have := int_text_length_le10 (a := i) (k := 4) (by decide) (by omega)
    omega
  · unfold PyData.weight
    split <;> omega
theorem pair_facts {x : Int × Int} (h : Few x) : (pairP x).showable = true ∧ (pairP x).leavesShort 8 = true ∧ (pairP x).weight ≤ 30 ∧ (pairP x).depth ≤ 1 ∧ (pairP x).hasDict = false := by
  obtain ⟨a1, a2, a3⟩ := few_int h.1
  obtain ⟨b1, b2, b3⟩ := few_int h.2
  refine ⟨?_, ?_, ?_, ?_, ?_⟩
  · show ((PyData.int x.1).showable && ((PyData.int x.2).showable && true)) = true
    rw [a1, b1]; rfl
  · show ((PyData.int x.1).leavesShort 8 && ((PyData.int x.2).leavesShort 8 && true)) = true
    rw [a2, b2]; rfl
  · show (PyData.int x.1).weight + 1 + ((PyData.int x.2).weight + 1 + 0) ≤ 30
    omega
  · show max 0 (max 0 0) + 1 ≤ 1
    decide
  · rfl
theorem pairs_facts : ∀ {xs : List (Int × Int)}, (∀ x ∈ xs, Few x) → PyData.showableAll (xs.map pairP) = true ∧ PyData.leavesShortAll 8 (xs.map pairP) = true ∧ PyData.weightAll (xs.map pairP) ≤ 31 * xs.length ∧ PyData.depthAll (xs.map pairP) ≤ 1 ∧ PyData.hasDictAll (xs.map pairP) = false
  | [], _ => ⟨rfl, rfl, Nat.le_refl _, Nat.zero_le _, rfl⟩
  | x :: xs, h => by
    obtain ⟨a1, a2, a3, a4, a5⟩ := pair_facts (h x List.mem_cons_self)
    obtain ⟨b1, b2, b3, b4, b5⟩ := pairs_facts (xs := xs) fun y hy => h y (List.mem_cons_of_mem _ hy)
    rw [List.map_cons, List.length_cons]
    refine ⟨?_, ?_, ?_, ?_, ?_⟩
    · show ((pairP x).showable && PyData.showableAll (xs.map pairP)) = true
      rw [a1, b1]; rfl
    · show ((pairP x).leavesShort 8 && PyData.leavesShortAll 8 (xs.map pairP)) = true
      rw [a2, b2]; rfl
    · show (pairP x).weight + 1 + PyData.weightAll (xs.map pairP) ≤ _
      omega
    · show max (pairP x).depth (PyData.depthAll (xs.map pairP)) ≤ 1
      omega
    · show ((pairP x).hasDict || PyData.hasDictAll (xs.map pairP)) = false
      rw [a5, b5]; rfl
theorem toPy_pairs (xs : List (Int × Int)) : toPy (.tup (xs.map pairD)) = some (.tuple (xs.map pairP)) := toPy_tupOf (toPyAll_map xs pairD pairP fun _ _ => rfl)
theorem repr_pairs {xs : List (Int × Int)} (h : ∀ x ∈ xs, Few x) (hl : xs.length ≤ 100) : dRepr [.tup (xs.map pairD)] = some (.fz (.str (PyData.tuple (xs.map pairP)).shown)) := by
  obtain ⟨b1, b2, b3, b4, b5⟩ := pairs_facts h
  have s1 : (PyData.tuple (xs.map pairP)).showable = true := b1
  have s2 : (PyData.tuple (xs.map pairP)).hasDict = false := b5
  have s3 : (PyData.tuple (xs.map pairP)).depth ≤ 60 := by
    show PyData.depthAll (xs.map pairP) + 1 ≤ 60
    omega
  have s4 : (PyData.tuple (xs.map pairP)).shown.length ≤ LINE := by
    have := PyData.shown_le 8 (by decide) (PyData.tuple (xs.map pairP)) b2
    have w : (PyData.tuple (xs.map pairP)).weight ≤ 31 * xs.length := b3
    unfold LINE
    omega
  show (match toPy (.tup (xs.map pairD)) with
    | some p => if PyData.showable p && decide (p.shown.length ≤ LINE) && decide (p.depth ≤ 60) && !p.hasDict then some (Val.fz (.str p.shown)) else none
    | none => none) = _
  rw [toPy_pairs]
  dsimp only
  rw [s1, s2, decide_eq_true s3, decide_eq_true s4]
  rfl
mutual
theorem eqv_self : ∀ d : PyData, d.hasDict = false → PyData.eqv d d = true
  | .none, _ => rfl
  | .bool b, _ => by cases b <;> rfl
  | .int i, _ => beq_self_eq_true i
  | .str x, _ => beq_self_eq_true x
  | .list xs, h => eqv_selfAll xs h
  | .tuple xs, h => eqv_selfAll xs h
  | .dict _, h => by cases h
theorem eqv_selfAll : ∀ ds : List PyData, PyData.hasDictAll ds = false → PyData.eqvAll ds ds = true
  | [], _ => rfl
  | d :: ds, h => by
    have h : (d.hasDict || PyData.hasDictAll ds) = false := h
    rw [Bool.or_eq_false_iff] at h
    show (PyData.eqv d d && PyData.eqvAll ds ds) = true
    rw [eqv_self d h.1, eqv_selfAll ds h.2]; rfl
end
theorem ne_pairs {xs : List (Int × Int)} (h : ∀ x ∈ xs, Few x) : dNe (.tup (xs.map pairD)) (.tup (xs.map pairD)) = some (.fz (.bl false)) := by
  obtain ⟨b1, b2, b3, b4, b5⟩ := pairs_facts h
  have sh : SeqAt.shaped (.tuple (xs.map pairP)) = true := by
    unfold SeqAt.shaped
    rw [Bool.and_eq_true]
    refine ⟨lay_map xs pairP fun _ _ => rfl, decide_eq_true ?_⟩
    show PyData.depthAll (xs.map pairP) + 1 ≤ 64
    omega
  have es := eqv_self (.tuple (xs.map pairP)) b5
  show (match eqD (.tup (xs.map pairD)) (.tup (xs.map pairD)) with
    | some r => some (Val.fz (.bl (!r)))
    | none => none) = _
  unfold eqD
  rw [toPy_pairs]
  dsimp only
  rw [sh, es]
  rfl
theorem ne_text (x : PySem.Str) : dNe (.str x) (.str x) = some (.fz (.bl false)) := by
  show some (Val.fz (.bl (!decide (V.str x = V.str x)))) = _
  rw [decide_eq_true rfl]; rfl
end Pv
end

section
set_option maxRecDepth 100000
set_option maxHeartbeats 4000000
namespace Pv
open PySem PySem.Spec L2 PyProof.Rows

/-! ### least and greatest -/
theorem foldMin_in {lo hi : Int} : ∀ (ns : List Int) (n : Int), lo ≤ n → n ≤ hi → (∀ x ∈ ns, lo ≤ x ∧ x ≤ hi) → lo ≤ foldMin n ns ∧ foldMin n ns ≤ hi
  | [], n, h1, h2, _ => ⟨h1, h2⟩
  | x :: ns, n, h1, h2, h => by
    have hx := h x List.mem_cons_self
    exact foldMin_in ns (min n x) (by omega) (by omega) fun y hy => h y (List.mem_cons_of_mem _ hy)
theorem foldMax_in {lo hi : Int} : ∀ (ns : List Int) (n : Int), lo ≤ n → n ≤ hi → (∀ x ∈ ns, lo ≤ x ∧ x ≤ hi) → lo ≤ foldMax n ns ∧ foldMax n ns ≤ hi
  | [], n, h1, h2, _ => ⟨h1, h2⟩
  | x :: ns, n, h1, h2, h => by
    have hx := h x List.mem_cons_self
    exact foldMax_in ns (max n x) (by omega) (by omega) fun y hy => h y (List.mem_cons_of_mem _ hy)
section
variable {A : Auto} {b n p : Nat} {q : D}
def fairL (A : Auto) (b n m : Nat) : List (Int × Int) := (List.range m).map fun p => (minAt A b n p, maxAt A b n p)
theorem fairD_eq (A : Auto) (b n : Nat) : fairD A b n = (fairL A b n n).map pairD := by
  unfold fairD fairL; rw [List.map_map]; rfl
theorem fairL_few (hn : b ^ n ≤ 5000) (m : Nat) : ∀ x ∈ fairL A b n m, Few x := fun x hx => by
  obtain ⟨p, _, rfl⟩ := List.mem_map.mp hx
  have at_ : ∀ f, (0 : Int) ≤ (A.at b n p f : Nat) ∧ ((A.at b n p f : Nat) : Int) ≤ 5000 := fun f => by
    have := A.at_le b n p f
    omega
  have all : ∀ x ∈ (List.range' 1 (b - 1)).map fun f => ((A.at b n p f : Nat) : Int), (0 : Int) ≤ x ∧ x ≤ 5000 := fun x hx => by
    obtain ⟨f, _, rfl⟩ := List.mem_map.mp hx
    exact at_ f
  exact ⟨foldMin_in _ _ (at_ 0).1 (at_ 0).2 all, foldMax_in _ _ (at_ 0).1 (at_ 0).2 all⟩
theorem fair_flat {k : Nat} (hb0 : 0 < b) (h : ∀ f, f < b → A.at b n p f = k) : minAt A b n p = maxAt A b n p := by
  have all : ∀ x ∈ (List.range' 1 (b - 1)).map fun f => ((A.at b n p f : Nat) : Int), ((k : Nat) : Int) ≤ x ∧ x ≤ (k : Nat) := fun x hx => by
    obtain ⟨f, hf, rfl⟩ := List.mem_map.mp hx
    have := List.mem_range'_1.mp hf
    rw [h f (by omega)]
    exact ⟨Int.le_refl _, Int.le_refl _⟩
  have e0 := h 0 hb0
  have g1 := foldMin_in (lo := (k : Nat)) (hi := (k : Nat)) _ (A.at b n p 0 : Nat) (by omega) (by omega) all
  have g2 := foldMax_in (lo := (k : Nat)) (hi := (k : Nat)) _ (A.at b n p 0 : Nat) (by omega) (by omega) all
  unfold minAt maxAt
  omega
theorem two_sure (hb0 : 0 < b) (h : ¬ ((List.range n).filter fun p => sureB A b n p).length < 2) : ∀ x ∈ fairL A b n n, x.1 = x.2 := fun x hx => by
  obtain ⟨p, hp, rfl⟩ := List.mem_map.mp hx
  rw [List.mem_range] at hp
  have nd : ((List.range n).filter fun p => sureB A b n p).Nodup := List.nodup_range.filter _
  have hm : ∀ r ∈ (List.range n).filter fun p => sureB A b n p, r < n ∧ sureB A b n r = true := fun r hr => by
    rw [List.mem_filter, List.mem_range] at hr
    exact hr
  generalize (List.range n).filter (fun p => sureB A b n p) = S at h nd hm
  match S, h, nd, hm with
  | [], h, _, _ => exact absurd (by decide) h
  | [_], h, _, _ => exact absurd (show 1 < 2 by decide) h
  | r :: s :: S, _, nd, hm =>
    have hrs : r ≠ s := fun z => (List.nodup_cons.mp nd).1 (by rw [z]; exact List.mem_cons_self)
    have use : ∀ t, t < n → sureB A b n t = true → t ≠ p → minAt A b n p = maxAt A b n p := fun t ht hs hne =>
      fair_flat hb0 fun f hf => A.sure_at (sureB_ok hb0 ht hs) ht hp hne hf
    by_cases e : r = p
    · exact use s (hm s (by simp)).1 (hm s (by simp)).2 (fun z => hrs (e.trans z.symm))
    · exact use r (hm r (by simp)).1 (hm r (by simp)).2 e
end
end Pv
end

section
set_option maxRecDepth 100000
set_option maxHeartbeats 4000000
namespace Pv
open PySem PySem.Spec L2 PyProof.Rows
section
variable {A : Auto} {b n p : Nat} {q : D}
def goodR (A : Auto) (b n : Nat) : List (List Nat) := (rows b n).filter fun r => A.good r
def atR (A : Auto) (b n p : Nat) : List Nat := (goodR A b n).map fun r => r[p]?.getD 0
theorem goodR_len (A : Auto) (b n : Nat) (hn : b ^ n ≤ 5000) : (goodR A b n).length ≤ 5000 := by
  have := List.length_filter_le (fun r => A.good r) (rows b n)
  rw [rows_length] at this
  exact Nat.le_trans this hn
theorem count_at_eq (hp : p < n) (f : Nat) : ((atR A b n p).map fun (x : Nat) => ((x : Nat) : Int)).count ((f : Nat) : Int) = A.at b n p f := by
  unfold atR goodR Auto.at
  rw [List.map_map, List.count_eq_countP, List.countP_map, List.countP_filter]
  refine List.countP_congr fun r hr => ?_
  obtain ⟨h1, _⟩ := rows_mem.mp hr
  obtain ⟨g, hg⟩ := get_of (l := r) (i := p) (by omega)
  simp only [Function.comp, hg, Option.getD_some, Bool.and_eq_true, beq_iff_eq, decide_eq_true_eq, Option.some.injEq]
  constructor
  · rintro ⟨a, c⟩; exact ⟨c, by omega⟩
  · rintro ⟨a, c⟩; exact ⟨by omega, a⟩
theorem right_7 (hb0 : 0 < b) (hb : b ≤ 5000) (hn : b ^ n ≤ 5000) (n5 : n ≤ 100) (hp : p < n) {s0 s1 s2 s5 s6 s8 s9 s10 s12 s13 s14 s15 : Slot} (h2 : s2 = .own (.lst ((goodR A b n).map rowD)) ∨ s2 = .fz (.lst ((goodR A b n).map rowD))) :
    ∃ s9' s10', x__law_right_7 [s0, s1, s2, .own (.lst ((fairL A b n p).map pairD)), .fz (.int (p : Nat)), s5, s6, .fz (.int (b : Nat)), s8, s9, s10, .em, .em, s13, s14, s15] =
      some (.nx [s0, s1, .fz (.lst ((goodR A b n).map rowD)), .own (.lst ((fairL A b n (p + 1)).map pairD)), .fz (.int (p : Nat)), s5, s6, .fz (.int (b : Nat)), s8, s9', s10', .em, .em, s13, s14, s15]) := by
  have gl := goodR_len A b n hn
  have hsrc : iSeq (mVar 2) [s0, s1, s2, .own (.lst ((fairL A b n p).map pairD)), .fz (.int (p : Nat)), s5, s6, .fz (.int (b : Nat)), s8, s9, s10, .em, .em, s13, s14, s15] =
      some ((goodR A b n).map rowD, [s0, s1, .fz (.lst ((goodR A b n).map rowD)), .own (.lst ((fairL A b n p).map pairD)), .fz (.int (p : Nat)), s5, s6, .fz (.int (b : Nat)), s8, s9, s10, .em, .em, s13, s14, s15]) := by
    unfold iSeq
    rcases h2 with rfl | rfl <;> simp [freezeAll, runN, runIO, endN, endIO, endV, xRet, xRetN, xSeq, xSet, xIf, xDrop, xNil, xBind, xNo, xPut, xPar, putAll, putV, mAndV, mOrV, mNotB, mAndT, mOrT, mNotT, mTestB, mTruth, truth, mIf, mFn, mFnIO, mConsA, mNilA, mConsD, mNilD, mConsV, mNilV, mStarD, items, mArg, mRet, retV, argV, mVar, mFz, mCall, mUn, lookAll, lookL, scal_non, scal_bl, scal_int, scal_str, scal_tup, scal_lst, scal_own, mChain, mBin, hold, look, mutAt, Slot.mut, mTup, mLst, mMut, mMth, mSlice, mNoO, mSomeO, mIsi, setC, tyOf, LINE, dLe, dLt, dGt, dGe, dAdd, dSub, dMul, dDiv, dMod, dNeg, bName, bTup, bCons, bNil]
  have hc1 := mComp_map (g := fun d => figD ((rowOf d)[p]?.getD 0)) (f := x__law_right_6) (i := 11) hsrc (by simp) (fun d hd => by
    obtain ⟨r, hr, rfl⟩ := List.mem_map.mp hd
    obtain ⟨h1, _⟩ := rows_mem.mp (List.mem_filter.mp hr).1
    obtain ⟨g, hg⟩ := get_of (l := r) (i := p) (by omega)
    have ix := dIx_row hg
    rw [rowOf_rowD, hg]
    unfold x__law_right_6
    simp [freezeAll, runN, runIO, endN, endIO, endV, xRet, xRetN, xSeq, xSet, xIf, xDrop, xNil, xBind, xNo, xPut, xPar, putAll, putV, mAndV, mOrV, mNotB, mAndT, mOrT, mNotT, mTestB, mTruth, truth, mIf, mFn, mFnIO, mConsA, mNilA, mConsD, mNilD, mConsV, mNilV, mStarD, items, mArg, mRet, retV, argV, mVar, mFz, mCall, mUn, lookAll, lookL, scal_non, scal_bl, scal_int, scal_str, scal_tup, scal_lst, scal_own, mChain, mBin, hold, look, mutAt, Slot.mut, mTup, mLst, mMut, mMth, mSlice, mNoO, mSomeO, mIsi, setC, tyOf, LINE, dLe, dLt, dGt, dGe, dAdd, dSub, dMul, dDiv, dMod, dNeg, bName, bTup, bCons, bNil, ix, figD]) (by rw [List.length_map]; unfold LINE; omega)
  have e9 : ((goodR A b n).map rowD).map (fun d => figD ((rowOf d)[p]?.getD 0)) = (atR A b n p).map figD := by
    unfold atR
    rw [List.map_map, List.map_map]
    refine List.map_congr_left fun r _ => ?_
    simp only [Function.comp, rowOf_rowD]
  rw [e9] at hc1
  have hc1 : mComp (iSeq (mVar 2)) (bName 11) mYes x__law_right_6 [11] [s0, s1, s2, .own (.lst ((fairL A b n p).map pairD)), .fz (.int (p : Nat)), s5, s6, .fz (.int (b : Nat)), s8, s9, s10, .em, .em, s13, s14, s15] =
      some (.own (.lst ((atR A b n p).map figD)), [s0, s1, .fz (.lst ((goodR A b n).map rowD)), .own (.lst ((fairL A b n p).map pairD)), .fz (.int (p : Nat)), s5, s6, .fz (.int (b : Nat)), s8, s9, s10, .em, .em, s13, s14, s15]) := hc1
  have b6 := b62_nat hb
  have h0 : iRange1 (mConsD (mVar 7) mNilD) [s0, s1, .fz (.lst ((goodR A b n).map rowD)), .own (.lst ((fairL A b n p).map pairD)), .fz (.int (p : Nat)), s5, s6, .fz (.int (b : Nat)), s8, .own (.lst ((atR A b n p).map figD)), s10, .em, .em, s13, s14, s15] =
      some ((List.range b).map figD, [s0, s1, .fz (.lst ((goodR A b n).map rowD)), .own (.lst ((fairL A b n p).map pairD)), .fz (.int (p : Nat)), s5, s6, .fz (.int (b : Nat)), s8, .own (.lst ((atR A b n p).map figD)), s10, .em, .em, s13, s14, s15]) := by
    unfold iRange1
    simp [freezeAll, runN, runIO, endN, endIO, endV, xRet, xRetN, xSeq, xSet, xIf, xDrop, xNil, xBind, xNo, xPut, xPar, putAll, putV, mAndV, mOrV, mNotB, mAndT, mOrT, mNotT, mTestB, mTruth, truth, mIf, mFn, mFnIO, mConsA, mNilA, mConsD, mNilD, mConsV, mNilV, mStarD, items, mArg, mRet, retV, argV, mVar, mFz, mCall, mUn, lookAll, lookL, scal_non, scal_bl, scal_int, scal_str, scal_tup, scal_lst, scal_own, mChain, mBin, hold, look, mutAt, Slot.mut, mTup, mLst, mMut, mMth, mSlice, mNoO, mSomeO, mIsi, setC, tyOf, LINE, dLe, dLt, dGt, dGe, dAdd, dSub, dMul, dDiv, dMod, dNeg, bName, bTup, bCons, bNil, b6, rangeD_eq]
    intro a _; rfl
  have io : intsOf ((atR A b n p).map figD) = some ((atR A b n p).map fun (x : Nat) => ((x : Nat) : Int)) := intsOf_nat (atR A b n p) fun x => x
  have hc2 := mComp_map (g := fun d => D.int (A.at b n p (natOf d) : Nat)) (f := x__law_right_5) (i := 12) h0 (by simp) (fun d hd => by
    obtain ⟨f, hf, rfl⟩ := List.mem_map.mp hd
    have gc : gCount (.lst ((atR A b n p).map figD)) [.int (f : Nat)] = some (.fz (.int (A.at b n p f : Nat))) := by
      show (match intsOf ((atR A b n p).map figD) with
        | some ns => some (Val.fz (.int (ns.count ((f : Nat) : Int) : Nat)))
        | none => none) = _
      rw [io]
      dsimp only
      rw [count_at_eq hp]
    have en : natOf (figD f) = f := rfl
    rw [en]
    unfold x__law_right_5 figD
    unfold figD at gc
    simp [freezeAll, runN, runIO, endN, endIO, endV, xRet, xRetN, xSeq, xSet, xIf, xDrop, xNil, xBind, xNo, xPut, xPar, putAll, putV, mAndV, mOrV, mNotB, mAndT, mOrT, mNotT, mTestB, mTruth, truth, mIf, mFn, mFnIO, mConsA, mNilA, mConsD, mNilD, mConsV, mNilV, mStarD, items, mArg, mRet, retV, argV, mVar, mFz, mCall, mUn, lookAll, lookL, scal_non, scal_bl, scal_int, scal_str, scal_tup, scal_lst, scal_own, mChain, mBin, hold, look, mutAt, Slot.mut, mTup, mLst, mMut, mMth, mSlice, mNoO, mSomeO, mIsi, setC, tyOf, LINE, dLe, dLt, dGt, dGe, dAdd, dSub, dMul, dDiv, dMod, dNeg, bName, bTup, bCons, bNil, gc, -List.map_map]) (by rw [List.length_map, List.length_range]; unfold LINE; omega)
  have e10 : ((List.range b).map figD).map (fun d => D.int (A.at b n p (natOf d) : Nat)) = countsD A b n p := by
    unfold countsD
    rw [List.map_map]; rfl
  rw [e10] at hc2
  have hc2 : mComp (iRange1 (mConsD (mVar 7) mNilD)) (bName 12) mYes x__law_right_5 [12] [s0, s1, .fz (.lst ((goodR A b n).map rowD)), .own (.lst ((fairL A b n p).map pairD)), .fz (.int (p : Nat)), s5, s6, .fz (.int (b : Nat)), s8, .own (.lst ((atR A b n p).map figD)), s10, .em, .em, s13, s14, s15] =
      some (.own (.lst (countsD A b n p)), [s0, s1, .fz (.lst ((goodR A b n).map rowD)), .own (.lst ((fairL A b n p).map pairD)), .fz (.int (p : Nat)), s5, s6, .fz (.int (b : Nat)), s8, .own (.lst ((atR A b n p).map figD)), s10, .em, .em, s13, s14, s15]) := hc2
  have ci := counts_ints A (n := n) (p := p) hb0
  have mn : dMin [.lst (countsD A b n p)] = some (.fz (.int (minAt A b n p))) := by
    show (match intsOf (countsD A b n p) with
      | some (n :: ns) => some (Val.fz (.int (foldMin n ns)))
      | _ => none) = _
    rw [ci]; rfl
  have mx : dMax [.lst (countsD A b n p)] = some (.fz (.int (maxAt A b n p))) := by
    show (match intsOf (countsD A b n p) with
      | some (n :: ns) => some (Val.fz (.int (foldMax n ns)))
      | _ => none) = _
    rw [ci]; rfl
  have ga : gAppend (.lst ((fairL A b n p).map pairD)) [.tup [.int (minAt A b n p), .int (maxAt A b n p)]] = some (.non, .lst ((fairL A b n (p + 1)).map pairD)) := by
    show (if ((fairL A b n p).map pairD).length < LINE then some (D.non, D.lst ((fairL A b n p).map pairD ++ [.tup [.int (minAt A b n p), .int (maxAt A b n p)]])) else none) = _
    rw [if_pos (by unfold fairL; rw [List.length_map, List.length_map, List.length_range]; unfold LINE; omega)]
    unfold fairL
    rw [List.range_succ, List.map_append, List.map_append]; rfl
  refine ⟨.own (.lst ((atR A b n p).map figD)), .own (.lst (countsD A b n p)), ?_⟩
  unfold x__law_right_7
  simp [freezeAll, runN, runIO, endN, endIO, endV, xRet, xRetN, xSeq, xSet, xIf, xDrop, xNil, xBind, xNo, xPut, xPar, putAll, putV, mAndV, mOrV, mNotB, mAndT, mOrT, mNotT, mTestB, mTruth, truth, mIf, mFn, mFnIO, mConsA, mNilA, mConsD, mNilD, mConsV, mNilV, mStarD, items, mArg, mRet, retV, argV, mVar, mFz, mCall, mUn, lookAll, lookL, scal_non, scal_bl, scal_int, scal_str, scal_tup, scal_lst, scal_own, mChain, mBin, hold, look, mutAt, Slot.mut, mTup, mLst, mMut, mMth, mSlice, mNoO, mSomeO, mIsi, setC, tyOf, LINE, dLe, dLt, dGt, dGe, dAdd, dSub, dMul, dDiv, dMod, dNeg, bName, bTup, bCons, bNil, hc1, hc2, mn, mx, ga, -List.map_map]
end
end Pv
end

section
set_option maxRecDepth 100000
set_option maxHeartbeats 4000000
namespace Pv
open PySem PySem.Spec L2 PyProof.Rows
section
variable {A : Auto} {b n p : Nat} {q : D}
theorem right_8 (hb0 : 0 < b) (hb : b ≤ 5000) (hn : b ^ n ≤ 5000) (n5 : n ≤ 100) : ∀ (m p : Nat) {s0 s1 s2 s4 s5 s6 s8 s9 s10 s13 s14 s15 : Slot}, p + m = n → (s2 = .own (.lst ((goodR A b n).map rowD)) ∨ s2 = .fz (.lst ((goodR A b n).map rowD))) →
    ∃ s2' s4' s9' s10', loopF (bName 4) x__law_right_7 ((List.range' p m).map fun (i : Nat) => D.int (i : Nat)) [s0, s1, s2, .own (.lst ((fairL A b n p).map pairD)), s4, s5, s6, .fz (.int (b : Nat)), s8, s9, s10, .em, .em, s13, s14, s15] =
      some (.nx [s0, s1, s2', .own (.lst ((fairL A b n n).map pairD)), s4', s5, s6, .fz (.int (b : Nat)), s8, s9', s10', .em, .em, s13, s14, s15])
  | 0, p, s0, s1, s2, s4, s5, s6, s8, s9, s10, s13, s14, s15, e, _ => by
    have : p = n := by omega
    subst this
    exact ⟨s2, s4, s9, s10, rfl⟩
  | m + 1, p, s0, s1, s2, s4, s5, s6, s8, s9, s10, s13, s14, s15, e, h2 => by
    obtain ⟨t9, t10, e1⟩ := right_7 hb0 hb hn n5 (p := p) (by omega) (s0 := s0) (s1 := s1) (s2 := s2) (s5 := s5) (s6 := s6) (s8 := s8) (s9 := s9) (s10 := s10) (s12 := .em) (s13 := s13) (s14 := s14) (s15 := s15) h2
    obtain ⟨u2, u4, u9, u10, e2⟩ := right_8 hb0 hb hn n5 m (p + 1) (s0 := s0) (s1 := s1) (s2 := .fz (.lst ((goodR A b n).map rowD))) (s4 := .fz (.int (p : Nat))) (s5 := s5) (s6 := s6) (s8 := s8) (s9 := t9) (s10 := t10) (s13 := s13) (s14 := s14) (s15 := s15) (by omega) (.inr rfl)
    refine ⟨u2, u4, u9, u10, ?_⟩
    rw [List.range'_succ, List.map_cons]
    unfold loopF
    have b1 : bName 4 (D.int (p : Nat)) [s0, s1, s2, .own (.lst ((fairL A b n p).map pairD)), s4, s5, s6, .fz (.int (b : Nat)), s8, s9, s10, .em, .em, s13, s14, s15] = some [s0, s1, s2, .own (.lst ((fairL A b n p).map pairD)), .fz (.int (p : Nat)), s5, s6, .fz (.int (b : Nat)), s8, s9, s10, .em, .em, s13, s14, s15] := rfl
    rw [b1]
    dsimp only
    rw [e1]
    exact e2
theorem good_comp {ok : Int → Prop} (F : Fine b n q A) (sc : scal (.fz q) = false) (hb : b ≤ 5000) (hb0 : 0 < b) (hn : b ^ n ≤ 5000) (n5 : n ≤ 5000) {s0 s2 s3 s4 s5 s6 s9 s10 s12 s13 s14 s15 : Slot} :
    mComp (iSeq (mFn m__law_labels (mConsA (mVar 7) (mConsA (mVar 8) mNilA)))) (bName 11) x__law_right_9 x__law_right_8 [11] [s0, .fz q, s2, s3, s4, s5, s6, .fz (.int (b : Nat)), .fz (.int (n : Nat)), s9, s10, .em, s12, s13, s14, s15] =
      some (.own (.lst ((goodR A b n).map rowD)), [s0, .fz q, s2, s3, s4, s5, s6, .fz (.int (b : Nat)), .fz (.int (n : Nat)), s9, s10, .em, s12, s13, s14, s15]) := by
  have hl := m__law_labels_ok hb hb0 hn n5
  have h0 : iSeq (mFn m__law_labels (mConsA (mVar 7) (mConsA (mVar 8) mNilA))) [s0, .fz q, s2, s3, s4, s5, s6, .fz (.int (b : Nat)), .fz (.int (n : Nat)), s9, s10, .em, s12, s13, s14, s15] =
      some ((rows b n).map rowD, [s0, .fz q, s2, s3, s4, s5, s6, .fz (.int (b : Nat)), .fz (.int (n : Nat)), s9, s10, .em, s12, s13, s14, s15]) := by
    unfold iSeq
    simp [freezeAll, runN, runIO, endN, endIO, endV, xRet, xRetN, xSeq, xSet, xIf, xDrop, xNil, xBind, xNo, xPut, xPar, putAll, putV, mAndV, mOrV, mNotB, mAndT, mOrT, mNotT, mTestB, mTruth, truth, mIf, mFn, mFnIO, mConsA, mNilA, mConsD, mNilD, mConsV, mNilV, mStarD, items, mArg, mRet, retV, argV, mVar, mFz, mCall, mUn, lookAll, lookL, scal_non, scal_bl, scal_int, scal_str, scal_tup, scal_lst, scal_own, mChain, mBin, hold, look, mutAt, Slot.mut, mTup, mLst, mMut, mMth, mSlice, mNoO, mSomeO, mIsi, setC, tyOf, LINE, dLe, dLt, dGt, dGe, dAdd, dSub, dMul, dDiv, dMod, dNeg, bName, bTup, bCons, bNil, hl]
  have := mComp_pure (pt := fun d => A.good (rowOf d)) (g := fun d => d) (t := x__law_right_9) (f := x__law_right_8) (i := 11) h0 (by simp) (fun d hd => by
    obtain ⟨r, hr, rfl⟩ := List.mem_map.mp hd
    obtain ⟨h1, h2⟩ := rows_mem.mp hr
    have g := F.good r h1 h2
    have sr : scal (.fz (rowD r)) = false := rfl
    rw [rowOf_rowD]
    unfold x__law_right_9 x__law_right_8
    simp [freezeAll, runN, runIO, endN, endIO, endV, xRet, xRetN, xSeq, xSet, xIf, xDrop, xNil, xBind, xNo, xPut, xPar, putAll, putV, mAndV, mOrV, mNotB, mAndT, mOrT, mNotT, mTestB, mTruth, truth, mIf, mFn, mFnIO, mConsA, mNilA, mConsD, mNilD, mConsV, mNilV, mStarD, items, mArg, mRet, retV, argV, mVar, mFz, mCall, mUn, lookAll, lookL, scal_non, scal_bl, scal_int, scal_str, scal_tup, scal_lst, scal_own, mChain, mBin, hold, look, mutAt, Slot.mut, mTup, mLst, mMut, mMth, mSlice, mNoO, mSomeO, mIsi, setC, tyOf, LINE, dLe, dLt, dGt, dGe, dAdd, dSub, dMul, dDiv, dMod, dNeg, bName, bTup, bCons, bNil, g, sr, sc]) (by rw [List.length_map, rows_length]; unfold LINE; omega)
  rw [this, List.map_id', List.filter_map]
  have ef : ((fun d => A.good (rowOf d)) ∘ rowD) = fun r => A.good r := by
    funext r
    simp only [Function.comp, rowOf_rowD]
  rw [ef]
  rfl
end
end Pv
end

section
set_option maxRecDepth 100000
set_option maxHeartbeats 4000000
namespace Pv
open PySem PySem.Spec L2 PyProof.Rows
section
variable {A : Auto} {b n p : Nat} {q : D}
theorem again_comp {ok : Int → Prop} (R : Rep b n q A ok) (ck : m_check_sized [q, .int (n : Nat)] = ret .non) (hb : b ≤ 5000) (hb0 : 0 < b) (hn : b ^ n ≤ 5000) (n5 : n ≤ 5000) {s0 s2 s3 s4 s5 s6 s7 s9 s10 s11 s12 s14 s15 : Slot} :
    mComp (iSeq (mFn m_figure_counts (mConsA (mVar 1) (mConsA (mVar 8) mNilA)))) (bName 13) mYes x__law_right_4 [13] [s0, .fz q, s2, s3, s4, s5, s6, s7, .fz (.int (n : Nat)), s9, s10, s11, s12, .em, s14, s15] =
      some (.own (.lst ((fairL A b n n).map pairD)), [s0, .fz q, s2, s3, s4, s5, s6, s7, .fz (.int (n : Nat)), s9, s10, s11, s12, .em, s14, s15]) := by
  have hf := m_figure_counts_ok R hb hb0 hn n5 ck
  have h0 : iSeq (mFn m_figure_counts (mConsA (mVar 1) (mConsA (mVar 8) mNilA))) [s0, .fz q, s2, s3, s4, s5, s6, s7, .fz (.int (n : Nat)), s9, s10, s11, s12, .em, s14, s15] = some (tableD A b n n, [s0, .fz q, s2, s3, s4, s5, s6, s7, .fz (.int (n : Nat)), s9, s10, s11, s12, .em, s14, s15]) := by
    unfold iSeq
    simp [freezeAll, runN, runIO, endN, endIO, endV, xRet, xRetN, xSeq, xSet, xIf, xDrop, xNil, xBind, xNo, xPut, xPar, putAll, putV, mAndV, mOrV, mNotB, mAndT, mOrT, mNotT, mTestB, mTruth, truth, mIf, mFn, mFnIO, mConsA, mNilA, mConsD, mNilD, mConsV, mNilV, mStarD, items, mArg, mRet, retV, argV, mVar, mFz, mCall, mUn, lookAll, lookL, scal_non, scal_bl, scal_int, scal_str, scal_tup, scal_lst, scal_own, mChain, mBin, hold, look, mutAt, Slot.mut, mTup, mLst, mMut, mMth, mSlice, mNoO, mSomeO, mIsi, setC, tyOf, LINE, dLe, dLt, dGt, dGe, dAdd, dSub, dMul, dDiv, dMod, dNeg, bName, bTup, bCons, bNil, hf]
  have := mComp_map (g := fun d => match d with
      | .tup ds => (match intsOf ds with
        | some (m :: ms) => D.tup [.int (foldMin m ms), .int (foldMax m ms)]
        | _ => d)
      | d => d) (f := x__law_right_4) (i := 13) h0 (by simp) (fun d hd => by
    obtain ⟨p, hp, rfl⟩ := List.mem_map.mp hd
    have ci := counts_ints A (n := n) (p := p) hb0
    unfold x__law_right_4
    simp [freezeAll, runN, runIO, endN, endIO, endV, xRet, xRetN, xSeq, xSet, xIf, xDrop, xNil, xBind, xNo, xPut, xPar, putAll, putV, mAndV, mOrV, mNotB, mAndT, mOrT, mNotT, mTestB, mTruth, truth, mIf, mFn, mFnIO, mConsA, mNilA, mConsD, mNilD, mConsV, mNilV, mStarD, items, mArg, mRet, retV, argV, mVar, mFz, mCall, mUn, lookAll, lookL, scal_non, scal_bl, scal_int, scal_str, scal_tup, scal_lst, scal_own, mChain, mBin, hold, look, mutAt, Slot.mut, mTup, mLst, mMut, mMth, mSlice, mNoO, mSomeO, mIsi, setC, tyOf, LINE, dLe, dLt, dGt, dGe, dAdd, dSub, dMul, dDiv, dMod, dNeg, bName, bTup, bCons, bNil, dMin, dMax, ci]) (by unfold tableD; rw [List.length_map, List.length_range]; unfold LINE; omega)
  rw [this]
  unfold tableD fairL
  rw [List.map_map, List.map_map]
  congr 3
  refine congrArg D.lst (List.map_congr_left fun p _ => ?_)
  have ci := counts_ints A (n := n) (p := p) hb0
  simp only [Function.comp, ci]
  rfl
theorem sure_comp {ok : Int → Prop} (R : Rep b n q A ok) (ck : m_check_sized [q, .int (n : Nat)] = ret .non) (cf : m_check_few [q, .int (n : Nat)] = ret .non) (hb : b ≤ 5000) (hb0 : 0 < b) (hn : b ^ n ≤ 5000) (n5 : n ≤ 5000) {s0 s2 s3 s4 s5 s6 s7 s9 s10 s11 s12 s13 s14 s15 : Slot} :
    mComp (iRange1 (mConsD (mVar 8) mNilD)) (bName 4) x__law_right_3 x__law_right_2 [4] [s0, .fz q, s2, s3, s4, s5, s6, s7, .fz (.int (n : Nat)), s9, s10, s11, s12, s13, s14, s15] =
      some (.own (.lst (((List.range n).filter fun p => sureB A b n p).map figD)), [s0, .fz q, s2, s3, .em, s5, s6, s7, .fz (.int (n : Nat)), s9, s10, s11, s12, s13, s14, s15]) := by
  have b6 := b62_nat n5
  have h0 : iRange1 (mConsD (mVar 8) mNilD) [s0, .fz q, s2, s3, s4, s5, s6, s7, .fz (.int (n : Nat)), s9, s10, s11, s12, s13, s14, s15] = some ((List.range n).map figD, [s0, .fz q, s2, s3, s4, s5, s6, s7, .fz (.int (n : Nat)), s9, s10, s11, s12, s13, s14, s15]) := by
    unfold iRange1
    simp [freezeAll, runN, runIO, endN, endIO, endV, xRet, xRetN, xSeq, xSet, xIf, xDrop, xNil, xBind, xNo, xPut, xPar, putAll, putV, mAndV, mOrV, mNotB, mAndT, mOrT, mNotT, mTestB, mTruth, truth, mIf, mFn, mFnIO, mConsA, mNilA, mConsD, mNilD, mConsV, mNilV, mStarD, items, mArg, mRet, retV, argV, mVar, mFz, mCall, mUn, lookAll, lookL, scal_non, scal_bl, scal_int, scal_str, scal_tup, scal_lst, scal_own, mChain, mBin, hold, look, mutAt, Slot.mut, mTup, mLst, mMut, mMth, mSlice, mNoO, mSomeO, mIsi, setC, tyOf, LINE, dLe, dLt, dGt, dGe, dAdd, dSub, dMul, dDiv, dMod, dNeg, bName, bTup, bCons, bNil, b6, rangeD_eq]
    intro a _; rfl
  have := mComp_pure (pt := fun d => sureB A b n (natOf d)) (g := fun d => d) (t := x__law_right_3) (f := x__law_right_2) (i := 4) h0 (by simp) (fun d hd => by
    obtain ⟨p, hp, rfl⟩ := List.mem_map.mp hd
    have g := m_is_sure_place_ok R hb hb0 hn n5 ck cf (List.mem_range.mp hp)
    have en : natOf (figD p) = p := rfl
    rw [en]
    unfold x__law_right_3 x__law_right_2 figD
    simp [freezeAll, runN, runIO, endN, endIO, endV, xRet, xRetN, xSeq, xSet, xIf, xDrop, xNil, xBind, xNo, xPut, xPar, putAll, putV, mAndV, mOrV, mNotB, mAndT, mOrT, mNotT, mTestB, mTruth, truth, mIf, mFn, mFnIO, mConsA, mNilA, mConsD, mNilD, mConsV, mNilV, mStarD, items, mArg, mRet, retV, argV, mVar, mFz, mCall, mUn, lookAll, lookL, scal_non, scal_bl, scal_int, scal_str, scal_tup, scal_lst, scal_own, mChain, mBin, hold, look, mutAt, Slot.mut, mTup, mLst, mMut, mMth, mSlice, mNoO, mSomeO, mIsi, setC, tyOf, LINE, dLe, dLt, dGt, dGe, dAdd, dSub, dMul, dDiv, dMod, dNeg, bName, bTup, bCons, bNil, g]) (by rw [List.length_map, List.length_range]; unfold LINE; omega)
  rw [this, List.map_id', List.filter_map]
  rfl
/-- a comprehension over pairs -/
theorem loopC_pair {e : DEnv} {f : Ev} {i j : Nat} {g : Int × Int → D} (hij : i ≠ j) (hi : i < e.length) (hj : j < e.length) (h : ∀ x : Int × Int, mRet f ((e.set i (.fz (.int x.1))).set j (.fz (.int x.2))) = some (.fz (g x), (e.set i (.fz (.int x.1))).set j (.fz (.int x.2)))) :
    ∀ (xs : List (Int × Int)) (n : Nat), n + xs.length ≤ LINE → loopC (bTup 2 (bCons (bName i) (bCons (bName j) bNil))) mYes f [i, j] (xs.map pairD) ((e.set j .em).set i .em) n = some (xs.map g, (e.set j .em).set i .em)
  | [], n, _ => rfl
  | x :: xs, n, hn => by
    have hn : n + (xs.length + 1) ≤ LINE := hn
    have b1 : bTup 2 (bCons (bName i) (bCons (bName j) bNil)) (pairD x) ((e.set j .em).set i .em) = some ((e.set i (.fz (.int x.1))).set j (.fz (.int x.2))) := by
      have l1 : i < ((e.set j .em).set i .em).length := by rw [List.length_set, List.length_set]; exact hi
      have l2 : j < (((e.set j .em).set i .em).set i (.fz (.int x.1))).length := by rw [List.length_set, List.length_set, List.length_set]; exact hj
      show (if i < ((e.set j .em).set i .em).length then some (((e.set j .em).set i .em).set i (.fz (.int x.1))) else none).bind (fun e1 => (if j < e1.length then some (e1.set j (.fz (.int x.2))) else none).bind fun e2 => some e2) = _
      rw [if_pos l1]
      show (if j < _ then some _ else none).bind _ = _
      rw [if_pos l2, List.set_set, List.set_comm _ _ (Ne.symm hij), List.set_set]
      rfl
    have w1 : wipeE ((e.set i (.fz (.int x.1))).set j (.fz (.int x.2))) [i, j] = (e.set j .em).set i .em := by
      show (((e.set i (.fz (.int x.1))).set j (.fz (.int x.2))).set j .em).set i .em = _
      rw [List.set_set, List.set_comm _ _ hij, List.set_set]
    rw [List.map_cons]
    unfold loopC
    rw [b1]
    dsimp only [mYes]
    rw [h x]
    dsimp only
    rw [if_pos (by omega), w1, loopC_pair hij hi hj h xs (n + 1) (by omega)]
    rfl
end
end Pv
end

section
set_option maxRecDepth 100000
set_option maxHeartbeats 4000000
namespace Pv
open PySem PySem.Spec L2 PyProof.Rows
theorem pair_comp {xs : List (Int × Int)} (hl : xs.length ≤ 100) {s0 s1 s2 s3 s4 s6 s7 s8 s9 s10 s11 s12 s13 : Slot} :
    mComp (iSeq (mVar 5)) (bTup 2 (bCons (bName 14) (bCons (bName 15) bNil))) mYes x__law_right_1 [14, 15] [s0, s1, s2, s3, s4, .fz (.tup (xs.map pairD)), s6, s7, s8, s9, s10, s11, s12, s13, .em, .em] =
      some (.own (.lst (xs.map fun x => D.bl (x.1 == x.2))), [s0, s1, s2, s3, s4, .fz (.tup (xs.map pairD)), s6, s7, s8, s9, s10, s11, s12, s13, .em, .em]) := by
  have h0 : iSeq (mVar 5) [s0, s1, s2, s3, s4, .fz (.tup (xs.map pairD)), s6, s7, s8, s9, s10, s11, s12, s13, .em, .em] = some (xs.map pairD, [s0, s1, s2, s3, s4, .fz (.tup (xs.map pairD)), s6, s7, s8, s9, s10, s11, s12, s13, .em, .em]) := by
    unfold iSeq
    simp [freezeAll, runN, runIO, endN, endIO, endV, xRet, xRetN, xSeq, xSet, xIf, xDrop, xNil, xBind, xNo, xPut, xPar, putAll, putV, mAndV, mOrV, mNotB, mAndT, mOrT, mNotT, mTestB, mTruth, truth, mIf, mFn, mFnIO, mConsA, mNilA, mConsD, mNilD, mConsV, mNilV, mStarD, items, mArg, mRet, retV, argV, mVar, mFz, mCall, mUn, lookAll, lookL, scal_non, scal_bl, scal_int, scal_str, scal_tup, scal_lst, scal_own, mChain, mBin, hold, look, mutAt, Slot.mut, mTup, mLst, mMut, mMth, mSlice, mNoO, mSomeO, mIsi, setC, tyOf, LINE, dLe, dLt, dGt, dGe, dAdd, dSub, dMul, dDiv, dMod, dNeg, bName, bTup, bCons, bNil]
  have hL := loopC_pair (e := [s0, s1, s2, s3, s4, .fz (.tup (xs.map pairD)), s6, s7, s8, s9, s10, s11, s12, s13, .em, .em]) (f := x__law_right_1) (i := 14) (j := 15) (g := fun x => D.bl (x.1 == x.2)) (by decide) (by simp) (by simp) (fun x => by
    unfold x__law_right_1
    simp [freezeAll, runN, runIO, endN, endIO, endV, xRet, xRetN, xSeq, xSet, xIf, xDrop, xNil, xBind, xNo, xPut, xPar, putAll, putV, mAndV, mOrV, mNotB, mAndT, mOrT, mNotT, mTestB, mTruth, truth, mIf, mFn, mFnIO, mConsA, mNilA, mConsD, mNilD, mConsV, mNilV, mStarD, items, mArg, mRet, retV, argV, mVar, mFz, mCall, mUn, lookAll, lookL, scal_non, scal_bl, scal_int, scal_str, scal_tup, scal_lst, scal_own, mChain, mBin, hold, look, mutAt, Slot.mut, mTup, mLst, mMut, mMth, mSlice, mNoO, mSomeO, mIsi, setC, tyOf, LINE, dLe, dLt, dGt, dGe, dAdd, dSub, dMul, dDiv, dMod, dNeg, bName, bTup, bCons, bNil, eqD_int]) xs 0 (by unfold LINE; omega)
  unfold mComp
  rw [h0]
  show (loopC _ mYes x__law_right_1 [14, 15] (xs.map pairD) (wipeE _ [14, 15]) 0).bind _ = _
  have w1 : wipeE [s0, s1, s2, s3, s4, .fz (.tup (xs.map pairD)), s6, s7, s8, s9, s10, s11, s12, s13, .em, .em] [14, 15] = (([s0, s1, s2, s3, s4, .fz (.tup (xs.map pairD)), s6, s7, s8, s9, s10, s11, s12, s13, .em, .em] : DEnv).set 15 .em).set 14 .em := rfl
  rw [w1, hL]
  rfl
theorem law_right_ok {c : Nat} {pot : D} (hp : Pot c pot) (hc : c + 2000 ≤ 1000000) : ∃ pot', m__law_right [pot] = some ⟨.fz (.bl true), pot'⟩ ∧ Pot (c + 2000) pot' := by
  obtain ⟨x, pot1, e1, hx, p1⟩ := take_ok hp (by omega) (u := 3) (by omega) (by omega)
  obtain ⟨y, pot2, e2, hy, p2⟩ := take_ok p1 (by omega) (u := 5) (by omega) (by omega)
  have e1' : m__law_take [pot, .int 3] = _ := e1
  have e2' : m__law_take [pot1, .int 5] = _ := e2
  obtain ⟨b, hbe, hb2, hb4⟩ : ∃ b : Nat, (2 + (x : Int)) = (b : Nat) ∧ 2 ≤ b ∧ b ≤ 4 := ⟨2 + x, by omega, by omega, by omega⟩
  obtain ⟨n, hne, hn1, hn5⟩ : ∃ n : Nat, (1 + (y : Int)) = (n : Nat) ∧ 1 ≤ n ∧ n ≤ 5 := ⟨1 + y, by omega, by omega, by omega⟩
  have hn : b ^ n ≤ 5000 := Nat.le_trans (Nat.le_trans (Nat.pow_le_pow_left hb4 n) (Nat.pow_le_pow_right (by decide) hn5)) (by decide)
  obtain ⟨q, A, pot3, e3, F, p3, sc⟩ := law_rule_ok (b := b) (n := n) p2 (by omega) hb2 (by omega) hn1 (by omega)
  obtain ⟨ok, R⟩ := F.ok
  have ck := F.ck
  have cf := m_check_few_ok (b := b) (n := n) (by omega) (by omega) hn R.base
  have fa := m_fairness_ok R (by omega) (by omega) hn (by omega) ck cf
  rw [fairD_eq] at fa
  have few := fairL_few (A := A) hn n
  have ll : (fairL A b n n).length ≤ 100 := by unfold fairL; rw [List.length_map, List.length_range]; omega
  have rp := repr_pairs few ll
  have np := ne_pairs few
  have nt := ne_text (PyData.tuple ((fairL A b n n).map pairP)).shown
  refine ⟨pot3, ?_, p3.mono (by omega)⟩
  obtain ⟨a0, x0, k0, ep⟩ := io_take (u := 3) hp
  obtain ⟨a1, x1, k1, ep1⟩ := io_take (u := 3) p1
  obtain ⟨a2, x2, k2, ep2⟩ := io_take (u := 3) p2
  obtain ⟨a3, x3, k3, ep3⟩ := io_take (u := 3) p3
  subst ep ep1 ep2 ep3
  have b0 : 0 < b := by omega
  have b5 : b ≤ 5000 := by omega
  have n5 : n ≤ 5000 := by omega
  have b6 := b62_nat n5
  have gc := good_comp (ok := ok) (b := b) (n := n) F sc b5 b0 hn n5 (s0 := .io (.lst [.int a3, .int x3, .int k3])) (s2 := .em) (s3 := .em) (s4 := .em) (s5 := .em) (s6 := .em) (s9 := .em) (s10 := .em) (s12 := .em) (s13 := .em) (s14 := .em) (s15 := .em)
  obtain ⟨t2, t4, t9, t10, lp⟩ := right_8 (A := A) b0 b5 hn (by omega) n 0 (s0 := .io (.lst [.int a3, .int x3, .int k3])) (s1 := .fz q) (s2 := .own (.lst ((goodR A b n).map rowD))) (s4 := .em) (s5 := .em) (s6 := .em) (s8 := .fz (.int (n : Nat))) (s9 := .em) (s10 := .em) (s13 := .em) (s14 := .em) (s15 := .em) (by omega) (.inl rfl)
  have f0 : (fairL A b n 0).map pairD = [] := rfl
  rw [f0, ← List.range_eq_range'] at lp
  have ac := again_comp R ck b5 b0 hn n5 (s0 := .io (.lst [.int a3, .int x3, .int k3])) (s2 := t2) (s3 := .own (.lst ((fairL A b n n).map pairD))) (s4 := t4) (s5 := .fz (.tup ((fairL A b n n).map pairD))) (s6 := .em) (s7 := .fz (.int (b : Nat))) (s9 := t9) (s10 := t10) (s11 := .em) (s12 := .em) (s14 := .em) (s15 := .em)
  have sc2 := sure_comp R ck cf b5 b0 hn n5 (s0 := .io (.lst [.int a3, .int x3, .int k3])) (s2 := t2) (s3 := .own (.lst ((fairL A b n n).map pairD))) (s4 := t4) (s5 := .fz (.tup ((fairL A b n n).map pairD))) (s6 := .em) (s7 := .fz (.int (b : Nat))) (s9 := t9) (s10 := t10) (s11 := .em) (s12 := .em) (s13 := .em) (s14 := .em) (s15 := .em)
  have e3' : m__law_rule [.lst [.int a2, .int x2, .int k2], .int (b : Nat), .int (n : Nat)] = _ := e3
  unfold m__law_right x__law_right xFor
  have pc := pair_comp (xs := fairL A b n n) ll (s0 := .io (.lst [.int a3, .int x3, .int k3])) (s1 := .fz q) (s2 := t2) (s3 := .own (.lst ((fairL A b n n).map pairD))) (s4 := .em) (s6 := .own (.lst (((List.range n).filter fun p => sureB A b n p).map figD))) (s7 := .fz (.int (b : Nat))) (s8 := .fz (.int (n : Nat))) (s9 := t9) (s10 := t10) (s11 := .em) (s12 := .em) (s13 := .em)
  have sl : (((List.range n).filter fun p => sureB A b n p).map figD).length = ((List.range n).filter fun p => sureB A b n p).length := List.length_map _
  by_cases h2 : ((List.range n).filter fun p => sureB A b n p).length < 2
  · have h2' : decide ((((((List.range n).filter fun p => sureB A b n p).map figD).length : Nat) : Int) < 2) = true := decide_eq_true (by omega)
    simp [freezeAll, runN, runIO, endN, endIO, endV, xRet, xRetN, xSeq, xSet, xIf, xDrop, xNil, xBind, xNo, xPut, xPar, putAll, putV, mAndV, mOrV, mNotB, mAndT, mOrT, mNotT, mTestB, mTruth, truth, mIf, mFn, mFnIO, mConsA, mNilA, mConsD, mNilD, mConsV, mNilV, mStarD, items, mArg, mRet, retV, argV, mVar, mFz, mCall, mUn, lookAll, lookL, scal_non, scal_bl, scal_int, scal_str, scal_tup, scal_lst, scal_own, mChain, mBin, hold, look, mutAt, Slot.mut, mTup, mLst, mMut, mMth, mSlice, mNoO, mSomeO, mIsi, setC, tyOf, LINE, dLe, dLt, dGt, dGe, dAdd, dSub, dMul, dDiv, dMod, dNeg, bName, bTup, bCons, bNil, e1', hbe, e2', hne, e3', gc, iRange1, b6, rangeD_eq, List.replicate, lp, fa, rp, np, nt, ac, sc2, dTuple, dLen, h2', -List.map_map, -List.length_map]
  · have tw := two_sure b0 h2
    have da : dAll [.lst ((fairL A b n n).map fun x => D.bl (x.1 == x.2))] = some (.fz (.bl true)) := by
      have e : (fairL A b n n).map (fun x => D.bl (x.1 == x.2)) = (fairL A b n n).map fun _ => D.bl true :=
        List.map_congr_left fun x hx => by rw [tw x hx, beq_self_eq_true]
      rw [e]
      have ab := allD_true (fairL A b n n)
      show (match blsOf ((fairL A b n n).map fun _ => D.bl true) with
        | some ns => some (Val.fz (.bl (ns.all id)))
        | _ => none) = _
      rw [ab]
      have al : ((fairL A b n n).map fun _ => true).all id = true := by
        rw [List.all_eq_true]
        intro x hx
        obtain ⟨_, _, rfl⟩ := List.mem_map.mp hx
        rfl
      dsimp only
      rw [al]
    have h2' : decide ((((((List.range n).filter fun p => sureB A b n p).map figD).length : Nat) : Int) < 2) = false := decide_eq_false (by omega)
    simp [freezeAll, runN, runIO, endN, endIO, endV, xRet, xRetN, xSeq, xSet, xIf, xDrop, xNil, xBind, xNo, xPut, xPar, putAll, putV, mAndV, mOrV, mNotB, mAndT, mOrT, mNotT, mTestB, mTruth, truth, mIf, mFn, mFnIO, mConsA, mNilA, mConsD, mNilD, mConsV, mNilV, mStarD, items, mArg, mRet, retV, argV, mVar, mFz, mCall, mUn, lookAll, lookL, scal_non, scal_bl, scal_int, scal_str, scal_tup, scal_lst, scal_own, mChain, mBin, hold, look, mutAt, Slot.mut, mTup, mLst, mMut, mMth, mSlice, mNoO, mSomeO, mIsi, setC, tyOf, LINE, dLe, dLt, dGt, dGe, dAdd, dSub, dMul, dDiv, dMod, dNeg, bName, bTup, bCons, bNil, e1', hbe, e2', hne, e3', gc, iRange1, b6, rangeD_eq, List.replicate, lp, fa, rp, np, nt, ac, sc2, pc, da, dTuple, dLen, h2', -List.map_map, -List.length_map]
end Pv
end

section
set_option maxRecDepth 100000
set_option maxHeartbeats 4000000
namespace Pv
open PySem PySem.Spec L2 PyProof.Rows
theorem intsOf_int (ns : List Int) : intsOf (ns.map D.int) = some ns := by
  induction ns with
  | nil => rfl
  | cons n ns ih => rw [List.map_cons]; unfold intsOf; rw [ih]
theorem seq_set {i : Nat} {f : Ev} {g : ExS} {e e1 e2 : DEnv} {x : Val} (h : f e = some (x, e1)) (p : putV i x e1 = some e2) : xSeq (xSet i f) g e = g e2 := by
  unfold xSeq xSet
  rw [h]
  show (match (putV i x e1).bind fun e2 => some (SOut.nx e2) with
    | some (.nx e1) => g e1
    | o => o) = _
  rw [p]; rfl
theorem pow_300 : ∃ U : Int, 0 < U ∧ mBin dPow (mBin dPow (mFz (.int 10)) (mFz (.int 60))) (mFz (.int 5)) = mFz (.int U) :=
  ⟨10 ^ 300, by decide +kernel, funext fun e => by kernel_rfl⟩
theorem pow_18 : ∃ U : Int, mBin dPow (mFz (.int 10)) (mFz (.int 18)) = mFz (.int U) :=
  ⟨10 ^ 18, funext fun e => by kernel_rfl⟩
theorem pot_ok {ns : List Int} {p : Nat} (hp : p ≤ 3) : ∃ pot, m__law_pot [.scr (ns.map .int), .int (p : Nat)] = some ⟨.own pot, .non⟩ ∧ Pot 0 pot := by
  obtain ⟨U, hU, q5⟩ := pow_300
  obtain ⟨W, q6⟩ := pow_18
  have ln : dLen [.scr (ns.map .int)] = some (.fz (.int (ns.length : Nat))) := by
    show some (Val.fz (.int ((ns.map D.int).length : Nat))) = _
    rw [List.length_map]
  obtain ⟨c, hc⟩ : ∃ c : Int, mIf (mTestB (mBin dLt (mVar 1) (mCall dLen (mConsA (mVar 0) (mNilA))))) (mBin dIx (mVar 0) (mVar 1)) (mBin dAdd (mBin dAdd (mBin dMod (mCall dSum (mConsA (mSlice dSl (mVar 0) (mNoO) (mSomeO (mFz (.int 1)))) (mNilA))) (mFz (.int 1000319))) (mBin dMul (mFz (.int 5113)) (mVar 1))) (mFz (.int 811))) [.fz (.scr (ns.map .int)), .fz (.int (p : Nat)), .em, .em, .em] = some (.fz (.int c), [.fz (.scr (ns.map .int)), .fz (.int (p : Nat)), .em, .em, .em]) := by
    by_cases h : p < ns.length
    · have h' : decide (((p : Nat) : Int) < (ns.length : Nat)) = true := decide_eq_true (by omega)
      obtain ⟨x, hx⟩ := get_of (l := ns) (i := p) h
      have ix : dIx (.scr (ns.map .int)) (.int (p : Nat)) = some (.fz (.int x)) := by
        show (L2.atI (ns.map D.int) ((p : Nat) : Int)).map Val.fz = _
        rw [atI_nat (v := D.int x) (by rw [List.getElem?_map, hx]; rfl)]; rfl
      refine ⟨x, ?_⟩
      simp [freezeAll, runN, runIO, endN, endIO, endV, xRet, xRetN, xSeq, xSet, xIf, xDrop, xNil, xBind, xNo, xPut, xPar, putAll, putV, mAndV, mOrV, mNotB, mAndT, mOrT, mNotT, mTestB, mTruth, truth, mIf, mFn, mFnIO, mConsA, mNilA, mConsD, mNilD, mConsV, mNilV, mStarD, items, mArg, mRet, retV, argV, mVar, mFz, mCall, mUn, lookAll, lookL, scal_non, scal_bl, scal_int, scal_str, scal_tup, scal_lst, scal_own, mChain, mBin, hold, look, mutAt, Slot.mut, mTup, mLst, mMut, mMth, mSlice, mNoO, mSomeO, mIsi, setC, tyOf, LINE, dLe, dLt, dGt, dGe, dAdd, dSub, dMul, dDiv, dMod, dNeg, bName, bTup, bCons, bNil, ln, h, h', ix]
    · have h' : decide (((p : Nat) : Int) < (ns.length : Nat)) = false := decide_eq_false (by omega)
      have sl : ∃ m : List Int, dSl (.scr (ns.map .int)) none (some 1) = some (.own (.lst (m.map .int))) := by
        refine ⟨(ns.drop (HT.sIx ns.length 0 none)).take (HT.sIx ns.length ns.length (some 1) - HT.sIx ns.length 0 none), ?_⟩
        show some (Val.own (.lst (cutD (ns.map D.int) none (some 1)))) = _
        unfold cutD
        rw [List.length_map, List.map_take, List.map_drop]
      obtain ⟨m, sl⟩ := sl
      have im := intsOf_int m
      have m1 : mulOk 5113 (p : Nat) = true := mulOk_l _ (by decide) (by decide)
      refine ⟨m.sum % 1000319 + 5113 * (p : Nat) + 811, ?_⟩
      simp [freezeAll, runN, runIO, endN, endIO, endV, xRet, xRetN, xSeq, xSet, xIf, xDrop, xNil, xBind, xNo, xPut, xPar, putAll, putV, mAndV, mOrV, mNotB, mAndT, mOrT, mNotT, mTestB, mTruth, truth, mIf, mFn, mFnIO, mConsA, mNilA, mConsD, mNilD, mConsV, mNilV, mStarD, items, mArg, mRet, retV, argV, mVar, mFz, mCall, mUn, lookAll, lookL, scal_non, scal_bl, scal_int, scal_str, scal_tup, scal_lst, scal_own, mChain, mBin, hold, look, mutAt, Slot.mut, mTup, mLst, mMut, mMth, mSlice, mNoO, mSomeO, mIsi, setC, tyOf, LINE, dLe, dLt, dGt, dGe, dAdd, dSub, dMul, dDiv, dMod, dNeg, bName, bTup, bCons, bNil, ln, h, h', sl, dSum, im, m1]
  have m2 : mulOk 6791 (p : Nat) = true := mulOk_l _ (by decide) (by decide)
  have m3 : mulOk (6791 * (p : Nat)) (p : Nat) = true := mulOk_l _ (by omega) (by omega)
  have k1 : 0 ≤ c % 2305843009213693951 := Int.emod_nonneg _ (by decide)
  have k2 : c % 2305843009213693951 < 2305843009213693951 := Int.emod_lt_of_pos _ (by decide)
  have m4 : mulOk (c % 2305843009213693951) 66301 = true := mulOk_l _ (by omega) (by omega)
  have k3 : ∀ z : Int, 0 ≤ z % U := fun z => Int.emod_nonneg _ (by omega)
  have m5 : ∀ z : Int, mulOk z 1 = true := fun z => mulOk_rr _ (by decide) (by decide)
  have m6 : ∀ z : Int, mulOk z 0 = true := fun z => mulOk_rr _ (by decide) (by decide)
  have k4 : ∀ z : Int, 0 ≤ z % 2305843009213693921 := fun z => Int.emod_nonneg _ (by decide)
  have k5 : ∀ z : Int, z % 2305843009213693921 < 2305843009213693921 := fun z => Int.emod_lt_of_pos _ (by decide)
  obtain ⟨a, ha0, ha⟩ : ∃ a : Int, 0 ≤ a ∧ mBin dMul (mBin dMod (mCall dInt (mConsA (mCall dAbs (mConsA (mVar 2) (mNilA))) (mNilA))) (mFz (.int U))) (mCall dInt (mConsA (mBin dGe (mCall dAbs (mConsA (mVar 2) (mNilA))) (mFz (.int W))) (mNilA))) [.fz (.scr (ns.map .int)), .fz (.int (p : Nat)), .fz (.int c), .em, .em] = some (.fz (.int a), [.fz (.scr (ns.map .int)), .fz (.int (p : Nat)), .fz (.int c), .em, .em]) := by
    obtain ⟨cc, da⟩ : ∃ cc : Int, dAbs [.int c] = some (.fz (.int cc)) := ⟨_, rfl⟩
    by_cases hw : W ≤ cc
    · refine ⟨_, k3 cc, ?_⟩
      simp [freezeAll, runN, runIO, endN, endIO, endV, xRet, xRetN, xSeq, xSet, xIf, xDrop, xNil, xBind, xNo, xPut, xPar, putAll, putV, mAndV, mOrV, mNotB, mAndT, mOrT, mNotT, mTestB, mTruth, truth, mIf, mFn, mFnIO, mConsA, mNilA, mConsD, mNilD, mConsV, mNilV, mStarD, items, mArg, mRet, retV, argV, mVar, mFz, mCall, mUn, lookAll, lookL, scal_non, scal_bl, scal_int, scal_str, scal_tup, scal_lst, scal_own, mChain, mBin, hold, look, mutAt, Slot.mut, mTup, mLst, mMut, mMth, mSlice, mNoO, mSomeO, mIsi, setC, tyOf, LINE, dLe, dLt, dGt, dGe, dAdd, dSub, dMul, dDiv, dMod, dNeg, bName, bTup, bCons, bNil, dInt, da, hU, hw, m5]
    · refine ⟨0, by decide, ?_⟩
      simp [freezeAll, runN, runIO, endN, endIO, endV, xRet, xRetN, xSeq, xSet, xIf, xDrop, xNil, xBind, xNo, xPut, xPar, putAll, putV, mAndV, mOrV, mNotB, mAndT, mOrT, mNotT, mTestB, mTruth, truth, mIf, mFn, mFnIO, mConsA, mNilA, mConsD, mNilD, mConsV, mNilV, mStarD, items, mArg, mRet, retV, argV, mVar, mFz, mCall, mUn, lookAll, lookL, scal_non, scal_bl, scal_int, scal_str, scal_tup, scal_lst, scal_own, mChain, mBin, hold, look, mutAt, Slot.mut, mTup, mLst, mMut, mMth, mSlice, mNoO, mSomeO, mIsi, setC, tyOf, LINE, dLe, dLt, dGt, dGe, dAdd, dSub, dMul, dDiv, dMod, dNeg, bName, bTup, bCons, bNil, dInt, da, hU, hw, m6]
  refine ⟨.lst [.int a, .int ((c % 2305843009213693951 * 66301 + 6791 * (p : Nat) * (p : Nat) + 977) % 2305843009213693921), .int 0], ?_, ⟨_, _, _, rfl, ha0, k4 _, by have := k5 (c % 2305843009213693951 * 66301 + 6791 * (p : Nat) * (p : Nat) + 977); omega, by decide, by decide⟩⟩
  unfold m__law_pot x__law_pot
  rw [q5, q6]
  show endN (xSeq _ _ [.fz (.scr (ns.map .int)), .fz (.int (p : Nat)), .em, .em, .em]) = _
  rw [seq_set hc rfl]
  show endN (xSeq _ _ [.fz (.scr (ns.map .int)), .fz (.int (p : Nat)), .fz (.int c), .em, .em]) = _
  rw [seq_set ha rfl]
  simp [freezeAll, runN, runIO, endN, endIO, endV, xRet, xRetN, xSeq, xSet, xIf, xDrop, xNil, xBind, xNo, xPut, xPar, putAll, putV, mAndV, mOrV, mNotB, mAndT, mOrT, mNotT, mTestB, mTruth, truth, mIf, mFn, mFnIO, mConsA, mNilA, mConsD, mNilD, mConsV, mNilV, mStarD, items, mArg, mRet, retV, argV, mVar, mFz, mCall, mUn, lookAll, lookL, scal_non, scal_bl, scal_int, scal_str, scal_tup, scal_lst, scal_own, mChain, mBin, hold, look, mutAt, Slot.mut, mTup, mLst, mMut, mMth, mSlice, mNoO, mSomeO, mIsi, setC, tyOf, LINE, dLe, dLt, dGt, dGe, dAdd, dSub, dMul, dDiv, dMod, dNeg, bName, bTup, bCons, bNil, m2, m3, m4, dInt]
theorem cells_ok {ns : List Int} : ∃ k : Nat, k ≤ 3 ∧ m__law_cells [.scr (ns.map .int), .int 3] = some ⟨.own (.lst ((List.range k).map figD)), .non⟩ := by
  have ln : dLen [.scr (ns.map .int)] = some (.fz (.int (ns.length : Nat))) := by
    show some (Val.fz (.int ((ns.map D.int).length : Nat))) = _
    rw [List.length_map]
  obtain ⟨k, hk, e1⟩ : ∃ k : Nat, k ≤ 3 ∧ (dMin [.int 3, .int (ns.length : Nat)] = some (.fz (.int (k : Nat)))) := by
    by_cases h : ns.length < 3
    · exact ⟨ns.length, by omega, by show some (Val.fz (.int (if ((ns.length : Nat) : Int) < 3 then _ else _))) = _; rw [if_pos (by omega)]⟩
    · exact ⟨3, by omega, by show some (Val.fz (.int (if ((ns.length : Nat) : Int) < 3 then _ else _))) = _; rw [if_neg (by omega)]; rfl⟩
  obtain ⟨j, hj, e2⟩ : ∃ j : Nat, j ≤ 3 ∧ (dMax [.int 1, .int (k : Nat)] = some (.fz (.int (j : Nat)))) := by
    by_cases h : 1 < k
    · exact ⟨k, by omega, by show some (Val.fz (.int (if ((k : Nat) : Int) > 1 then _ else _))) = _; rw [if_pos (by omega)]⟩
    · exact ⟨1, by omega, by show some (Val.fz (.int (if ((k : Nat) : Int) > 1 then _ else _))) = _; rw [if_neg (by omega)]; rfl⟩
  have rg : RgB 0 (j : Nat) = true := by
    match j, hj with
    | 0, _ => rfl
    | 1, _ => rfl
    | 2, _ => rfl
    | 3, _ => rfl
    | j + 4, h => omega
  refine ⟨j, hj, ?_⟩
  unfold m__law_cells x__law_cells mLr1
  simp [freezeAll, runN, runIO, endN, endIO, endV, xRet, xRetN, xSeq, xSet, xIf, xDrop, xNil, xBind, xNo, xPut, xPar, putAll, putV, mAndV, mOrV, mNotB, mAndT, mOrT, mNotT, mTestB, mTruth, truth, mIf, mFn, mFnIO, mConsA, mNilA, mConsD, mNilD, mConsV, mNilV, mStarD, items, mArg, mRet, retV, argV, mVar, mFz, mCall, mUn, lookAll, lookL, scal_non, scal_bl, scal_int, scal_str, scal_tup, scal_lst, scal_own, mChain, mBin, hold, look, mutAt, Slot.mut, mTup, mLst, mMut, mMth, mSlice, mNoO, mSomeO, mIsi, setC, tyOf, LINE, dLe, dLt, dGt, dGe, dAdd, dSub, dMul, dDiv, dMod, dNeg, bName, bTup, bCons, bNil, ln, e1, e2, rg, rangeD_eq]
  intro a _; rfl
theorem law_laps {c : Nat} {pot : D} (hp : Pot c pot) (hc : c + 10000 ≤ 1000000) {s0 s1 : Slot} : ∃ xs pot', mComp (iRange1 (mConsD (mFz (.int 5)) mNilD)) (bName 3) mYes x_law_1 [3] [s0, s1, .own pot, .em] = some (.own (.lst xs), [s0, s1, .own pot', .em]) ∧ xs.length = 5 ∧ (∀ x ∈ xs, x = D.bl true) ∧ Pot (c + 10000) pot' := by
  have h0 : iRange1 (mConsD (mFz (.int 5)) mNilD) [s0, s1, .own pot, .em] = some (rangeD 0 1 5, [s0, s1, .own pot, .em]) := by
    unfold iRange1
    simp [freezeAll, runN, runIO, endN, endIO, endV, xRet, xRetN, xSeq, xSet, xIf, xDrop, xNil, xBind, xNo, xPut, xPar, putAll, putV, mAndV, mOrV, mNotB, mAndT, mOrT, mNotT, mTestB, mTruth, truth, mIf, mFn, mFnIO, mConsA, mNilA, mConsD, mNilD, mConsV, mNilV, mStarD, items, mArg, mRet, retV, argV, mVar, mFz, mCall, mUn, lookAll, lookL, scal_non, scal_bl, scal_int, scal_str, scal_tup, scal_lst, scal_own, mChain, mBin, hold, look, mutAt, Slot.mut, mTup, mLst, mMut, mMth, mSlice, mNoO, mSomeO, mIsi, setC, tyOf, LINE, dLe, dLt, dGt, dGe, dAdd, dSub, dMul, dDiv, dMod, dNeg, bName, bTup, bCons, bNil]
    rfl
  obtain ⟨xs, pot', e, l, P, hp'⟩ := mComp_st (el := x_law_1) (i := 3) (E := fun pot => [s0, s1, .own pot, .em]) (P := fun x => x = D.bl true) (m := 2000) (B := 1000000) (c := c) h0 rfl (fun _ => rfl) (fun _ => Nat.lt_add_one 3) (fun d _ c pot hp hc => by
    obtain ⟨pot', e, hp'⟩ := law_right_ok hp hc
    refine ⟨.bl true, pot', ?_, rfl, hp'⟩
    unfold x_law_1
    simp [freezeAll, runN, runIO, endN, endIO, endV, xRet, xRetN, xSeq, xSet, xIf, xDrop, xNil, xBind, xNo, xPut, xPar, putAll, putV, mAndV, mOrV, mNotB, mAndT, mOrT, mNotT, mTestB, mTruth, truth, mIf, mFn, mFnIO, mConsA, mNilA, mConsD, mNilD, mConsV, mNilV, mStarD, items, mArg, mRet, retV, argV, mVar, mFz, mCall, mUn, lookAll, lookL, scal_non, scal_bl, scal_int, scal_str, scal_tup, scal_lst, scal_own, mChain, mBin, hold, look, mutAt, Slot.mut, mTup, mLst, mMut, mMth, mSlice, mNoO, mSomeO, mIsi, setC, tyOf, LINE, dLe, dLt, dGt, dGe, dAdd, dSub, dMul, dDiv, dMod, dNeg, bName, bTup, bCons, bNil, e]) hp (by rw [rangeD_len]; omega) (by rw [rangeD_len]; decide)
  rw [rangeD_len] at l hp'
  exact ⟨xs, pot', e, l, P, hp'⟩
theorem all_bl {xs : List D} (h : ∀ x ∈ xs, x = D.bl true) : dAll [.lst xs] = some (.fz (.bl true)) := by
  have e : xs = xs.map fun _ => D.bl true := by
    conv => lhs; rw [← List.map_id xs]
    exact List.map_congr_left fun x hx => h x hx
  rw [e]
  have ab := allD_true xs
  show (match blsOf (xs.map fun _ => D.bl true) with
        | some ns => some (Val.fz (.bl (ns.all id)))
        | _ => none) = _
  rw [ab]
  dsimp only
  rw [all_true]
theorem law_cell {ns : List Int} {p : Nat} (hp : p ≤ 3) {s2 : Slot} : ∃ pot, x_law_2 [.fz (.scr (ns.map .int)), .fz (.int (p : Nat)), s2, .em] = some (.nx [.fz (.scr (ns.map .int)), .fz (.int (p : Nat)), .own pot, .em]) := by
  obtain ⟨pot, e, hp0⟩ := pot_ok (ns := ns) hp
  obtain ⟨xs, pot', e1, _, P, _⟩ := law_laps hp0 (by decide) (s0 := .fz (.scr (ns.map .int))) (s1 := .fz (.int (p : Nat)))
  have al := all_bl P
  refine ⟨pot', ?_⟩
  obtain ⟨a, b, k, rfl, _⟩ := hp0.ex
  unfold x_law_2
  simp [freezeAll, runN, runIO, endN, endIO, endV, xRet, xRetN, xSeq, xSet, xIf, xDrop, xNil, xBind, xNo, xPut, xPar, putAll, putV, mAndV, mOrV, mNotB, mAndT, mOrT, mNotT, mTestB, mTruth, truth, mIf, mFn, mFnIO, mConsA, mNilA, mConsD, mNilD, mConsV, mNilV, mStarD, items, mArg, mRet, retV, argV, mVar, mFz, mCall, mUn, lookAll, lookL, scal_non, scal_bl, scal_int, scal_str, scal_tup, scal_lst, scal_own, mChain, mBin, hold, look, mutAt, Slot.mut, mTup, mLst, mMut, mMth, mSlice, mNoO, mSomeO, mIsi, setC, tyOf, LINE, dLe, dLt, dGt, dGe, dAdd, dSub, dMul, dDiv, dMod, dNeg, bName, bTup, bCons, bNil, e, e1, al]
theorem law_for {ns : List Int} : ∀ (ps : List Nat) {s1 s2 : Slot}, (∀ p ∈ ps, p ≤ 3) → ∃ s1' s2', loopF (bName 1) x_law_2 (ps.map figD) [.fz (.scr (ns.map .int)), s1, s2, .em] = some (.nx [.fz (.scr (ns.map .int)), s1', s2', .em])
  | [], s1, s2, _ => ⟨s1, s2, rfl⟩
  | p :: ps, s1, s2, h => by
    obtain ⟨pot, e⟩ := law_cell (ns := ns) (h p List.mem_cons_self) (s2 := s2)
    obtain ⟨s1', s2', e2⟩ := law_for (ns := ns) ps (s1 := .fz (.int (p : Nat))) (s2 := .own pot) fun q hq => h q (List.mem_cons_of_mem _ hq)
    refine ⟨s1', s2', ?_⟩
    rw [List.map_cons]
    unfold loopF
    have b1 : bName 1 (figD p) [.fz (.scr (ns.map .int)), s1, s2, .em] = some [.fz (.scr (ns.map .int)), .fz (.int (p : Nat)), s2, .em] := rfl
    rw [b1]
    dsimp only
    rw [e]
    exact e2
theorem fair_last : m_fairness [.tup [.str "value", .int 2, .int 3, .int 0], .int 3] = ret (.tup [.tup [.int 1, .int 2], .tup [.int 1, .int 2], .tup [.int 1, .int 2]]) := by
  have F := fine_v (b := 2) (n := 3) (w := 3) (d := 0) (by decide) (by decide) (by decide) (by decide) (by decide) (by decide) (by decide)
  have R := rep_v (b := 2) (n := 3) (w := 3) (d := 0) (by decide) (by decide)
  have cf := m_check_few_ok (b := 2) (n := 3) (by decide) (by decide) (by decide) R.base
  have fa := m_fairness_ok R (by decide) (by decide) (by decide) (by decide) F.ck cf
  have e : fairD (vA 2 3 0) 2 3 = [.tup [.int 1, .int 2], .tup [.int 1, .int 2], .tup [.int 1, .int 2]] := by kernel_rfl
  rw [e] at fa
  exact fa
theorem eq_last : dEq (.tup [.tup [.int 1, .int 2], .tup [.int 1, .int 2], .tup [.int 1, .int 2]]) (.tup [.tup [.int 1, .int 2], .tup [.int 1, .int 2], .tup [.int 1, .int 2]]) = some (.fz (.bl true)) := by kernel_rfl
theorem m_law_true (ns : List Int) (h : ns.length ≤ 63) : m_law [.scr (ns.map .int)] = some ⟨.fz (.bl true), .non⟩ := by
  obtain ⟨k, hk, e⟩ := cells_ok (ns := ns)
  obtain ⟨s1, s2, e2⟩ := law_for (ns := ns) (List.range k) (s1 := .em) (s2 := .em) fun p hp => by have := List.mem_range.mp hp; omega
  have fl := fair_last
  have el := eq_last
  unfold m_law x_law xFor iSeq
  simp [freezeAll, runN, runIO, endN, endIO, endV, xRet, xRetN, xSeq, xSet, xIf, xDrop, xNil, xBind, xNo, xPut, xPar, putAll, putV, mAndV, mOrV, mNotB, mAndT, mOrT, mNotT, mTestB, mTruth, truth, mIf, mFn, mFnIO, mConsA, mNilA, mConsD, mNilD, mConsV, mNilV, mStarD, items, mArg, mRet, retV, argV, mVar, mFz, mCall, mUn, lookAll, lookL, scal_non, scal_bl, scal_int, scal_str, scal_tup, scal_lst, scal_own, mChain, mBin, hold, look, mutAt, Slot.mut, mTup, mLst, mMut, mMth, mSlice, mNoO, mSomeO, mIsi, setC, tyOf, LINE, dLe, dLt, dGt, dGe, dAdd, dSub, dMul, dDiv, dMod, dNeg, bName, bTup, bCons, bNil, e, e2, fl, el, List.replicate]
end Pv
end

section
set_option maxRecDepth 100000
set_option maxHeartbeats 0
namespace Pv
open PySem PySem.Spec L2 PyProof.Rows
def d_is_integer : He.DefD := ⟨("is_integer", none), "is_integer", "is_integer", defArgs (top 8), defBody (top 8), defScope (top 8), [], []⟩
def d_is_between : He.DefD := ⟨("is_between", none), "is_between", "is_between", defArgs (top 9), defBody (top 9), defScope (top 9), [], []⟩
def d_are_between : He.DefD := ⟨("are_between", none), "are_between", "are_between", defArgs (top 10), defBody (top 10), defScope (top 10), [], []⟩
def d_check_size : He.DefD := ⟨("check_size", none), "check_size", "check_size", defArgs (top 15), defBody (top 15), defScope (top 15), [], []⟩
def d_all_labels : He.DefD := ⟨("all_labels", none), "all_labels", "all_labels", defArgs (top 16), defBody (top 16), defScope (top 16), [], []⟩
def d_power : He.DefD := ⟨("power", none), "power", "power", defArgs (top 17), defBody (top 17), defScope (top 17), [], []⟩
def d_are_rows : He.DefD := ⟨("are_rows", none), "are_rows", "are_rows", defArgs (top 27), defBody (top 27), defScope (top 27), [], []⟩
def d_is_square_rule : He.DefD := ⟨("is_square_rule", none), "is_square_rule", "is_square_rule", defArgs (top 28), defBody (top 28), defScope (top 28), [], []⟩
def d_is_rule : He.DefD := ⟨("is_rule", none), "is_rule", "is_rule", defArgs (top 29), defBody (top 29), defScope (top 29), [], []⟩
def d_check_rule : He.DefD := ⟨("check_rule", none), "check_rule", "check_rule", defArgs (top 30), defBody (top 30), defScope (top 30), [], []⟩
def d_does_take : He.DefD := ⟨("does_take", none), "does_take", "does_take", defArgs (top 31), defBody (top 31), defScope (top 31), [], []⟩
def d_check_sized : He.DefD := ⟨("check_sized", none), "check_sized", "check_sized", defArgs (top 32), defBody (top 32), defScope (top 32), [], []⟩
def d_check_few : He.DefD := ⟨("check_few", none), "check_few", "check_few", defArgs (top 33), defBody (top 33), defScope (top 33), [], []⟩
def d_begins : He.DefD := ⟨("begins", none), "begins", "begins", defArgs (top 34), defBody (top 34), defScope (top 34), [], []⟩
def d_goes_on : He.DefD := ⟨("goes_on", none), "goes_on", "goes_on", defArgs (top 35), defBody (top 35), defScope (top 35), [], []⟩
def d_tells_of : He.DefD := ⟨("tells_of", none), "tells_of", "tells_of", defArgs (top 36), defBody (top 36), defScope (top 36), [], []⟩
def d_does_suit : He.DefD := ⟨("does_suit", none), "does_suit", "does_suit", defArgs (top 37), defBody (top 37), defScope (top 37), [], []⟩
def d_with_figure : He.DefD := ⟨("with_figure", none), "with_figure", "with_figure", defArgs (top 38), defBody (top 38), defScope (top 38), [], []⟩
def d_completions_of : He.DefD := ⟨("completions_of", none), "completions_of", "completions_of", defArgs (top 39), defBody (top 39), defScope (top 39), [], []⟩
def d_is_sure_place : He.DefD := ⟨("is_sure_place", none), "is_sure_place", "is_sure_place", defArgs (top 40), defBody (top 40), defScope (top 40), [], []⟩
def d_ahead_of : He.DefD := ⟨("ahead_of", none), "ahead_of", "ahead_of", defArgs (top 42), defBody (top 42), defScope (top 42), [], []⟩
def d_behind_of : He.DefD := ⟨("behind_of", none), "behind_of", "behind_of", defArgs (top 43), defBody (top 43), defScope (top 43), [], []⟩
def d_count_at : He.DefD := ⟨("count_at", none), "count_at", "count_at", defArgs (top 44), defBody (top 44), defScope (top 44), [], []⟩
def d_ways_by : He.DefD := ⟨("ways_by", none), "ways_by", "ways_by", defArgs (top 45), defBody (top 45), defScope (top 45), [], []⟩
def d_figure_counts : He.DefD := ⟨("figure_counts", none), "figure_counts", "figure_counts", defArgs (top 46), defBody (top 46), defScope (top 46), [], []⟩
def d_fairness : He.DefD := ⟨("fairness", none), "fairness", "fairness", defArgs (top 48), defBody (top 48), defScope (top 48), [], []⟩
def d__law_pot : He.DefD := ⟨("_law_pot", none), "_law_pot", "_law_pot", defArgs (top 50), defBody (top 50), defScope (top 50), [], []⟩
def d__law_take : He.DefD := ⟨("_law_take", none), "_law_take", "_law_take", defArgs (top 51), defBody (top 51), defScope (top 51), [], []⟩
def d__law_of : He.DefD := ⟨("_law_of", none), "_law_of", "_law_of", defArgs (top 52), defBody (top 52), defScope (top 52), [], []⟩
def d__law_some : He.DefD := ⟨("_law_some", none), "_law_some", "_law_some", defArgs (top 53), defBody (top 53), defScope (top 53), [], []⟩
def d__law_cells : He.DefD := ⟨("_law_cells", none), "_law_cells", "_law_cells", defArgs (top 54), defBody (top 54), defScope (top 54), [], []⟩
def d__law_labels : He.DefD := ⟨("_law_labels", none), "_law_labels", "_law_labels", defArgs (top 55), defBody (top 55), defScope (top 55), [], []⟩
def d__law_tells : He.DefD := ⟨("_law_tells", none), "_law_tells", "_law_tells", defArgs (top 56), defBody (top 56), defScope (top 56), [], []⟩
def d__law_is_good : He.DefD := ⟨("_law_is_good", none), "_law_is_good", "_law_is_good", defArgs (top 57), defBody (top 57), defScope (top 57), [], []⟩
def d__law_rule : He.DefD := ⟨("_law_rule", none), "_law_rule", "_law_rule", defArgs (top 58), defBody (top 58), defScope (top 58), [], []⟩
def d__law_right : He.DefD := ⟨("_law_right", none), "_law_right", "_law_right", defArgs (top 59), defBody (top 59), defScope (top 59), [], []⟩
def d_law : He.DefD := ⟨("law", none), "law", "law", defArgs (top 60), defBody (top 60), defScope (top 60), [], []⟩
def fn : List He.DefD := [d_is_integer, d_is_between, d_are_between, d_check_size, d_all_labels, d_power, d_are_rows, d_is_square_rule, d_is_rule, d_check_rule, d_does_take, d_check_sized, d_check_few, d_begins, d_goes_on, d_tells_of, d_does_suit, d_with_figure, d_completions_of, d_is_sure_place, d_ahead_of, d_behind_of, d_count_at, d_ways_by, d_figure_counts, d_fairness, d__law_pot, d__law_take, d__law_of, d__law_some, d__law_cells, d__law_labels, d__law_tells, d__law_is_good, d__law_rule, d__law_right, d_law]
def fa : List He.Fa := ([.glo "is_integer", .glo "is_between", .glo "are_between", .glo "check_size", .glo "all_labels", .glo "power", .glo "are_rows", .glo "is_square_rule", .glo "is_rule", .glo "check_rule", .glo "does_take", .glo "check_sized", .glo "check_few", .glo "begins", .glo "goes_on", .glo "tells_of", .glo "does_suit", .glo "with_figure", .glo "completions_of", .glo "is_sure_place", .glo "ahead_of", .glo "behind_of", .glo "count_at", .glo "ways_by", .glo "figure_counts"] : List He.Fa) ++ ([.glo "fairness", .glo "_law_pot", .glo "_law_take", .glo "_law_of", .glo "_law_some", .glo "_law_cells", .glo "_law_labels", .glo "_law_tells", .glo "_law_is_good", .glo "_law_rule", .glo "_law_right", .glo "law", .free "len", .free "min", .free "max", .free "list", .free "range", .free "int", .free "abs", .free "sum", .free "isinstance", .free "bool", .free "tuple", .free "all", .str "VALUE" "value"] : List He.Fa) ++ ([.int "MOST_SIZE" 12, .str "WEIGHTS" "weights", .int "MOST_WHOLE" 97, .int "LEAST_WHOLE" 2, .str "SQUARE" "square", .int "MOST_BASE" 16, .int "LEAST_BASE" 2, .free "str", .int "MOST_LABELS" 5000, .str "TABLES" "tables", .free "enumerate", .free "repr"] : List He.Fa)
def loose : List Str := (["SlipError", "BadPlace", "BadRule", "BadSize", "TooMany", "Untaken", "is_integer", "is_between", "are_between", "LEAST_BASE", "MOST_BASE", "MOST_SIZE", "check_size", "all_labels", "power", "WEIGHTS", "TABLES", "SQUARE", "VALUE", "LEAST_WHOLE", "MOST_WHOLE", "MOST_LABELS", "PARTS", "are_rows", "is_square_rule"] : List Str) ++ (["is_rule", "check_rule", "does_take", "check_sized", "check_few", "begins", "goes_on", "tells_of", "does_suit", "with_figure", "completions_of", "is_sure_place", "ahead_of", "behind_of", "count_at", "ways_by", "figure_counts", "fairness", "_law_pot", "_law_take", "_law_of", "_law_some", "_law_cells", "_law_labels", "_law_tells"] : List Str) ++ (["_law_is_good", "_law_rule", "_law_right"] : List Str)
def vl : List TabV := [("PARTS", [("weights", .int 5), ("tables", .int 5), ("square", .int 5), ("value", .int 4)])]
abbrev R : PySem.W.OpenRow := PySem.W.OpenLaw.row PySem.Challenge.rw_everyslipcaught_k62_whole_fairness_of_fi
abbrev hk : PySem.W.Hook := hookP 4 fa fn vl
def ob (s : PySem.W.SharedT) : He.AlT × Bool := obsPG 4 fa fn vl (HandSHeadRun.getT s)
theorem ob_eq (s : PySem.W.SharedT) : ob s = hk.obs s.abs := obsPG_eq (HandSHeadRun.getT_eq s)
theorem run (w : World) : HandSHeadRun.RunEq R (PySem.W.view R.prog [60]) hk ob 4000 loose w :=
  PySem.W.byRow2 "special-get-raises" (P := fun w => HandSHeadRun.RunEq R (PySem.W.view R.prog [60]) hk ob 4000 loose w) (fun w os => by kernel_rfl) (fun w os => by kernel_rfl) w
theorem facts {P : Program} {w : World} {K : Fr} {h : Heap} {mg : Str → Option Value} {f : Addr} (X : K.In h) (G0 : h.Ns mainGlobals mg) (hfa : mg ("law" : Str) = some (.ref f)) (c : SaysP fa fn vl w K) :
    ∃ fd : FuncData, (∀ (s : Shared) (v : Value), BindsTo s fd ⟨[v], []⟩ [("script", v)]) ∧ ∀ base : Heap, K.In base → base.Ns mainGlobals mg → FnG P w K mg base 12 f fd ["script"] (spN K m_law) := by
  have G : Gs w K mg := ⟨He.free_ok X G0 (c.d.fact 37 (f := .free "len") rfl), He.free_ok X G0 (c.d.fact 38 (f := .free "min") rfl), He.free_ok X G0 (c.d.fact 39 (f := .free "max") rfl), He.free_ok X G0 (c.d.fact 40 (f := .free "list") rfl), He.free_ok X G0 (c.d.fact 41 (f := .free "range") rfl), He.free_ok X G0 (c.d.fact 42 (f := .free "int") rfl), He.free_ok X G0 (c.d.fact 43 (f := .free "abs") rfl), He.free_ok X G0 (c.d.fact 44 (f := .free "sum") rfl), He.free_ok X G0 (c.d.fact 45 (f := .free "isinstance") rfl), He.free_ok X G0 (c.d.fact 46 (f := .free "bool") rfl), He.free_ok X G0 (c.d.fact 47 (f := .free "tuple") rfl), He.free_ok X G0 (c.d.fact 48 (f := .free "all") rfl), He.str_ok X G0 (c.d.fact 49 (f := .str "VALUE" "value") rfl), He.int_ok X G0 (c.d.fact 50 (f := .int "MOST_SIZE" 12) rfl), He.str_ok X G0 (c.d.fact 51 (f := .str "WEIGHTS" "weights") rfl), He.int_ok X G0 (c.d.fact 52 (f := .int "MOST_WHOLE" 97) rfl), He.int_ok X G0 (c.d.fact 53 (f := .int "LEAST_WHOLE" 2) rfl), He.str_ok X G0 (c.d.fact 54 (f := .str "SQUARE" "square") rfl), c.tab X G0 0 rfl rfl, He.int_ok X G0 (c.d.fact 55 (f := .int "MOST_BASE" 16) rfl), He.int_ok X G0 (c.d.fact 56 (f := .int "LEAST_BASE" 2) rfl), He.free_ok X G0 (c.d.fact 57 (f := .free "str") rfl), He.int_ok X G0 (c.d.fact 58 (f := .int "MOST_LABELS" 5000) rfl), He.str_ok X G0 (c.d.fact 59 (f := .str "TABLES" "tables") rfl), He.free_ok X G0 (c.d.fact 60 (f := .free "enumerate") rfl), He.free_ok X G0 (c.d.fact 61 (f := .free "repr") rfl)⟩
  obtain ⟨fd_is_integer, F_is_integer⟩ := c.d.def_ 0 (d := d_is_integer) rfl
  have g_is_integer := He.glo_ok X G0 (c.d.fact 0 (f := .glo "is_integer") rfl)
  obtain ⟨fd_is_between, F_is_between⟩ := c.d.def_ 1 (d := d_is_between) rfl
  have g_is_between := He.glo_ok X G0 (c.d.fact 1 (f := .glo "is_between") rfl)
  obtain ⟨fd_are_between, F_are_between⟩ := c.d.def_ 2 (d := d_are_between) rfl
  have g_are_between := He.glo_ok X G0 (c.d.fact 2 (f := .glo "are_between") rfl)
  obtain ⟨fd_check_size, F_check_size⟩ := c.d.def_ 3 (d := d_check_size) rfl
  have g_check_size := He.glo_ok X G0 (c.d.fact 3 (f := .glo "check_size") rfl)
  obtain ⟨fd_all_labels, F_all_labels⟩ := c.d.def_ 4 (d := d_all_labels) rfl
  have g_all_labels := He.glo_ok X G0 (c.d.fact 4 (f := .glo "all_labels") rfl)
  obtain ⟨fd_power, F_power⟩ := c.d.def_ 5 (d := d_power) rfl
  have g_power := He.glo_ok X G0 (c.d.fact 5 (f := .glo "power") rfl)
  obtain ⟨fd_are_rows, F_are_rows⟩ := c.d.def_ 6 (d := d_are_rows) rfl
  have g_are_rows := He.glo_ok X G0 (c.d.fact 6 (f := .glo "are_rows") rfl)
  obtain ⟨fd_is_square_rule, F_is_square_rule⟩ := c.d.def_ 7 (d := d_is_square_rule) rfl
  have g_is_square_rule := He.glo_ok X G0 (c.d.fact 7 (f := .glo "is_square_rule") rfl)
  obtain ⟨fd_is_rule, F_is_rule⟩ := c.d.def_ 8 (d := d_is_rule) rfl
  have g_is_rule := He.glo_ok X G0 (c.d.fact 8 (f := .glo "is_rule") rfl)
  obtain ⟨fd_check_rule, F_check_rule⟩ := c.d.def_ 9 (d := d_check_rule) rfl
  have g_check_rule := He.glo_ok X G0 (c.d.fact 9 (f := .glo "check_rule") rfl)
  obtain ⟨fd_does_take, F_does_take⟩ := c.d.def_ 10 (d := d_does_take) rfl
  have g_does_take := He.glo_ok X G0 (c.d.fact 10 (f := .glo "does_take") rfl)
  obtain ⟨fd_check_sized, F_check_sized⟩ := c.d.def_ 11 (d := d_check_sized) rfl
  have g_check_sized := He.glo_ok X G0 (c.d.fact 11 (f := .glo "check_sized") rfl)
  obtain ⟨fd_check_few, F_check_few⟩ := c.d.def_ 12 (d := d_check_few) rfl
  have g_check_few := He.glo_ok X G0 (c.d.fact 12 (f := .glo "check_few") rfl)
  obtain ⟨fd_begins, F_begins⟩ := c.d.def_ 13 (d := d_begins) rfl
  have g_begins := He.glo_ok X G0 (c.d.fact 13 (f := .glo "begins") rfl)
  obtain ⟨fd_goes_on, F_goes_on⟩ := c.d.def_ 14 (d := d_goes_on) rfl
  have g_goes_on := He.glo_ok X G0 (c.d.fact 14 (f := .glo "goes_on") rfl)
  obtain ⟨fd_tells_of, F_tells_of⟩ := c.d.def_ 15 (d := d_tells_of) rfl
  have g_tells_of := He.glo_ok X G0 (c.d.fact 15 (f := .glo "tells_of") rfl)
  obtain ⟨fd_does_suit, F_does_suit⟩ := c.d.def_ 16 (d := d_does_suit) rfl
  have g_does_suit := He.glo_ok X G0 (c.d.fact 16 (f := .glo "does_suit") rfl)
  obtain ⟨fd_with_figure, F_with_figure⟩ := c.d.def_ 17 (d := d_with_figure) rfl
  have g_with_figure := He.glo_ok X G0 (c.d.fact 17 (f := .glo "with_figure") rfl)
  obtain ⟨fd_completions_of, F_completions_of⟩ := c.d.def_ 18 (d := d_completions_of) rfl
  have g_completions_of := He.glo_ok X G0 (c.d.fact 18 (f := .glo "completions_of") rfl)
  obtain ⟨fd_is_sure_place, F_is_sure_place⟩ := c.d.def_ 19 (d := d_is_sure_place) rfl
  have g_is_sure_place := He.glo_ok X G0 (c.d.fact 19 (f := .glo "is_sure_place") rfl)
  obtain ⟨fd_ahead_of, F_ahead_of⟩ := c.d.def_ 20 (d := d_ahead_of) rfl
  have g_ahead_of := He.glo_ok X G0 (c.d.fact 20 (f := .glo "ahead_of") rfl)
  obtain ⟨fd_behind_of, F_behind_of⟩ := c.d.def_ 21 (d := d_behind_of) rfl
  have g_behind_of := He.glo_ok X G0 (c.d.fact 21 (f := .glo "behind_of") rfl)
  obtain ⟨fd_count_at, F_count_at⟩ := c.d.def_ 22 (d := d_count_at) rfl
  have g_count_at := He.glo_ok X G0 (c.d.fact 22 (f := .glo "count_at") rfl)
  obtain ⟨fd_ways_by, F_ways_by⟩ := c.d.def_ 23 (d := d_ways_by) rfl
  have g_ways_by := He.glo_ok X G0 (c.d.fact 23 (f := .glo "ways_by") rfl)
  obtain ⟨fd_figure_counts, F_figure_counts⟩ := c.d.def_ 24 (d := d_figure_counts) rfl
  have g_figure_counts := He.glo_ok X G0 (c.d.fact 24 (f := .glo "figure_counts") rfl)
  obtain ⟨fd_fairness, F_fairness⟩ := c.d.def_ 25 (d := d_fairness) rfl
  have g_fairness := He.glo_ok X G0 (c.d.fact 25 (f := .glo "fairness") rfl)
  obtain ⟨fd__law_pot, F__law_pot⟩ := c.d.def_ 26 (d := d__law_pot) rfl
  have g__law_pot := He.glo_ok X G0 (c.d.fact 26 (f := .glo "_law_pot") rfl)
  obtain ⟨fd__law_take, F__law_take⟩ := c.d.def_ 27 (d := d__law_take) rfl
  have g__law_take := He.glo_ok X G0 (c.d.fact 27 (f := .glo "_law_take") rfl)
  obtain ⟨fd__law_of, F__law_of⟩ := c.d.def_ 28 (d := d__law_of) rfl
  have g__law_of := He.glo_ok X G0 (c.d.fact 28 (f := .glo "_law_of") rfl)
  obtain ⟨fd__law_some, F__law_some⟩ := c.d.def_ 29 (d := d__law_some) rfl
  have g__law_some := He.glo_ok X G0 (c.d.fact 29 (f := .glo "_law_some") rfl)
  obtain ⟨fd__law_cells, F__law_cells⟩ := c.d.def_ 30 (d := d__law_cells) rfl
  have g__law_cells := He.glo_ok X G0 (c.d.fact 30 (f := .glo "_law_cells") rfl)
  obtain ⟨fd__law_labels, F__law_labels⟩ := c.d.def_ 31 (d := d__law_labels) rfl
  have g__law_labels := He.glo_ok X G0 (c.d.fact 31 (f := .glo "_law_labels") rfl)
  obtain ⟨fd__law_tells, F__law_tells⟩ := c.d.def_ 32 (d := d__law_tells) rfl
  have g__law_tells := He.glo_ok X G0 (c.d.fact 32 (f := .glo "_law_tells") rfl)
  obtain ⟨fd__law_is_good, F__law_is_good⟩ := c.d.def_ 33 (d := d__law_is_good) rfl
  have g__law_is_good := He.glo_ok X G0 (c.d.fact 33 (f := .glo "_law_is_good") rfl)
  obtain ⟨fd__law_rule, F__law_rule⟩ := c.d.def_ 34 (d := d__law_rule) rfl
  have g__law_rule := He.glo_ok X G0 (c.d.fact 34 (f := .glo "_law_rule") rfl)
  obtain ⟨fd__law_right, F__law_right⟩ := c.d.def_ 35 (d := d__law_right) rfl
  have g__law_right := He.glo_ok X G0 (c.d.fact 35 (f := .glo "_law_right") rfl)
  obtain ⟨fd_law, F_law⟩ := c.d.def_ 36 (d := d_law) rfl
  have e := hfa.symm.trans (He.glo_ok X G0 (c.d.fact 36 (f := .glo "law") rfl))
  cases e
  refine ⟨fd_law, fun s v => FunD.bindsA (ps := ["script"]) F_law (fun _ _ _ _ _ _ us hl => match us, hl with | [_], _ => rfl) s [v] rfl, fun base _ _ => ?_⟩
  have c__law_cells : Cal P w K mg base 1 "_law_cells" (spN K m__law_cells) := b__law_cells G  F__law_cells g__law_cells
  have c__law_pot : Cal P w K mg base 1 "_law_pot" (spN K m__law_pot) := b__law_pot G  F__law_pot g__law_pot
  have c_is_integer : Cal P w K mg base 1 "is_integer" (spN K m_is_integer) := b_is_integer G  F_is_integer g_is_integer
  have c_is_between : Cal P w K mg base 2 "is_between" (spN K m_is_between) := b_is_between c_is_integer F_is_between g_is_between
  have c_are_between : Cal P w K mg base 3 "are_between" (spN K m_are_between) := b_are_between G c_is_between F_are_between g_are_between
  have c_are_rows : Cal P w K mg base 4 "are_rows" (spN K m_are_rows) := b_are_rows G c_are_between F_are_rows g_are_rows
  have c_is_square_rule : Cal P w K mg base 5 "is_square_rule" (spN K m_is_square_rule) := b_is_square_rule G c_is_between c_are_rows F_is_square_rule g_is_square_rule
  have c_is_rule : Cal P w K mg base 6 "is_rule" (spN K m_is_rule) := b_is_rule G c_are_rows c_are_between c_is_between c_is_square_rule F_is_rule g_is_rule
  have c_check_rule : Cal P w K mg base 7 "check_rule" (spN K m_check_rule) := b_check_rule c_is_rule F_check_rule g_check_rule
  have c_check_size : Cal P w K mg base 3 "check_size" (spN K m_check_size) := b_check_size G c_is_between F_check_size g_check_size
  have c_does_take : Cal P w K mg base 1 "does_take" (spN K m_does_take) := b_does_take G  F_does_take g_does_take
  have c_check_sized : Cal P w K mg base 8 "check_sized" (spN K m_check_sized) := b_check_sized c_does_take c_check_size c_check_rule F_check_sized g_check_sized
  have c_power : Cal P w K mg base 1 "power" (spN K m_power) := b_power G  F_power g_power
  have c_check_few : Cal P w K mg base 2 "check_few" (spN K m_check_few) := b_check_few G c_power F_check_few g_check_few
  have c_begins : Cal P w K mg base 1 "begins" (spN K m_begins) := b_begins G  F_begins g_begins
  have c_goes_on : Cal P w K mg base 1 "goes_on" (spN K m_goes_on) := b_goes_on G  F_goes_on g_goes_on
  have c_ahead_of : Cal P w K mg base 2 "ahead_of" (spN K m_ahead_of) := b_ahead_of G c_goes_on c_begins F_ahead_of g_ahead_of
  have c_behind_of : Cal P w K mg base 2 "behind_of" (spN K m_behind_of) := b_behind_of G c_goes_on F_behind_of g_behind_of
  have c_ways_by : Cal P w K mg base 3 "ways_by" (spN K m_ways_by) := b_ways_by c_behind_of c_ahead_of F_ways_by g_ways_by
  have c_count_at : Cal P w K mg base 2 "count_at" (spN K m_count_at) := b_count_at c_goes_on F_count_at g_count_at
  have c_figure_counts : Cal P w K mg base 9 "figure_counts" (spN K m_figure_counts) := b_figure_counts G c_count_at c_ways_by c_check_sized F_figure_counts g_figure_counts
  have c_fairness : Cal P w K mg base 10 "fairness" (spN K m_fairness) := b_fairness G c_figure_counts c_check_few c_check_sized F_fairness g_fairness
  have c__law_take : Cal P w K mg base 1 "_law_take" (spIO K m__law_take) := b__law_take G  F__law_take g__law_take
  have c__law_of : Cal P w K mg base 2 "_law_of" (spIO K m__law_of) := b__law_of G c__law_take F__law_of g__law_of
  have c__law_some : Cal P w K mg base 2 "_law_some" (spIO K m__law_some) := b__law_some G c__law_take F__law_some g__law_some
  have c__law_rule : Cal P w K mg base 3 "_law_rule" (spIO K m__law_rule) := b__law_rule G c__law_take c__law_some c__law_of F__law_rule g__law_rule
  have c__law_labels : Cal P w K mg base 1 "_law_labels" (spN K m__law_labels) := b__law_labels G  F__law_labels g__law_labels
  have c__law_tells : Cal P w K mg base 1 "_law_tells" (spN K m__law_tells) := b__law_tells G  F__law_tells g__law_tells
  have c__law_is_good : Cal P w K mg base 2 "_law_is_good" (spN K m__law_is_good) := b__law_is_good c__law_tells F__law_is_good g__law_is_good
  have c_all_labels : Cal P w K mg base 1 "all_labels" (spN K m_all_labels) := b_all_labels G  F_all_labels g_all_labels
  have c_tells_of : Cal P w K mg base 2 "tells_of" (spN K m_tells_of) := b_tells_of G c_goes_on c_begins F_tells_of g_tells_of
  have c_does_suit : Cal P w K mg base 3 "does_suit" (spN K m_does_suit) := b_does_suit c_tells_of F_does_suit g_does_suit
  have c_with_figure : Cal P w K mg base 1 "with_figure" (spN K m_with_figure) := b_with_figure  F_with_figure g_with_figure
  have c_completions_of : Cal P w K mg base 4 "completions_of" (spN K m_completions_of) := b_completions_of G c_does_suit c_with_figure F_completions_of g_completions_of
  have c_is_sure_place : Cal P w K mg base 9 "is_sure_place" (spN K m_is_sure_place) := b_is_sure_place G c_completions_of c_all_labels c_check_few c_is_between c_check_sized F_is_sure_place g_is_sure_place
  have c__law_right : Cal P w K mg base 11 "_law_right" (spIO K m__law_right) := b__law_right G c_is_sure_place c_figure_counts c_fairness c__law_labels c__law_is_good c__law_rule c__law_take F__law_right g__law_right
  exact b_law G c_fairness c__law_cells c__law_right c__law_pot F_law
end Pv
end

open PySem PySem.W PySem.Calls PyProof.Rows
theorem PySem.Challenge.cw_everyslipcaught_k62_whole_fairness_of_fi_holds : PySem.Challenge.rw_everyslipcaught_k62_whole_fairness_of_fi.Holds := by
  w_on; o_law
  refine HandSHeadRun.head_any (r := OpenLaw.row PySem.Challenge.rw_everyslipcaught_k62_whole_fairness_of_fi) (q := view (OpenLaw.row PySem.Challenge.rw_everyslipcaught_k62_whole_fairness_of_fi).prog [60]) (H := Pv.hk) (ob := Pv.ob) (M := 4000) (loose := Pv.loose) (d := HandSHeadRun.topDef (OpenLaw.row PySem.Challenge.rw_everyslipcaught_k62_whole_fairness_of_fi).prog 60) (kwd := []) Pv.ob_eq
    (by kernel_rfl) (fun s => by kernel_rfl) Pv.run (by kernel_rfl) (by kernel_rfl) (by kernel_rfl) (by rfl) (by first | assumption | decide +kernel) (by decide +kernel) ⟨rfl, rfl, rfl, rfl, rfl, by decide +kernel⟩ ?hw ?hc
  case hw => w_witness2
  case hc =>
    refine Pv.walk_G (l := PySem.Challenge.rw_everyslipcaught_k62_whole_fairness_of_fi) (n := 63) (k := 12) (x := "script") (m := Pv.m_law) rfl (by decide) (by kernel_rfl) ⟨rfl, by decide, by decide⟩ ?F Pv.m_law_true
    intro w mg fa h Y G hmg0
    obtain ⟨K, KX, c⟩ := Y
    have hmg : mg ("law" : PySem.Str) = some (.ref fa) := by
      have e : (HandSHeadRun.topDef (OpenLaw.row PySem.Challenge.rw_everyslipcaught_k62_whole_fairness_of_fi).prog 60).name = ("law" : PySem.Str) := by kernel_rfl
      rw [← e]
      exact hmg0
    obtain ⟨fd, hb, hF⟩ := Pv.facts (P := (PySem.Challenge.rw_everyslipcaught_k62_whole_fairness_of_fi).prog) (w := w) KX G hmg c
    exact ⟨K, fd, KX, hb, hF⟩
