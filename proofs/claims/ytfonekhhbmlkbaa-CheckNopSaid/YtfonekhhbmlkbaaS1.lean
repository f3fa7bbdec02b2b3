/- Memory as owned parts: lists of assertions over a world, with a frame; no program in sight. -/
import Derived.Deep.AppendSrc
import Derived.Deep.MidRow
import Derived.Deep.Upon
import Derived.LoopN
import Derived.Below
import Derived.KernelRfl
namespace Go.Sym
open Go

abbrev Frag := Nat → Option Obj
def Le (g h : Frag) : Prop := ∀ b o, g b = some o → h b = some o
def Dj (g h : Frag) : Prop := ∀ b, g b = none ∨ h b = none
def emp : Frag := fun _ => none
def un (g h : Frag) : Frag := fun b => match g b with | some o => some o | none => h b
def hp (w : World) : Frag := fun b => w.heap[b]?

theorem Le.refl (g : Frag) : Le g g := fun _ _ h => h
theorem Le.trans {a b c : Frag} (h : Le a b) (k : Le b c) : Le a c := fun x o e => k x o (h x o e)
theorem Le.emp (g : Frag) : Le emp g := fun _ _ h => by cases h
theorem Dj.symm {g h : Frag} (k : Dj g h) : Dj h g := fun b => (k b).symm
theorem Dj.emp (g : Frag) : Dj emp g := fun _ => .inl rfl
theorem none_of_le {g h : Frag} (k : Le g h) {b : Nat} (e : h b = none) : g b = none := by
  cases hg : g b with
  | none => rfl
  | some o => rw [k b o hg] at e; cases e
theorem Dj.mono {g h g' h' : Frag} (k : Dj g h) (hg : Le g' g) (hh : Le h' h) : Dj g' h' := fun b =>
  (k b).elim (fun e => .inl (none_of_le hg e)) (fun e => .inr (none_of_le hh e))
theorem Dj.none {g h : Frag} (k : Dj g h) {b : Nat} (e : g b ≠ none) : h b = none := (k b).resolve_left e
theorem Le.un_left (g h : Frag) : Le g (un g h) := fun b o e => by simp [un, e]
theorem Le.un_right {g h : Frag} (k : Dj g h) : Le h (un g h) := fun b o e => by
  rcases k b with e' | e'
  · simp [un, e', e]
  · rw [e'] at e; cases e
theorem Le.un {g h k : Frag} (a : Le g k) (b : Le h k) : Le (un g h) k := fun x o e => by
  unfold Sym.un at e
  cases hg : g x with
  | some y => rw [hg] at e; exact a x o (hg.trans e)
  | none => rw [hg] at e; exact b x o e
theorem Dj.un {g h k : Frag} (a : Dj g k) (b : Dj h k) : Dj (un g h) k := fun x => by
  rcases a x with e | e
  · rcases b x with e' | e'
    · left; simp [Sym.un, e, e']
    · exact .inr e'
  · exact .inr e

structure Assn where
  p : Frag → Frag → Prop
  mono : ∀ {G G' h : Frag}, Le G G' → p G h → p G' h

/-- What has no part of its own in memory may be kept twice. -/
class Dup (A : Assn) : Prop where
  dup : ∀ G h, A.p G h → A.p G emp

def Sat (G : Frag) : List Assn → Frag → Prop
  | [], _ => True
  | A :: L, h => ∃ h1 h2, Dj h1 h2 ∧ Le h1 h ∧ Le h2 h ∧ A.p G h1 ∧ Sat G L h2

theorem Sat.up {G : Frag} : ∀ {L : List Assn} {h h' : Frag}, Le h h' → Sat G L h → Sat G L h'
  | [], _, _, _, _ => trivial
  | _ :: _, _, _, k, ⟨h1, h2, d, a, b, p, s⟩ => ⟨h1, h2, d, a.trans k, b.trans k, p, s⟩
theorem Sat.monoG {G G' : Frag} (k : Le G G') : ∀ {L : List Assn} {h : Frag}, Sat G L h → Sat G' L h
  | [], _, _ => trivial
  | A :: _, _, ⟨h1, h2, d, a, b, p, s⟩ => ⟨h1, h2, d, a, b, A.mono k p, Sat.monoG k s⟩

structure Same (W w : World) : Prop where
  os : w.os = W.os
  tape : w.tape = W.tape
  output : w.output = W.output
theorem Same.refl (W : World) : Same W W := ⟨rfl, rfl, rfl⟩
theorem Same.trans {a b c : World} (h : Same a b) (k : Same b c) : Same a c := ⟨k.os.trans h.os, k.tape.trans h.tape, k.output.trans h.output⟩

def St (W w : World) (L : List Assn) : Prop := ∃ G h, Le G (hp w) ∧ Le h (hp w) ∧ Dj G h ∧ Sat G L h ∧ Same W w

def Ent (L L' : List Assn) : Prop := ∀ G h, Sat G L h → Sat G L' h
theorem St.ent {W w : World} {L L' : List Assn} (h : St W w L) (k : Ent L L') : St W w L' :=
  let ⟨G, f, a, b, d, s, m⟩ := h; ⟨G, f, a, b, d, k G f s, m⟩
theorem Ent.refl (L : List Assn) : Ent L L := fun _ _ h => h
theorem Ent.trans {a b c : List Assn} (h : Ent a b) (k : Ent b c) : Ent a c := fun G f s => k G f (h G f s)
theorem Ent.cons (A : Assn) {L L' : List Assn} (h : Ent L L') : Ent (A :: L) (A :: L') :=
  fun G _ ⟨h1, h2, d, a, b, p, s⟩ => ⟨h1, h2, d, a, b, p, h G h2 s⟩
theorem Ent.drop (A : Assn) (L : List Assn) : Ent (A :: L) L := fun _ _ ⟨_, _, _, _, b, _, s⟩ => s.up b
theorem Ent.swap (A B : Assn) (L : List Assn) : Ent (A :: B :: L) (B :: A :: L) := by
  rintro G h ⟨h1, h2, d, a, b, p, h3, h4, d', a', b', q, s⟩
  refine ⟨h3, un h1 h4, ?_, a'.trans b, Le.un a (b'.trans b), q, h1, h4, ?_, Le.un_left _ _, ?_, p, s⟩
  · exact (Dj.un (d.mono (Le.refl _) a') d'.symm).symm
  · exact d.mono (Le.refl _) b'
  · exact Le.un_right (d.mono (Le.refl _) b')
theorem Ent.take : ∀ (i : Nat) {L : List Assn} {A : Assn}, L[i]? = some A → Ent L (A :: L.eraseIdx i)
  | _, [], _, h => by simp at h
  | 0, B :: L, A, h => by simp only [List.getElem?_cons_zero, Option.some.injEq] at h; subst h; exact Ent.refl _
  | i + 1, B :: L, A, h => by
    simp only [List.getElem?_cons_succ] at h
    exact ((Ent.take i h).cons B).trans (Ent.swap _ _ _)
theorem Ent.put : ∀ (i : Nat) {L : List Assn} (A : Assn), i < L.length → Ent (A :: L.eraseIdx i) (L.set i A)
  | _, [], _, h => by simp at h
  | 0, _ :: L, A, _ => Ent.refl _
  | i + 1, B :: L, A, h => (Ent.swap _ _ _).trans ((Ent.put i A (by simpa using h)).cons B)
theorem Ent.copy (i : Nat) {L : List Assn} {A : Assn} (h : L[i]? = some A) [D : Dup A] : Ent L (A :: L) := by
  intro G f s
  obtain ⟨h1, _, _, _, _, p, _⟩ := Ent.take i h G f s
  exact ⟨emp, f, Dj.emp _, Le.emp _, Le.refl _, D.dup _ _ p, s⟩
theorem Ent.add {A : Assn} {L : List Assn} (h : ∀ G, A.p G emp) : Ent L (A :: L) := fun G f s => ⟨emp, f, Dj.emp _, Le.emp _, Le.refl _, h G, s⟩
theorem lt_of_get {L : List Assn} {i : Nat} {A : Assn} (h : L[i]? = some A) : i < L.length := by
  rcases Nat.lt_or_ge i L.length with k | k
  · exact k
  · rw [List.getElem?_eq_none k] at h; cases h

/-- What a duplicable assertion says, out of the state. -/
theorem St.get {W w : World} {L : List Assn} (h : St W w L) (i : Nat) {A : Assn} (hi : L[i]? = some A) :
    ∃ G h1, Le G (hp w) ∧ Le h1 (hp w) ∧ Dj G h1 ∧ A.p G h1 := by
  obtain ⟨G, f, a, b, d, s, m⟩ := h
  obtain ⟨h1, h2, d', a', b', p, s'⟩ := Ent.take i hi G f s
  exact ⟨G, h1, a, a'.trans b, d.mono (Le.refl _) a', p⟩
theorem St.same {W w : World} {L : List Assn} (h : St W w L) : Same W w := by
  obtain ⟨G, f, a, b, d, s, m⟩ := h
  exact m

/-- The local law: what happens to one assertion's own blocks and to new blocks leaves all else. -/
theorem St.loc {X : Type} {W w w' : World} {A : Assn} {A' : X → Assn} {L : List Assn} (h : St W w (A :: L)) (hb : Same w w')
    (f : ∀ G h1, Le G (hp w) → Le h1 (hp w) → Dj G h1 → A.p G h1 → ∃ x h1', (A' x).p G h1' ∧ Le h1' (hp w') ∧
      (∀ b o, hp w b = some o → h1 b = none → hp w' b = some o) ∧ (∀ b, h1' b ≠ none → h1 b ≠ none ∨ hp w b = none)) : ∃ x, St W w' (A' x :: L) := by
  obtain ⟨G, g, a, b, d, ⟨h1, h2, d', a', b', p, s⟩, m⟩ := h
  obtain ⟨x, h1', p', le', keep, own⟩ := f G h1 a (a'.trans b) (d.mono (Le.refl _) a') p
  have hG : Le G (hp w') := fun y o e => keep y o (a y o e) ((d.mono (Le.refl _) a').none (by rw [e]; simp))
  have h2' : Le h2 (hp w') := fun y o e => keep y o ((b'.trans b) y o e) (d'.symm.none (by rw [e]; simp))
  have dj : ∀ (k : Frag), Le k (hp w) → Dj h1 k → Dj h1' k := fun k kl kd y => by
    cases hy : h1' y with
    | none => exact .inl rfl
    | some o =>
      right
      rcases own y (by rw [hy]; simp) with e | e
      · exact kd.none e
      · exact none_of_le kl e
  have d1 : Dj h1' h2 := dj h2 (b'.trans b) d'
  have d2 : Dj h1' G := dj G a (d.mono (Le.refl _) a').symm
  refine ⟨x, G, un h1' h2, hG, Le.un le' h2', ?_, ⟨h1', h2, d1, Le.un_left _ _, Le.un_right d1, p', s⟩, m.trans hb⟩
  exact (Dj.un d2 (d.mono (Le.refl _) b').symm).symm

/-- New blocks alone. -/
theorem St.new {X : Type} {W w w' : World} {A' : X → Assn} {L : List Assn} (h : St W w L) (hb : Same w w')
    (f : ∀ G, Le G (hp w) → ∃ x h1', (A' x).p G h1' ∧ Le h1' (hp w') ∧ (∀ b o, hp w b = some o → hp w' b = some o) ∧ (∀ b, h1' b ≠ none → hp w b = none)) :
    ∃ x, St W w' (A' x :: L) := by
  refine St.loc (A := ⟨fun _ _ => True, fun _ h => h⟩) (h.ent (Ent.add fun _ => trivial)) hb fun G h1 a _ _ _ => ?_
  obtain ⟨x, h1', p, l, k, o⟩ := f G a
  exact ⟨x, h1', p, l, fun b o' e _ => k b o' e, fun b e => .inr (o b e)⟩

/-- The world is as it was, but for what no assertion speaks of. -/
theorem St.keep {W w w' : World} {L : List Assn} (h : St W w L) (hb : Same w w') (k : Le (hp w) (hp w')) : St W w' L := by
  obtain ⟨G, g, a, b, d, s, m⟩ := h
  exact ⟨G, g, a.trans k, b.trans k, d, s, m.trans hb⟩

/-- Own memory becomes memory that nobody writes any more. -/
theorem St.freeze {W w : World} {A B : Assn} {L : List Assn} (h : St W w (A :: L)) (f : ∀ G h1, Dj G h1 → A.p G h1 → B.p (un G h1) emp) : St W w (B :: L) := by
  obtain ⟨G, g, a, b, d, ⟨h1, h2, d', a', b', p, s⟩, m⟩ := h
  have dG1 : Dj G h1 := d.mono (Le.refl _) a'
  refine ⟨un G h1, h2, Le.un a (a'.trans b), b'.trans b, Dj.un (d.mono (Le.refl _) b') d', ?_, m⟩
  exact ⟨emp, h2, Dj.emp _, Le.emp _, Le.refl _, f G h1 dG1 p, s.monoG (Le.un_left _ _)⟩

/-- One assertion says another. -/
theorem Ent.head {A B : Assn} {L : List Assn} (f : ∀ G h, A.p G h → B.p G h) : Ent (A :: L) (B :: L) :=
  fun G _ ⟨h1, h2, d, a, b, p, s⟩ => ⟨h1, h2, d, a, b, f G h1 p, s⟩

def pure (q : Prop) : Assn := ⟨fun _ _ => q, fun _ h => h⟩
instance (q : Prop) : Dup (pure q) := ⟨fun _ _ h => h⟩
def ex {X : Type} (A : X → Assn) : Assn := ⟨fun G h => ∃ x, (A x).p G h, fun k ⟨x, h⟩ => ⟨x, (A x).mono k h⟩⟩
instance {X : Type} (A : X → Assn) [D : ∀ x, Dup (A x)] : Dup (ex A) := ⟨fun G h ⟨x, e⟩ => ⟨x, (D x).dup G h e⟩⟩
/-- Several as one. -/
def star (L : List Assn) : Assn := ⟨fun G h => Sat G L h, fun k h => Sat.monoG k h⟩
theorem Sat.append {G : Frag} : ∀ {L M : List Assn} {h : Frag}, Sat G (L ++ M) h ↔ ∃ h1 h2, Dj h1 h2 ∧ Le h1 h ∧ Le h2 h ∧ Sat G L h1 ∧ Sat G M h2
  | [], M, h => ⟨fun s => ⟨emp, h, Dj.emp _, Le.emp _, Le.refl _, trivial, s⟩, fun ⟨_, _, _, _, b, _, s⟩ => s.up b⟩
  | A :: L, M, h => by
    constructor
    · rintro ⟨h1, h2, d, a, b, p, s⟩
      obtain ⟨h3, h4, d', a', b', s1, s2⟩ := (Sat.append (L := L) (M := M)).1 s
      refine ⟨un h1 h3, h4, Dj.un (d.mono (Le.refl _) b') d', Le.un a (a'.trans b), b'.trans b, ?_, s2⟩
      have d3 : Dj h1 h3 := d.mono (Le.refl _) a'
      exact ⟨h1, h3, d3, Le.un_left _ _, Le.un_right d3, p, s1⟩
    · rintro ⟨h1, h2, d, a, b, ⟨h3, h4, d', a', b', p, s1⟩, s2⟩
      refine ⟨h3, un h4 h2, ?_, a'.trans a, Le.un (b'.trans a) b, p, ?_⟩
      · exact (Dj.un d'.symm (d.mono a' (Le.refl _)).symm).symm
      · have d4 : Dj h4 h2 := d.mono b' (Le.refl _)
        exact (Sat.append (L := L) (M := M)).2 ⟨h4, h2, d4, Le.un_left _ _, Le.un_right d4, s1, s2⟩
theorem Ent.star {L M : List Assn} : Ent (star L :: M) (L ++ M) := fun _ _ ⟨h1, h2, d, a, b, p, s⟩ => Sat.append.2 ⟨h1, h2, d, a, b, p, s⟩
theorem Ent.unstar {L M : List Assn} : Ent (L ++ M) (Sym.star L :: M) := fun _ _ s => let ⟨h1, h2, d, a, b, p, s'⟩ := Sat.append.1 s; ⟨h1, h2, d, a, b, p, s'⟩
theorem St.pure {W w : World} {q : Prop} {L : List Assn} (h : St W w (Sym.pure q :: L)) : q ∧ St W w L := by
  obtain ⟨G, f, a, b, d, s, m⟩ := h
  obtain ⟨h1, h2, d', a', b', p, s'⟩ := s
  exact ⟨p, G, f, a, b, d, s'.up b', m⟩
theorem St.addPure {W w : World} {q : Prop} {L : List Assn} (h : St W w L) (hq : q) : St W w (Sym.pure q :: L) := h.ent (Ent.add fun _ => hq)
theorem St.ex {W w : World} {X : Type} {A : X → Assn} {L : List Assn} (h : St W w (Sym.ex A :: L)) : ∃ x, St W w (A x :: L) := by
  obtain ⟨G, f, a, b, d, ⟨h1, h2, d', a', b', ⟨x, p⟩, s'⟩, m⟩ := h
  exact ⟨x, G, f, a, b, d, ⟨h1, h2, d', a', b', p, s'⟩, m⟩
end Go.Sym
