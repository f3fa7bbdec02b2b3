/- Representations, symbolic environments, and rules for code over owned memory; no program in sight. -/
import Derived.Test.YtfonekhhbmlkbaaS1
set_option linter.unusedVariables false
namespace Go.Sym
open Go

/-! ## Values and their representation -/
structure Rep (α : Type) where
  n : Nat
  rel : List Value → α → Assn
  len : ∀ {G h : Frag} {cs : List Value} {x : α}, (rel cs x).p G h → cs.length = n
  one : ∀ {G h : Frag} {cs : List Value} {x : α}, (rel cs x).p G h → ∀ v ∈ cs, v.oneCell' = true

class PureRep {α : Type} (r : Rep α) : Prop where
  dup : ∀ cs x G h, (r.rel cs x).p G h → (r.rel cs x).p G emp
instance {α : Type} (r : Rep α) [D : PureRep r] (cs : List Value) (x : α) : Dup (r.rel cs x) := ⟨D.dup cs x⟩

theorem one1 {v : Value} (h : v.oneCell' = true) : ∀ u ∈ [v], u.oneCell' = true := fun u hu => by
  rcases List.mem_singleton.1 hu with rfl
  exact h

def rI (k : IntKind) : Rep Int := ⟨1, fun cs x => pure (cs = [.int k x]), fun h => by rw [h]; rfl, fun h => by rw [h]; exact one1 rfl⟩
def rU8 : Rep UInt8 := ⟨1, fun cs x => pure (cs = [.int .u8 x.toNat]), fun h => by rw [h]; rfl, fun h => by rw [h]; exact one1 rfl⟩
def rB : Rep Bool := ⟨1, fun cs x => pure (cs = [.bool x]), fun h => by rw [h]; rfl, fun h => by rw [h]; exact one1 rfl⟩
def rS : Rep (List UInt8) := ⟨1, fun cs x => pure (cs = [.string ⟨x.toArray⟩]), fun h => by rw [h]; rfl, fun h => by rw [h]; exact one1 rfl⟩
instance (k : IntKind) : PureRep (rI k) := ⟨fun _ _ _ _ h => h⟩
instance : PureRep rU8 := ⟨fun _ _ _ _ h => h⟩
instance : PureRep rB := ⟨fun _ _ _ _ h => h⟩
instance : PureRep rS := ⟨fun _ _ _ _ h => h⟩

def rN : Rep Unit := ⟨0, fun cs _ => pure (cs = []), fun h => by rw [h]; rfl, fun h => by rw [h]; simp⟩
instance : PureRep rN := ⟨fun _ _ _ _ h => h⟩

/-- One part behind another. -/
def rC {α β : Type} (r : Rep α) (s : Rep β) : Rep (α × β) where
  n := r.n + s.n
  rel cs x := ⟨fun G h => ∃ c1 c2 h1 h2, cs = c1 ++ c2 ∧ Dj h1 h2 ∧ Le h1 h ∧ Le h2 h ∧ (r.rel c1 x.1).p G h1 ∧ (s.rel c2 x.2).p G h2,
    fun k ⟨c1, c2, h1, h2, e, d, a, b, p, q⟩ => ⟨c1, c2, h1, h2, e, d, a, b, (r.rel c1 x.1).mono k p, (s.rel c2 x.2).mono k q⟩⟩
  len := by
    rintro G h cs x ⟨c1, c2, h1, h2, rfl, d, a, b, p, q⟩
    rw [List.length_append, r.len p, s.len q]
  one := by
    rintro G h cs x ⟨c1, c2, h1, h2, rfl, d, a, b, p, q⟩ v hv
    rcases List.mem_append.1 hv with hv | hv
    · exact r.one p v hv
    · exact s.one q v hv
instance {α β : Type} (r : Rep α) (s : Rep β) [R : PureRep r] [S : PureRep s] : PureRep (rC r s) :=
  ⟨fun _ _ _ _ ⟨c1, c2, _, _, e, _, _, _, p, q⟩ => ⟨c1, c2, emp, emp, e, Dj.emp _, Le.emp _, Le.emp _, R.dup _ _ _ _ p, S.dup _ _ _ _ q⟩⟩
def rMap {α β : Type} (f : β → α) (r : Rep α) : Rep β := ⟨r.n, fun cs x => r.rel cs (f x), r.len, r.one⟩
instance {α β : Type} (f : β → α) (r : Rep α) [R : PureRep r] : PureRep (rMap f r) := ⟨fun cs x => R.dup cs (f x)⟩

/-! ## Blocks and slices -/
def FzOK (fz : Nat × Nat) (n : Nat) : Prop := ∀ o, o < n → ¬ (fz.1 ≤ o ∧ o < fz.2)
theorem FzOK.zero (n : Nat) : FzOK (0, 0) n := fun o _ h => by omega
theorem FzOK.le {fz : Nat × Nat} {n m : Nat} (h : FzOK fz n) (k : m ≤ n) : FzOK fz m := fun o ho => h o (by omega)

/-- A block of one's own, cell by cell. -/
def pts (b : Nat) (cs : List Value) : Assn := ⟨fun _ h => ∃ e fz, h b = some (.cells cs.toArray e fz) ∧ FzOK fz cs.length, fun _ h => h⟩

/-- The cells cs stand in c from o on. -/
def Win (c : Array Value) (o : Nat) (cs : List Value) : Prop := ∀ j v, cs[j]? = some v → c[o + j]? = some v

/-- A slice that nobody writes, 'Value.slice a l.length cap': it may be shared. -/
def ro {α : Type} (r : Rep α) (a : Option Addr) (cap : Nat) (l : List α) : Assn :=
  ⟨fun G _ => l.length ≤ cap ∧ ∀ i x, l[i]? = some x → ∃ b off c e fz cs, a = some ⟨b, off, none⟩ ∧ G b = some (.cells c e fz) ∧ Win c (off + i * r.n) cs ∧ (r.rel cs x).p G emp,
    fun k ⟨hl, f⟩ => ⟨hl, fun i x hx => let ⟨b, off, c, t, fz, cs, h1, h2, h3, h4⟩ := f i x hx; ⟨b, off, c, t, fz, cs, h1, k _ _ h2, h3, (r.rel cs x).mono k h4⟩⟩⟩
instance {α : Type} (r : Rep α) (a : Option Addr) (cap : Nat) (l : List α) : Dup (ro r a cap l) := ⟨fun _ _ h => h⟩

/-- A slice of one's own, 'Value.slice a l.length cap': its whole block. Its elements hold nothing of their own. -/
def own {α : Type} (r : Rep α) (a : Option Addr) (cap : Nat) (l : List α) : Assn :=
  ⟨fun G h => l.length ≤ cap ∧ ((a = none ∧ cap = 0) ∨ ∃ b off c e fz, a = some ⟨b, off, none⟩ ∧ h b = some (.cells c e fz) ∧ FzOK fz c.size ∧ off + cap * r.n ≤ c.size ∧
      ∀ i x, l[i]? = some x → ∃ cs, Win c (off + i * r.n) cs ∧ (r.rel cs x).p G emp),
    fun k ⟨hl, f⟩ => ⟨hl, f.imp id fun ⟨b, off, c, t, fz, h1, h2, h3, h4, h5⟩ => ⟨b, off, c, t, fz, h1, h2, h3, h4, fun i x hx => let ⟨cs, h6, h7⟩ := h5 i x hx; ⟨cs, h6, (r.rel cs x).mono k h7⟩⟩⟩⟩

/-- An array's block: its elements as a list. -/
def arr {α : Type} (r : Rep α) (b : Nat) (l : List α) : Assn :=
  ⟨fun G h => ∃ c e fz, h b = some (.cells c e fz) ∧ FzOK fz c.size ∧ c.size = l.length * r.n ∧ ∀ i x, l[i]? = some x → ∃ cs, Win c (i * r.n) cs ∧ (r.rel cs x).p G emp,
    fun k ⟨c, t, fz, h2, h3, h4, h5⟩ => ⟨c, t, fz, h2, h3, h4, fun i x hx => let ⟨cs, h6, h7⟩ := h5 i x hx; ⟨cs, h6, (r.rel cs x).mono k h7⟩⟩⟩

def rRo {α : Type} (r : Rep α) : Rep (List α) where
  n := 1
  rel cs l := ⟨fun G h => ∃ a cap, cs = [.slice a l.length cap] ∧ (ro r a cap l).p G h, fun k ⟨a, cap, e, p⟩ => ⟨a, cap, e, (ro r a cap l).mono k p⟩⟩
  len := by rintro G h cs x ⟨a, cap, rfl, _⟩; rfl
  one := by rintro G h cs x ⟨a, cap, rfl, _⟩; exact one1 rfl
instance {α : Type} (r : Rep α) : PureRep (rRo r) := ⟨fun _ _ _ _ ⟨a, cap, e, p⟩ => ⟨a, cap, e, p⟩⟩
def rOwn {α : Type} (r : Rep α) : Rep (List α) where
  n := 1
  rel cs l := ⟨fun G h => ∃ a cap, cs = [.slice a l.length cap] ∧ (own r a cap l).p G h, fun k ⟨a, cap, e, p⟩ => ⟨a, cap, e, (own r a cap l).mono k p⟩⟩
  len := by rintro G h cs x ⟨a, cap, rfl, _⟩; rfl
  one := by rintro G h cs x ⟨a, cap, rfl, _⟩; exact one1 rfl

/-- A pointer to a variable of one's own, '.pointer (some ⟨b, 0, none⟩)'. -/
def ptr {α : Type} (r : Rep α) (b : Nat) (x : α) : Assn :=
  ⟨fun G h => ∃ cs h1 h2, Dj h1 h2 ∧ Le h1 h ∧ Le h2 h ∧ (pts b cs).p G h1 ∧ (r.rel cs x).p G h2,
    fun k ⟨cs, h1, h2, d, a, a', p, q⟩ => ⟨cs, h1, h2, d, a, a', (pts b cs).mono k p, (r.rel cs x).mono k q⟩⟩
def rPtr {α : Type} (r : Rep α) : Rep α where
  n := 1
  rel cs x := ⟨fun G h => ∃ b, cs = [.pointer (some ⟨b, 0, none⟩)] ∧ (ptr r b x).p G h, fun k ⟨b, e, p⟩ => ⟨b, e, (ptr r b x).mono k p⟩⟩
  len := by rintro G h cs x ⟨v, rfl, _⟩; rfl
  one := by rintro G h cs x ⟨b, rfl, _⟩; exact one1 rfl

/-! Opening and shutting -/
section
variable {W w : World} {L : List Assn} {α β : Type}
theorem open_rI {k : IntKind} {cs : List Value} {x : Int} (h : St W w ((rI k).rel cs x :: L)) : cs = [.int k x] ∧ St W w L := h.pure
theorem open_rU8 {cs : List Value} {x : UInt8} (h : St W w (rU8.rel cs x :: L)) : cs = [.int .u8 x.toNat] ∧ St W w L := h.pure
theorem open_rB {cs : List Value} {x : Bool} (h : St W w (rB.rel cs x :: L)) : cs = [.bool x] ∧ St W w L := h.pure
theorem open_rS {cs : List Value} {x : List UInt8} (h : St W w (rS.rel cs x :: L)) : cs = [.string ⟨x.toArray⟩] ∧ St W w L := h.pure
theorem open_rN {cs : List Value} {x : Unit} (h : St W w (rN.rel cs x :: L)) : cs = [] ∧ St W w L := h.pure
theorem open_rC {r : Rep α} {s : Rep β} {cs : List Value} {x : α × β} (h : St W w ((rC r s).rel cs x :: L)) :
    ∃ c1 c2, cs = c1 ++ c2 ∧ St W w (r.rel c1 x.1 :: s.rel c2 x.2 :: L) := by
  obtain ⟨G, f, a, b, d, ⟨h1, h2, d', a', b', ⟨c1, c2, h3, h4, e, d3, a3, b3, p, q⟩, s'⟩, m⟩ := h
  refine ⟨c1, c2, e, G, f, a, b, d, ?_, m⟩
  refine ⟨h3, un h4 h2, (Dj.un d3.symm (d'.mono a3 (Le.refl _)).symm).symm, a3.trans a', Le.un (b3.trans a') b', p, h4, h2, d'.mono b3 (Le.refl _), Le.un_left _ _, Le.un_right (d'.mono b3 (Le.refl _)), q, s'⟩
theorem open_rRo {r : Rep α} {cs : List Value} {l : List α} (h : St W w ((rRo r).rel cs l :: L)) : ∃ a cap, cs = [.slice a l.length cap] ∧ St W w (ro r a cap l :: L) := by
  obtain ⟨G, f, a, b, d, ⟨h1, h2, d', a', b', ⟨v, cap, e, p⟩, s'⟩, m⟩ := h
  exact ⟨v, cap, e, G, f, a, b, d, ⟨h1, h2, d', a', b', p, s'⟩, m⟩
theorem open_rOwn {r : Rep α} {cs : List Value} {l : List α} (h : St W w ((rOwn r).rel cs l :: L)) : ∃ a cap, cs = [.slice a l.length cap] ∧ St W w (own r a cap l :: L) := by
  obtain ⟨G, f, a, b, d, ⟨h1, h2, d', a', b', ⟨v, cap, e, p⟩, s'⟩, m⟩ := h
  exact ⟨v, cap, e, G, f, a, b, d, ⟨h1, h2, d', a', b', p, s'⟩, m⟩
theorem open_rPtr {r : Rep α} {cs : List Value} {x : α} (h : St W w ((rPtr r).rel cs x :: L)) : ∃ b, cs = [.pointer (some ⟨b, 0, none⟩)] ∧ St W w (ptr r b x :: L) := by
  obtain ⟨G, f, a, b, d, ⟨h1, h2, d', a', b', ⟨v, e, p⟩, s'⟩, m⟩ := h
  exact ⟨v, e, G, f, a, b, d, ⟨h1, h2, d', a', b', p, s'⟩, m⟩
theorem open_ptr {r : Rep α} {b : Nat} {x : α} (h : St W w (ptr r b x :: L)) : ∃ cs, St W w (r.rel cs x :: pts b cs :: L) := by
  obtain ⟨G, f, a, b', d, ⟨h1, h2, d', a', b'', ⟨cs, h3, h4, d3, a3, b3, p, q⟩, s'⟩, m⟩ := h
  refine ⟨cs, ?_⟩
  refine St.ent (L := pts b cs :: r.rel cs x :: L) ⟨G, f, a, b', d, ?_, m⟩ (Ent.swap _ _ _)
  exact ⟨h3, un h4 h2, (Dj.un d3.symm (d'.mono a3 (Le.refl _)).symm).symm, a3.trans a', Le.un (b3.trans a') b'', p, h4, h2, d'.mono b3 (Le.refl _), Le.un_left _ _, Le.un_right (d'.mono b3 (Le.refl _)), q, s'⟩

theorem shut_rI {k : IntKind} {x : Int} (h : St W w L) : St W w ((rI k).rel [.int k x] x :: L) := h.addPure rfl
theorem shut_rU8 {x : UInt8} (h : St W w L) : St W w (rU8.rel [.int .u8 x.toNat] x :: L) := h.addPure rfl
theorem shut_rB {x : Bool} (h : St W w L) : St W w (rB.rel [.bool x] x :: L) := h.addPure rfl
theorem shut_rS {x : List UInt8} (h : St W w L) : St W w (rS.rel [.string ⟨x.toArray⟩] x :: L) := h.addPure rfl
theorem shut_rN (h : St W w L) : St W w (rN.rel [] () :: L) := h.addPure rfl
theorem shut_rC {r : Rep α} {s : Rep β} {c1 c2 : List Value} {x : α} {y : β} (h : St W w (r.rel c1 x :: s.rel c2 y :: L)) : St W w ((rC r s).rel (c1 ++ c2) (x, y) :: L) := by
  obtain ⟨G, f, a, b, d, ⟨h1, h2, d', a', b', p, h3, h4, d3, a3, b3, q, s'⟩, m⟩ := h
  refine ⟨G, f, a, b, d, ⟨un h1 h3, h4, Dj.un (d'.mono (Le.refl _) b3) d3, Le.un a' (a3.trans b'), b3.trans b', ?_, s'⟩, m⟩
  exact ⟨c1, c2, h1, h3, rfl, d'.mono (Le.refl _) a3, Le.un_left _ _, Le.un_right (d'.mono (Le.refl _) a3), p, q⟩
theorem shut_rRo {r : Rep α} {a : Option Addr} {cap : Nat} {l : List α} (h : St W w (ro r a cap l :: L)) : St W w ((rRo r).rel [.slice a l.length cap] l :: L) := h.ent (Ent.head fun _ _ p => ⟨a, cap, rfl, p⟩)
theorem shut_rOwn {r : Rep α} {a : Option Addr} {cap : Nat} {l : List α} (h : St W w (own r a cap l :: L)) : St W w ((rOwn r).rel [.slice a l.length cap] l :: L) := h.ent (Ent.head fun _ _ p => ⟨a, cap, rfl, p⟩)
theorem shut_rPtr {r : Rep α} {b : Nat} {x : α} (h : St W w (ptr r b x :: L)) : St W w ((rPtr r).rel [.pointer (some ⟨b, 0, none⟩)] x :: L) := h.ent (Ent.head fun _ _ p => ⟨b, rfl, p⟩)
theorem shut_ptr {r : Rep α} {b : Nat} {cs : List Value} {x : α} (h : St W w (r.rel cs x :: pts b cs :: L)) : St W w (ptr r b x :: L) := by
  obtain ⟨G, f, a, b', d, ⟨h1, h2, d', a', b'', p, h3, h4, d3, a3, b3, q, s'⟩, m⟩ := h
  refine ⟨G, f, a, b', d, ⟨un h1 h3, h4, Dj.un (d'.mono (Le.refl _) b3) d3, Le.un a' (a3.trans b''), b3.trans b'', ?_, s'⟩, m⟩
  have d13 := d'.mono (Le.refl h1) a3
  exact ⟨cs, h3, h1, d13.symm, Le.un_right d13, Le.un_left _ _, q, p⟩
/-- What one owned, shared from now on. -/
theorem freeze {r : Rep α} {a : Option Addr} {cap : Nat} {l : List α} (h : St W w (own r a cap l :: L)) : St W w (ro r a cap l :: L) :=
  St.freeze h fun G h1 dj ⟨hl, f⟩ => ⟨hl, fun i x hx => by
    rcases f with ⟨rfl, rfl⟩ | ⟨b, off, c, t, fz, h1', h2, h3, h4, h5⟩
    · rw [Nat.le_zero.1 hl |> List.eq_nil_of_length_eq_zero] at hx
      simp at hx
    · obtain ⟨cs, h6, h7⟩ := h5 i x hx
      refine ⟨b, off, c, t, fz, cs, h1', ?_, h6, (r.rel cs x).mono (Le.un_left _ _) h7⟩
      exact Le.un_right dj b _ h2⟩
end
/-- The empty slice of literals, and nil. -/
theorem ro_nil {α : Type} (r : Rep α) (a : Option Addr) (cap : Nat) : ∀ G, (ro r a cap []).p G emp := fun _ => ⟨Nat.zero_le _, fun i x h => by simp at h⟩
theorem own_nil {α : Type} (r : Rep α) : ∀ G, (own r none 0 []).p G emp := fun _ => ⟨Nat.le_refl _, .inl ⟨rfl, rfl⟩⟩

/-! ## Environments -/
abbrev Env := List (Nat × Value)
def look : Env → Nat → Option Value
  | [], _ => none
  | (k, v) :: m, s => match Nat.beq k s with
    | true => some v
    | false => look m s
def ev (m : Env) : Operand → Option Value
  | .tmp t => look m t
  | .const v => some v
  | .global g => some (.pointer (some ⟨g, 0, none⟩))
  | .func f => some (.func (.func f) #[] #[])
structure EnvOK (n : Nat) (m : Env) (ds : List Deferred) (a : Act) : Prop where
  defers : a.defers = ds
  size : a.tmps.size = n
  get : ∀ s v, look m s = some v → a.tmps[s]? = some v
theorem EnvOK.ev {n : Nat} {m : Env} {ds : List Deferred} {a : Act} (h : EnvOK n m ds a) {x : Operand} {v : Value} (e : Sym.ev m x = some v) : a.eval x = v := by
  cases x with
  | tmp t => simp only [Act.eval, Array.getD_eq_getD_getElem?, h.get t v e, Option.getD_some]
  | const c => exact Option.some.inj e
  | global g => exact Option.some.inj e
  | func f => exact Option.some.inj e
theorem look_cons (k : Nat) (v : Value) (m : Env) (s : Nat) : look ((k, v) :: m) s = if k = s then some v else look m s := by
  show (match Nat.beq k s with | true => some v | false => look m s) = _
  by_cases h : k = s
  · subst h; simp
  · have : Nat.beq k s = false := by rw [← Bool.not_eq_true, Nat.beq_eq]; exact h
    rw [this, if_neg h]
theorem EnvOK.put {n : Nat} {m : Env} {ds : List Deferred} {a : Act} (h : EnvOK n m ds a) {d : Nat} (hd : d < n) (v : Value) : EnvOK n ((d, v) :: m) ds (a.put (some d) v) := by
  refine ⟨h.defers, by simp [Act.put, h.size], fun s u hs => ?_⟩
  rw [look_cons] at hs
  simp only [Act.put, Array.getElem?_setIfInBounds]
  split at hs
  · rename_i e; subst e
    rw [if_pos rfl, if_pos (by rw [h.size]; exact hd)]; exact hs
  · rename_i e
    rw [if_neg (by omega)]; exact h.get s u hs
theorem EnvOK.putNone {n : Nat} {m : Env} {ds : List Deferred} {a : Act} (h : EnvOK n m ds a) (v : Value) : EnvOK n m ds (a.put none v) := h
/-- The second environment says no more than the first. -/
def Sub (m m' : Env) : Prop := ∀ s v, look m' s = some v → look m s = some v
theorem Sub.nil (m : Env) : Sub m [] := fun _ _ h => by cases h
theorem Sub.cons {m m' : Env} {k : Nat} {v : Value} (h : look m k = some v) (t : Sub m m') : Sub m ((k, v) :: m') := fun s u hs => by
  rw [look_cons] at hs
  split at hs
  · rename_i e; subst e; rw [← hs]; exact h
  · exact t s u hs
theorem EnvOK.sub {n : Nat} {m m' : Env} {ds : List Deferred} {a : Act} (h : EnvOK n m ds a) (k : Sub m m') : EnvOK n m' ds a := ⟨h.defers, h.size, fun s v e => h.get s v (k s v e)⟩

/-! ## Code -/
structure Cx where
  P : Program
  n : Nat
  ds : List Deferred
  W : World

abbrev Post := Exit → Act → World → Prop
def T (C : Cx) (c : Code) (Q : Post) (m : Env) (L : List Assn) : Prop := ∀ a w, EnvOK C.n m C.ds a → St C.W w L → c.wp C.P Q a w
/-- The end of a piece of code. -/
def TQ (C : Cx) (e : Exit) (Q : Post) (m : Env) (L : List Assn) : Prop := ∀ a w, EnvOK C.n m C.ds a → St C.W w L → Q e a w

def cA : Code → Code
  | .seq a _ | .cond _ a _ | .block _ a | .loop a | .scope a => a
  | c => c
def cB : Code → Code
  | .seq _ b | .cond _ _ b => b
  | c => c
def cOps : Code → Array Oper
  | .region _ o _ => o
  | _ => #[]
def cC : Code → Operand
  | .cond c _ _ => c
  | _ => .const undef
def cId : Code → Nat
  | .block i _ | .exit i => i
  | .region i _ _ => i
  | _ => 0
inductive Kd where | skip | region | draw | seq | cond | block | loop | exit | ret | scope | other
def kd : Code → Kd
  | .skip => .skip
  | .label _ => .skip
  | .region _ _ false => .region
  | .region _ _ true => .draw
  | .seq _ _ => .seq
  | .cond _ _ _ => .cond
  | .block _ _ => .block
  | .loop _ => .loop
  | .exit _ => .exit
  | .ret => .ret
  | .scope _ => .scope
  | _ => .other

theorem kd_seq {c : Code} : kd c = .seq → c = .seq (cA c) (cB c) := by
  cases c <;> first | (intro; rfl) | (intro h; cases h; done) | (rename_i d; cases d <;> intro h <;> cases h)
theorem kd_cond {c : Code} : kd c = .cond → c = .cond (cC c) (cA c) (cB c) := by
  cases c <;> first | (intro; rfl) | (intro h; cases h; done) | (rename_i d; cases d <;> intro h <;> cases h)
theorem kd_block {c : Code} : kd c = .block → c = .block (cId c) (cA c) := by
  cases c <;> first | (intro; rfl) | (intro h; cases h; done) | (rename_i d; cases d <;> intro h <;> cases h)
theorem kd_loop {c : Code} : kd c = .loop → c = .loop (cA c) := by
  cases c <;> first | (intro; rfl) | (intro h; cases h; done) | (rename_i d; cases d <;> intro h <;> cases h)
theorem kd_exit {c : Code} : kd c = .exit → c = .exit (cId c) := by
  cases c <;> first | (intro; rfl) | (intro h; cases h; done) | (rename_i d; cases d <;> intro h <;> cases h)
theorem kd_ret {c : Code} : kd c = .ret → c = .ret := by
  cases c <;> first | (intro; rfl) | (intro h; cases h; done) | (rename_i d; cases d <;> intro h <;> cases h)
theorem kd_skip {c : Code} : kd c = .skip → c = .skip ∨ ∃ l, c = .label l := by
  cases c <;> first | (intro; left; rfl) | (intro; right; exact ⟨_, rfl⟩) | (intro h; cases h; done) | (rename_i d; cases d <;> intro h <;> cases h)
theorem kd_region {c : Code} : kd c = .region → c = .region (cId c) (cOps c) false := by
  cases c <;> first | (intro h; cases h; done) | (rename_i d; cases d <;> intro h <;> first | rfl | cases h)
theorem kd_draw {c : Code} : kd c = .draw → c = .region (cId c) (cOps c) true := by
  cases c <;> first | (intro h; cases h; done) | (rename_i d; cases d <;> intro h <;> first | rfl | cases h)

section
variable {C : Cx} {c : Code} {Q : Post} {m : Env} {L : List Assn}
theorem T.sub {m' : Env} {L' : List Assn} (h : T C c Q m' L') (k : Sub m m') (e : ∀ w, St C.W w L → St C.W w L') : T C c Q m L := fun a w ha hs => h a w (ha.sub k) (e w hs)
/-- Facts out of the state. -/
theorem T.st {X : Type} {p : X → Prop} {L' : X → List Assn} (e : ∀ w, St C.W w L → ∃ x, p x ∧ St C.W w (L' x)) (h : ∀ x, p x → T C c Q m (L' x)) : T C c Q m L :=
  fun a w ha hs => let ⟨x, px, hx⟩ := e w hs; h x px a w ha hx
theorem T.skip (k : kd c = .skip) (h : TQ C .normal Q m L) : T C c Q m L := fun a w ha hs => by
  rcases kd_skip k with rfl | ⟨l, rfl⟩
  · exact wp_skip (h a w ha hs)
  · exact wp_label (h a w ha hs)
theorem T.ret (k : kd c = .ret) (h : TQ C .ret Q m L) : T C c Q m L := fun a w ha hs => by
  rw [kd_ret k]; exact wp_ret (h a w ha hs)
theorem T.exit (k : kd c = .exit) (h : TQ C (.exit (cId c)) Q m L) : T C c Q m L := fun a w ha hs => by
  rw [kd_exit k]; exact wp_exit (h a w ha hs)
theorem T.seq (k : kd c = .seq) (h : T C (cA c) (Exit.then ((cB c).wp C.P Q) Q) m L) : T C c Q m L := fun a w ha hs => by
  rw [kd_seq k]; exact wp_seq (h a w ha hs)
theorem T.block (k : kd c = .block) (h : T C (cA c) (Exit.inBlock (cId c) Q) m L) : T C c Q m L := fun a w ha hs => by
  rw [kd_block k]; exact wp_block (h a w ha hs)
theorem T.cond (k : kd c = .cond) {b : Bool} (hb : ev m (cC c) = some (.bool b)) (h1 : b = true → T C (cA c) Q m L) (h2 : b = false → T C (cB c) Q m L) : T C c Q m L := fun a w ha hs => by
  rw [kd_cond k]; exact wp_cond_split (ha.ev hb) (fun e => h1 e a w ha hs) (fun e => h2 e a w ha hs)
theorem TQ.then {d : Code} (h : T C d Q m L) : TQ C .normal (Exit.then (d.wp C.P Q) Q) m L := h
theorem TQ.passThenExit {K : Act → World → Prop} {i : Nat} (h : TQ C (.exit i) Q m L) : TQ C (.exit i) (Exit.then K Q) m L := h
theorem TQ.passThenRet {K : Act → World → Prop} (h : TQ C .ret Q m L) : TQ C .ret (Exit.then K Q) m L := h
theorem TQ.passBlockRet {i : Nat} (h : TQ C .ret Q m L) : TQ C .ret (Exit.inBlock i Q) m L := h
theorem TQ.passBlockNormal {i : Nat} (h : TQ C .normal Q m L) : TQ C .normal (Exit.inBlock i Q) m L := h
theorem TQ.exitHere {i : Nat} (h : TQ C .normal Q m L) : TQ C (.exit i) (Exit.inBlock i Q) m L := fun a w ha hs => by
  show if i = i then _ else _
  rw [if_pos rfl]
  exact h a w ha hs
theorem TQ.passBlockExit {i j : Nat} (e : Nat.beq j i = false) (h : TQ C (.exit j) Q m L) : TQ C (.exit j) (Exit.inBlock i Q) m L := fun a w ha hs => by
  show if j = i then _ else _
  rw [if_neg (by intro e'; subst e'; simp at e)]
  exact h a w ha hs
theorem TQ.sub {x : Exit} {m' : Env} {L' : List Assn} (h : TQ C x Q m' L') (k : Sub m m') (e : ∀ w, St C.W w L → St C.W w L') : TQ C x Q m L := fun a w ha hs => h a w (ha.sub k) (e w hs)

/-- Rounds. -/
def TR (C : Cx) (c : Code) (Q : Post) (k : Nat) (m : Env) (L : List Assn) : Prop := ∀ a w, EnvOK C.n m C.ds a → St C.W w L → Code.rounds C.P c Q k a w
theorem T.loop (k : kd c = .loop) (n : Nat) (h : TR C (cA c) Q n m L) : T C c Q m L := fun a w ha hs => by
  rw [kd_loop k]; exact wp_loop_rounds n (h a w ha hs)
theorem TR.round {n : Nat} (h : T C c (Exit.then (Code.rounds C.P c Q n) Q) m L) : TR C c Q (n + 1) m L := h
theorem TR.sub {n : Nat} {m' : Env} {L' : List Assn} (h : TR C c Q n m' L') (k : Sub m m') (e : ∀ w, St C.W w L → St C.W w L') : TR C c Q n m L := fun a w ha hs => h a w (ha.sub k) (e w hs)
theorem TQ.again {n : Nat} (h : TR C c Q n m L) : TQ C .normal (Exit.then (Code.rounds C.P c Q n) Q) m L := h
end

/-! ## Operations, one behind the other -/
def opAt (ops : Array Oper) (i : Nat) : Option Oper := nth ops.toList i
where nth : List Oper → Nat → Option Oper
  | [], _ => none
  | o :: _, 0 => some o
  | _ :: l, i + 1 => nth l i
theorem nth_eq : ∀ (l : List Oper) (i : Nat), opAt.nth l i = l[i]?
  | [], i => by simp [opAt.nth]
  | o :: l, 0 => rfl
  | o :: l, i + 1 => by simpa [opAt.nth] using nth_eq l i
theorem opAt_eq (ops : Array Oper) (i : Nat) : opAt ops i = ops[i]? := by rw [opAt, nth_eq, Array.getElem?_toList]

def TO (C : Cx) (ops : Array Oper) (Q : Post) (i : Nat) (m : Env) (L : List Assn) : Prop :=
  ∀ a w, EnvOK C.n m C.ds a → St C.W w L → wpOps C.P ops Q (List.range' i (ops.size - i)) a w
section
variable {C : Cx} {c : Code} {ops : Array Oper} {Q : Post} {i : Nat} {m : Env} {L : List Assn} {o : Oper}
theorem T.region (k : kd c = .region) (h : TO C (cOps c) Q 0 m L) : T C c Q m L := fun a w ha hs => by
  rw [kd_region k]
  refine wp_region ?_
  have := h a w ha hs
  rw [Nat.sub_zero] at this
  rw [List.range_eq_range']
  exact this
theorem range_step (ho : opAt ops i = some o) : List.range' i (ops.size - i) = i :: List.range' (i + 1) (ops.size - (i + 1)) ∧ ops[i]? = some o := by
  rw [opAt_eq] at ho
  have hi : i < ops.size := by
    rcases Nat.lt_or_ge i ops.size with h | h
    · exact h
    · rw [Array.getElem?_eq_none h] at ho; cases ho
  refine ⟨?_, ho⟩
  rw [show ops.size - i = (ops.size - (i + 1)) + 1 from by omega, List.range'_succ]
theorem TO.end (ho : opAt ops i = none) (h : TQ C .normal Q m L) : TO C ops Q i m L := fun a w ha hs => by
  rw [opAt_eq, Array.getElem?_eq_none_iff] at ho
  rw [show ops.size - i = 0 from by omega]
  exact h a w ha hs
theorem TO.sub {m' : Env} {L' : List Assn} (h : TO C ops Q i m' L') (k : Sub m m') (e : ∀ w, St C.W w L → St C.W w L') : TO C ops Q i m L := fun a w ha hs => h a w (ha.sub k) (e w hs)
theorem TO.st {X : Type} {p : X → Prop} {L' : X → List Assn} (e : ∀ w, St C.W w L → ∃ x, p x ∧ St C.W w (L' x)) (h : ∀ x, p x → TO C ops Q i m (L' x)) : TO C ops Q i m L :=
  fun a w ha hs => let ⟨x, px, hx⟩ := e w hs; h x px a w ha hx
def Want (ops : Array Oper) (m : Env) (o : Oper) (b : Bool) : Prop :=
  match o.guard with
  | none => b = true
  | some (j, t) => (∃ d u, (opAt ops j).bind (·.dst) = some d ∧ look m d = some (.bool u) ∧ b = (u == t)) ∨ (b = false ∧ ∃ d, (opAt ops j).bind (·.dst) = some d ∧ look m d = some undef)
theorem wanted_of {n : Nat} {ds : List Deferred} {a : Act} (ha : EnvOK n m ds a) {b : Bool} (h : Want ops m o b) : Region.wanted o (yielded ops a.tmps) = b := by
  unfold Want at h
  unfold Region.wanted
  cases hg : o.guard with
  | none => rw [hg] at h; exact h.symm
  | some jt =>
    rw [hg] at h
    obtain ⟨j, t⟩ := jt
    rcases h with ⟨d, u, h1, h2, h3⟩ | ⟨h3, d, h1, h2⟩
    · rw [opAt_eq] at h1
      have := ha.get d _ h2
      simp only [yielded, h1, Option.bind_some, this, h3]
      cases u <;> cases t <;> rfl
    · rw [opAt_eq] at h1
      have := ha.get d _ h2
      simp only [yielded, h1, Option.bind_some, this, h3, undef]
      cases t <;> rfl
/-- What an operation does: a value (or none), and what it leaves of memory. -/
def Does (C : Cx) (ops : Array Oper) (m : Env) (L : List Assn) (o : Oper) {X : Type} (v : X → Value) (L' : X → List Assn) : Prop :=
  ∀ a w, EnvOK C.n m C.ds a → St C.W w L →
    (Region.wanted o (yielded ops a.tmps) = true ∧
      ((∃ x w', (execOp a.eval o).run C.P w = .ok (.value (v x)) w' ∧ St C.W w' (L' x)) ∨
       (∃ x w', (execOp a.eval o).run C.P w = .ok .skip w' ∧ v x = undef ∧ St C.W w' (L' x)) ∨
       (∃ f args, (execOp a.eval o).run C.P w = .ok (.enter f args) w ∧ Calls C.P f args w fun e w' => ∃ x, e = .returned (v x) ∧ St C.W w' (L' x)))) ∨
    (Region.wanted o (yielded ops a.tmps) = false ∧ ∃ x, v x = undef ∧ St C.W w (L' x))
theorem Does.not (hw : Want ops m o false) : Does C ops m L o (fun _ : Unit => undef) (fun _ => L) := fun a w ha hs => .inr ⟨wanted_of ha hw, (), rfl, hs⟩
theorem Does.pure {v : Value} (hw : Want ops m o true) (hrun : ∀ a w, EnvOK C.n m C.ds a → St C.W w L → (execOp a.eval o).run C.P w = .ok (.value v) w) : Does C ops m L o (fun _ : Unit => v) (fun _ => L) :=
  fun a w ha hs => .inl ⟨wanted_of ha hw, .inl ⟨(), w, hrun a w ha hs, hs⟩⟩
theorem Does.val {X : Type} {v : X → Value} {L' : X → List Assn} (hw : Want ops m o true)
    (hrun : ∀ a w, EnvOK C.n m C.ds a → St C.W w L → ∃ x w', (execOp a.eval o).run C.P w = .ok (.value (v x)) w' ∧ St C.W w' (L' x)) : Does C ops m L o v L' :=
  fun a w ha hs => .inl ⟨wanted_of ha hw, .inl (hrun a w ha hs)⟩
theorem Does.eff {L' : List Assn} (hw : Want ops m o true)
    (hrun : ∀ a w, EnvOK C.n m C.ds a → St C.W w L → ∃ w', (execOp a.eval o).run C.P w = .ok .skip w' ∧ St C.W w' L') : Does C ops m L o (fun _ : Unit => undef) (fun _ => L') :=
  fun a w ha hs => let ⟨w', h, h'⟩ := hrun a w ha hs; .inl ⟨wanted_of ha hw, .inr (.inl ⟨(), w', h, rfl, h'⟩)⟩
theorem Does.enter {X : Type} {v : X → Value} {L' : X → List Assn} {f : FuncId} {args : Array Value} (hw : Want ops m o true)
    (hrun : ∀ a w, EnvOK C.n m C.ds a → (execOp a.eval o).run C.P w = .ok (.enter f args) w)
    (hc : ∀ w, St C.W w L → Calls C.P f args w fun e w' => ∃ x, e = .returned (v x) ∧ St C.W w' (L' x)) : Does C ops m L o v L' :=
  fun a w ha hs => .inl ⟨wanted_of ha hw, .inr (.inr ⟨f, args, hrun a w ha, hc w hs⟩)⟩
/-- The same, out of another description of the state. -/
theorem Does.st {X : Type} {v : X → Value} {L' : X → List Assn} {L0 : List Assn} (h : Does C ops m L0 o v L') (e : ∀ w, St C.W w L → St C.W w L0) : Does C ops m L o v L' := fun a w ha hs => h a w ha (e w hs)
theorem TO.go {X : Type} {v : X → Value} {L' : X → List Assn} (ho : opAt ops i = some o) {d : Nat} (hd : o.dst = some d) (hdn : Nat.blt d C.n = true) (D : Does C ops m L o v L')
    (h : ∀ x, TO C ops Q (i + 1) ((d, v x) :: m) (L' x)) : TO C ops Q i m L := fun a w ha hs => by
  obtain ⟨hr, ho'⟩ := range_step ho
  have hdn' : d < C.n := by simpa [Nat.blt_eq] using hdn
  rw [hr]
  rcases D a w ha hs with ⟨hw, h1⟩ | ⟨hw, x, hv, hs'⟩
  · simp only [wpOps, ho', hw, if_true]
    left
    rcases h1 with ⟨x, w', h1, hs'⟩ | ⟨x, w', h1, hv, hs'⟩ | ⟨f, args, h1, hc⟩
    · simp only [Oper.wp, h1, Oper.upon, hd]
      exact h x _ w' (ha.put hdn' _) hs'
    · simp only [Oper.wp, h1, Oper.upon, hd]
      rw [← hv]
      exact h x _ w' (ha.put hdn' _) hs'
    · simp only [Oper.wp, h1, Oper.upon, hd]
      refine hc.mono ?_
      rintro e w' ⟨x, rfl, hs'⟩
      exact h x _ w' (ha.put hdn' _) hs'
  · simp only [wpOps, ho', hw, hd]
    rw [← hv]
    exact h x _ w (ha.put hdn' _) hs'
theorem TO.go0 {X : Type} {v : X → Value} {L' : X → List Assn} (ho : opAt ops i = some o) (hd : o.dst = none) (D : Does C ops m L o v L')
    (h : ∀ x, TO C ops Q (i + 1) m (L' x)) : TO C ops Q i m L := fun a w ha hs => by
  obtain ⟨hr, ho'⟩ := range_step ho
  rw [hr]
  rcases D a w ha hs with ⟨hw, h1⟩ | ⟨hw, x, hv, hs'⟩
  · simp only [wpOps, ho', hw, if_true]
    left
    rcases h1 with ⟨x, w', h1, hs'⟩ | ⟨x, w', h1, hv, hs'⟩ | ⟨f, args, h1, hc⟩
    · simp only [Oper.wp, h1, Oper.upon, hd]
      exact h x _ w' ha hs'
    · simp only [Oper.wp, h1, Oper.upon, hd]
      exact h x _ w' ha hs'
    · simp only [Oper.wp, h1, Oper.upon, hd]
      refine hc.mono ?_
      rintro e w' ⟨x, rfl, hs'⟩
      exact h x _ w' ha hs'
  · simp only [wpOps, ho', hw, hd]
    exact h x _ w ha hs'
end
end Go.Sym
