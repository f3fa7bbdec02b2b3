/- Flat data, joins, loops, helpers. No program in sight. -/
import Derived.Test.YtfonekhhbmlkbaaS7
set_option linter.unusedVariables false
set_option linter.unusedSimpArgs false
namespace Go.Sym
open Go

/-- Data whose cells are what they are. -/
class Flat {α : Type} (r : Rep α) where
  enc : α → List Value
  rel : ∀ (x : α) (G h : Frag), (r.rel (enc x) x).p G h
  eq : ∀ (G h : Frag) (cs : List Value) (x : α), (r.rel cs x).p G h → cs = enc x
instance (k : IntKind) : Flat (rI k) := ⟨fun x => [.int k x], fun _ _ _ => rfl, fun _ _ _ _ h => h⟩
instance : Flat rU8 := ⟨fun x => [.int .u8 x.toNat], fun _ _ _ => rfl, fun _ _ _ _ h => h⟩
instance : Flat rB := ⟨fun x => [.bool x], fun _ _ _ => rfl, fun _ _ _ _ h => h⟩
instance : Flat rS := ⟨fun x => [.string ⟨x.toArray⟩], fun _ _ _ => rfl, fun _ _ _ _ h => h⟩
instance : Flat rN := ⟨fun _ => [], fun _ _ _ => rfl, fun _ _ _ _ h => h⟩
instance {α β : Type} (r : Rep α) (s : Rep β) [R : Flat r] [S : Flat s] : Flat (rC r s) :=
  ⟨fun x => R.enc x.1 ++ S.enc x.2, fun x G h => ⟨_, _, emp, emp, rfl, Dj.emp _, Le.emp _, Le.emp _, R.rel _ _ _, S.rel _ _ _⟩,
   fun G h cs x ⟨c1, c2, h1, h2, e, _, _, _, p, q⟩ => by rw [e, R.eq _ _ _ _ p, S.eq _ _ _ _ q]⟩
instance {α β : Type} (f : β → α) (r : Rep α) [R : Flat r] : Flat (rMap f r) := ⟨fun x => R.enc (f x), fun x G h => R.rel _ _ _, fun G h cs x p => R.eq _ _ _ _ p⟩
theorem Flat.len {α : Type} (r : Rep α) [F : Flat r] (x : α) : (F.enc x).length = r.n := r.len (F.rel x emp emp)
theorem Flat.pure {α : Type} (r : Rep α) [F : Flat r] : PureRep r := ⟨fun cs x G h p => by rw [F.eq _ _ _ _ p]; exact F.rel _ _ _⟩
theorem flat_add {α : Type} {W w : World} {L : List Assn} {r : Rep α} [F : Flat r] {cs : List Value} (x : α) (e : F.enc x = cs) (h : St W w L) : St W w (r.rel cs x :: L) := by
  subst e; exact h.ent (Ent.add fun G => F.rel x G emp)

section
variable {C : Cx} {ops : Array Oper} {Q : Post} {i : Nat} {m : Env} {L L' : List Assn} {d : Option Nat} {t t' : TypeId} {p : String} {e : Array Edge} {g : Option (Nat × Bool)} {o : Oper}
theorem Does.loadFlat {α : Type} {x : Operand} {k f : Nat} {r : Rep α} [F : Flat r] {a : Option Addr} {l : List α} {A : Assn} {j : Nat} {y : α} {v : Value} (hw : Want ops m ⟨d, .load t x, t', p, e, g⟩ true)
    (hx : ev m x = some (.pointer (some (adA a (j * r.n) f)))) (ht : scal C.P t = true) (hk : L[k]? = some A) (hA : Arrd A r a l) (hy : l[j]? = some y) (hv : (F.enc y)[f]? = some v) :
    Does C ops m L ⟨d, .load t x, t', p, e, g⟩ (fun _ : Unit => v) (fun _ => L) :=
  Does.pure hw (fun ac w ha hs => by
    obtain ⟨b, off, c, e, fz, cs, h1, h2, h3, h4, h5⟩ := hs.elemRel hk hA hy
    obtain ⟨G, hh, _, _, _, pp⟩ := h5.get 0 rfl
    have := F.eq _ _ _ _ pp
    subst this
    have : w.cell? (adA a (j * r.n) f) = some v := by rw [h1, adA_some, cell_hp h2]; exact h3 f _ hv
    simp [execOp, ha.ev hx, Instr.load_scal ht this])
theorem Does.loadFlatN {α : Type} {x : Operand} {k n : Nat} {r : Rep α} [F : Flat r] {a : Option Addr} {l : List α} {A : Assn} {j f : Nat} {y : α} {vs : List Value} (hw : Want ops m ⟨d, .load t x, t', p, e, g⟩ true)
    (hx : ev m x = some (.pointer (some (adA a (j * r.n) f)))) (ht : aggN C.P t = some n) (hk : L[k]? = some A) (hA : Arrd A r a l) (hy : l[j]? = some y) (hv : ((F.enc y).drop f).take n = vs) (hn : Nat.beq vs.length n = true) :
    Does C ops m L ⟨d, .load t x, t', p, e, g⟩ (fun _ : Unit => .agg vs.toArray) (fun _ => L) :=
  Does.pure hw (fun ac w ha hs => by
    obtain ⟨b, off, c, e, fz, cs, h1, h2, h3, h4, h5⟩ := hs.elemRel hk hA hy
    obtain ⟨G, hh, _, _, _, pp⟩ := h5.get 0 rfl
    have := F.eq _ _ _ _ pp
    subst this
    have hx' := ha.ev hx
    rw [h1, adA_some] at hx'
    have : ∀ q u, vs[q]? = some u → w.cell? ⟨b, off + j * r.n + f + q, none⟩ = some u := fun q u hq => by
      rw [cell_hp h2]
      rw [← hv, List.getElem?_take] at hq
      split at hq
      · rw [List.getElem?_drop] at hq
        have := h3 (f + q) u hq
        rw [← Nat.add_assoc] at this; exact this
      · cases hq
    simp [execOp, hx', Instr.load_agg ht (by simpa using hn) this])

/-! ## State steps -/
theorem TO.ent {L' : List Assn} (e : ∀ w, St C.W w L → St C.W w L') (h : TO C ops Q i m L') : TO C ops Q i m L := fun a w ha hs => h a w ha (e w hs)
theorem TO.st0 {q : Prop} {L' : List Assn} (e : ∀ w, St C.W w L → q ∧ St C.W w L') (h : q → TO C ops Q i m L') : TO C ops Q i m L := fun a w ha hs => h (e w hs).1 a w ha (e w hs).2
theorem T.ent {c : Code} {L' : List Assn} (e : ∀ w, St C.W w L → St C.W w L') (h : T C c Q m L') : T C c Q m L := fun a w ha hs => h a w ha (e w hs)
theorem T.env {c : Code} {m' : Env} (k : Sub m m') (h : T C c Q m' L) : T C c Q m L := fun a w ha hs => h a w (ha.sub k) hs
theorem TQ.ent {x : Exit} {L' : List Assn} (e : ∀ w, St C.W w L → St C.W w L') (h : TQ C x Q m L') : TQ C x Q m L := fun a w ha hs => h a w ha (e w hs)
theorem TO.env {m' : Env} (k : Sub m m') (h : TO C ops Q i m' L) : TO C ops Q i m L := fun a w ha hs => h a w (ha.sub k) hs
theorem Does.conseq {X : Type} {v : X → Value} {L0 : List Assn} {Lx Ly : X → List Assn} (h : Does C ops m L0 o v Lx) (e : ∀ w, St C.W w L → St C.W w L0) (f : ∀ x w, St C.W w (Lx x) → St C.W w (Ly x)) : Does C ops m L o v Ly := fun a w ha hs => by
  rcases h a w ha (e w hs) with ⟨hw, h1⟩ | ⟨hw, x, hv, hs'⟩
  · refine .inl ⟨hw, ?_⟩
    rcases h1 with ⟨x, w', h1, hs'⟩ | ⟨x, w', h1, hv, hs'⟩ | ⟨ff, args, h1, hc⟩
    · exact .inl ⟨x, w', h1, f x w' hs'⟩
    · exact .inr (.inl ⟨x, w', h1, hv, f x w' hs'⟩)
    · refine .inr (.inr ⟨ff, args, h1, hc.mono ?_⟩)
      rintro e w' ⟨x, he, hs'⟩
      exact ⟨x, he, f x w' hs'⟩
  · exact .inr ⟨hw, x, hv, f x w hs'⟩

/-! ## Joins and loops -/
theorem T.seqJ {c : Code} (k : kd c = .seq) {X : Type} (M : X → Env) (LL : X → List Assn) (cond : X → Prop) (hj : ∀ x, cond x → T C (cB c) Q (M x) (LL x))
    (h : (∀ x, cond x → T C (cB c) Q (M x) (LL x)) → T C (cA c) (Exit.then ((cB c).wp C.P Q) Q) m L) : T C c Q m L := T.seq k (h hj)
theorem T.loopJ {c : Code} (k : kd c = .loop) {X : Type} (N : Nat) (M : X → Env) (LL : X → List Assn) (cond : Nat → X → Prop) (h0 : ∀ x, ¬ cond 0 x)
    (hs : ∀ n, (∀ x, cond n x → TR C (cA c) Q n (M x) (LL x)) → ∀ x, cond (n + 1) x → T C (cA c) (Exit.then (Code.rounds C.P (cA c) Q n) Q) (M x) (LL x))
    (x : X) (hx : cond N x) (hm : Sub m (M x)) (he : ∀ w, St C.W w L → St C.W w (LL x)) : T C c Q m L := by
  have key : ∀ n x, cond n x → TR C (cA c) Q n (M x) (LL x) := by
    intro n
    induction n with
    | zero => intro x hx; exact absurd hx (h0 x)
    | succ n ih => intro x hx; exact TR.round (hs n ih x hx)
  exact T.loop k N (TR.sub (key N x hx) hm he)
end
theorem ite_t {α : Type} {b : Bool} {x y r : α} (h : (if b = true then x else y) = r) (hb : b = true) : x = r := by rw [if_pos hb] at h; exact h
theorem ite_f {α : Type} {b : Bool} {x y r : α} (h : (if b = true then x else y) = r) (hb : b = false) : y = r := by rw [if_neg (by rw [hb]; exact Bool.false_ne_true)] at h; exact h
theorem guard_t {α : Type} {b : Bool} {x : Option α} {r : α} (h : (if b = true then x else none) = some r) : b = true := by
  cases b
  · simp at h
  · rfl
theorem bind_o {α β : Type} {x : Option α} {f : α → Option β} {r : β} (h : (x.bind f) = some r) : ∃ y, x = some y ∧ f y = some r := Option.bind_eq_some_iff.1 h
theorem bool_f {b : Bool} (h : ¬ b = true) : b = false := by simpa using h

/-- An array of flat data. -/
theorem win_flat {α : Type} {r : Rep α} [F : Flat r] : ∀ (l : List α) (i : Nat) (x : α), l[i]? = some x → ∀ j v, (F.enc x)[j]? = some v → (l.flatMap F.enc)[i * r.n + j]? = some v
  | [], i, x, h, _, _, _ => by simp at h
  | y :: l, 0, x, h, j, v, hv => by
    simp only [List.getElem?_cons_zero, Option.some.injEq] at h
    subst h
    rw [List.flatMap_cons, Nat.zero_mul, Nat.zero_add, List.getElem?_append_left (List.getElem?_eq_some_iff.1 hv).1]; exact hv
  | y :: l, i + 1, x, h, j, v, hv => by
    simp only [List.getElem?_cons_succ] at h
    rw [List.flatMap_cons, List.getElem?_append_right (by rw [Flat.len r y, Nat.add_mul]; omega), Flat.len r y, show (i + 1) * r.n + j - r.n = i * r.n + j from by rw [Nat.add_mul]; omega]
    exact win_flat l i x h j v hv
theorem arr_of_pts {α : Type} {W w : World} {L : List Assn} {r : Rep α} [F : Flat r] {b : Nat} {cs : List Value} (l : List α) (hcs : cs = l.flatMap F.enc) (h : St W w (pts b cs :: L)) : St W w (arr r b l :: L) :=
  h.ent (Ent.head fun G h ⟨e, fz, hb, hf⟩ => by
    refine ⟨cs.toArray, e, fz, hb, by simpa using hf, ?_, fun i x hx => ⟨F.enc x, fun j v hv => ?_, F.rel x G emp⟩⟩
    · rw [hcs]
      simp only [List.size_toArray, List.length_flatMap]
      rw [List.map_congr_left (g := fun _ => r.n) (fun x _ => Flat.len r x)]
      simp [List.map_const', List.sum_replicate_nat]
    · rw [hcs]; simpa using win_flat l i x hx j v hv)
theorem c_88 {P : Program} {ts td : TypeId} {x : UInt8} (hs : under? P ts = true) (hd : isInt P td .u8 = true) (w : World) : (convert ts td (.int .u8 x.toNat)).run P w = .ok (.int .u8 x.toNat) w := by
  rw [c_int hs hd, wrap_u8]
  have := x.toNat_lt
  congr 2
  omega
/-- As many rounds as there are. -/
def rounds : Nat := 4611686018427387904
end Go.Sym
namespace Go.Sym
open Go
theorem at?_lt {α : Type} {l : List α} {i : Int} {x : α} (h : at? l i = some x) : i.toNat < l.length := by have := at?_out h; omega
theorem run_equalIn_bool {P : Program} {t : TypeId} {a b : Bool} (ht : P.underlying t = some .bool) (k : Nat) (w : World) : (Op.equalIn (k + 1) t (.bool a) (.bool b)).run P w = .ok (a == b) w := by
  simp [Op.equalIn, run_underlying ht]
theorem run_equal_bool {P : Program} {t : TypeId} {a b : Bool} (ht : P.underlying t = some .bool) (w : World) : (Op.equal t (.bool a) (.bool b)).run P w = .ok (a == b) w := run_equalIn_bool ht 9999 w
theorem bb_eq {P : Program} {t : TypeId} {a b : Bool} (ht : P.underlying t = some .bool) (w : World) : (binOp .eql t (.bool a) (.bool b)).run P w = .ok (.bool (a == b)) w := by
  show (do Pure.pure (Value.bool (← Op.equal t (.bool a) (.bool b)))).run P w = _
  simp only [Sem.run_bind, run_equal_bool ht, Result.andThen_ok, Sem.run_pure]
theorem bb_ne {P : Program} {t : TypeId} {a b : Bool} (ht : P.underlying t = some .bool) (w : World) : (binOp .neq t (.bool a) (.bool b)).run P w = .ok (.bool (a != b)) w := by
  show (do Pure.pure (Value.bool (!(← Op.equal t (.bool a) (.bool b))))).run P w = _
  simp only [Sem.run_bind, run_equal_bool ht, Result.andThen_ok, Sem.run_pure, bne]
theorem Arrd.subOwn {α : Type} {r : Rep α} {a : Option Addr} {cap : Nat} {l l' : List α} {jl jh : Int} (hr : sl? l jl jh = some l') : Arrd (Sym.own r a cap l) r (subA a jl.toNat cap r.n) l' := ⟨fun G h dj p j x hx => by
  obtain ⟨h0, h1, h2, hl', hlen⟩ := sl?_out hr
  subst hl'
  have hc : l.length ≤ cap := p.1
  exact (Arrd.own.sub jl.toNat jh.toNat cap (by omega)).get G h dj p j x hx⟩
section
variable {C : Cx} {ops : Array Oper} {Q : Post} {i : Nat} {m : Env} {L L' : List Assn} {d : Option Nat} {t t' : TypeId} {p : String} {e : Array Edge} {g : Option (Nat × Bool)} {o : Oper}
theorem Does.sliceView {α : Type} {r : Rep α} {k : Nat} {x : Operand} {lo hi : Option Operand} {tx et : TypeId} {a : Option Addr} {cap yy : Nat} {l l' : List α} {jl jh : Int} (hw : Want ops m ⟨d, .slice tx x lo hi none, t, p, e, g⟩ true)
    (hx : ev m x = some (.slice a l.length cap)) (hl : evB m lo 0 = some jl) (hh : evB m hi l.length = some jh) (ht : slN C.P tx = some (et, r.n, yy)) (hk : L[k]? = some (own r a cap l)) (hr : sl? l jl jh = some l') :
    Does C ops m L ⟨d, .slice tx x lo hi none, t, p, e, g⟩ (fun _ : Unit => .slice (subA a jl.toNat cap r.n) l'.length (cap - jl.toNat)) (fun _ => L) := by
  obtain ⟨h0, h1, h2, hl', hlen⟩ := sl?_out hr
  refine Does.pure hw fun ac w ha hs => ?_
  have h2' := cap_own hk hs
  rw [run_sliceSl ha hx hl hh ht h0 h1 (by omega), hlen]
/-- A part of an element. -/
theorem Does.storeField {α : Type} {x y0 : Operand} {k f : Nat} {vs : List Value} {v : Value} {r : Rep α} [F : Flat r] {a : Option Addr} {cap : Nat} {l : List α} {j : Nat} {u y : α} (hw : Want ops m ⟨none, .store t x y0, t', p, e, g⟩ true)
    (hx : ev m x = some (.pointer (some (adA a (j * r.n) f)))) (hy : ev m y0 = some v) (hv : v.cells.toList = vs) (h1 : vs.all (·.oneCell') = true) (ht : cellsN C.P t = some vs.length)
    (hk : L[k]? = some (own r a cap l)) (hj : l[j]? = some y) (hle : Nat.ble (f + vs.length) r.n = true) (hu : putL (F.enc y) f vs = F.enc u) (hL : L.set k (own r a cap (l.set j u)) = L') :
    Does C ops m L ⟨none, .store t x y0, t', p, e, g⟩ (fun _ : Unit => undef) (fun _ => L') :=
  Does.eff hw (fun ac w ha hs => by
    have h1' : ∀ v ∈ vs, v.oneCell' = true := by simpa using h1
    have hle' : f + vs.length ≤ r.n := by simpa using hle
    have hjl : j < l.length := (List.getElem?_eq_some_iff.1 hj).1
    obtain ⟨b, off, ha'⟩ : ∃ b off, a = some ⟨b, off, none⟩ := by
      obtain ⟨G, ff, _, _, _, hl, q⟩ := hs.get k hk
      rcases q with ⟨rfl, rfl⟩ | ⟨b, off, c, t, fz, h1', _⟩
      · omega
      · exact ⟨b, off, h1'⟩
    subst ha'
    obtain ⟨h2, h3⟩ := St.write (A' := own r (some ⟨b, off, none⟩) cap (l.set j u)) (b := b) (o := off + j * r.n + f) (vs := vs) (hs.ent (Ent.take k hk)) h1' (fun G hh dj ⟨hl, q2⟩ => by
      rcases q2 with ⟨e1, rfl⟩ | ⟨b', off', c, ty, fz, e1, h2, h3, h4, h5⟩
      · omega
      · cases e1
        have hmul : (j + 1) * r.n ≤ cap * r.n := Nat.mul_le_mul_right _ (by omega)
        rw [Nat.add_mul] at hmul
        have hfit : off + j * r.n + f + vs.length ≤ c.size := by omega
        refine ⟨c, ty, fz, h2, h3, hfit, ?_⟩
        refine ⟨by simpa using hl, .inr ⟨b, off, putA c (off + j * r.n + f) vs, ty, fz, rfl, by simp, by rw [putA_size]; exact h3, by rw [putA_size]; exact h4, ?_⟩⟩
        intro q x hx
        rw [List.getElem?_set] at hx
        split at hx
        · rename_i e; subst e
          have : x = u := by first | exact (Option.some.inj hx).symm | (rw [if_pos hjl] at hx; exact (Option.some.inj hx).symm)
          subst this
          obtain ⟨cs, c1, c2⟩ := h5 j y hj
          have := F.eq _ _ _ _ c2
          subst this
          have hlen := Flat.len r y
          refine ⟨F.enc x, fun z v hz => ?_, F.rel x G emp⟩
          rw [← hu, putL_get (by rw [hlen]; exact hle')] at hz
          rw [putA_get _ _ _ _ hfit]
          split at hz
          · rename_i hzz
            rw [if_pos (by omega), show off + j * r.n + z - (off + j * r.n + f) = z - f from by omega]; exact hz
          · rename_i hzz
            rw [if_neg (by omega)]; exact c1 z v hz
        · rename_i hne
          obtain ⟨cs, h6, h7⟩ := h5 q x hx
          refine ⟨cs, fun z v hz => ?_, h7⟩
          have hzl : z < cs.length := (List.getElem?_eq_some_iff.1 hz).1
          rw [r.len h7] at hzl
          have : ¬ (off + j * r.n + f ≤ off + q * r.n + z ∧ off + q * r.n + z < off + j * r.n + f + vs.length) := by
            rcases Nat.lt_or_gt_of_ne hne with hlt | hlt
            · have : (j + 1) * r.n ≤ q * r.n := Nat.mul_le_mul_right _ (by omega)
              rw [Nat.add_mul] at this; omega
            · have : (q + 1) * r.n ≤ j * r.n := Nat.mul_le_mul_right _ (by omega)
              rw [Nat.add_mul] at this; omega
          rw [putA_get _ _ _ _ hfit, if_neg this]; exact h6 z v hz) C.P
    refine ⟨_, ?_, hL ▸ St.reput (lt_of_get hk) h3⟩
    have hx' := ha.ev hx
    rw [adA_some] at hx'
    simp [execOp, hx', ha.ev hy, run_storeAt ht hv h2])
end
end Go.Sym
namespace Go.Sym
/-- An element set. -/
def set? {α : Type} (l : List α) (j : Nat) (u : α) : Option (List α) := if j < l.length then some (l.set j u) else none
theorem set?_eq {α : Type} {l l' : List α} {j : Nat} {u : α} (h : set? l j u = some l') : l' = l.set j u := by
  unfold set? at h
  split at h
  · cases h; rfl
  · cases h
theorem set?_len {α : Type} {l l' : List α} {j : Nat} {u : α} (h : set? l j u = some l') : l.length = l'.length := by rw [set?_eq h]; simp
end Go.Sym
