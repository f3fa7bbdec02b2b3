/- Rules for operations on memory; no program in sight. -/
import Derived.Test.YtfonekhhbmlkbaaS3
set_option linter.unusedVariables false
set_option linter.unusedSimpArgs false
namespace Go.Sym
open Go

/-! ## Reading -/
theorem cell_hp {w : World} {b o : Nat} {c : Array Value} {e : TypeId} {fz : Nat × Nat} (h : hp w b = some (.cells c e fz)) : w.cell? ⟨b, o, none⟩ = c[o]? := by
  unfold hp at h
  simp only [World.cell?, h]
  rfl
theorem frozen_hp {w : World} {b o : Nat} {c : Array Value} {e : TypeId} {fz : Nat × Nat} (h : hp w b = some (.cells c e fz)) : w.frozen? ⟨b, o, none⟩ = (decide (fz.1 ≤ o) && decide (o < fz.2)) := by
  unfold hp at h
  obtain ⟨lo, hi⟩ := fz
  simp only [World.frozen?, h]
theorem frozen_ok {w : World} {b o : Nat} {c : Array Value} {e : TypeId} {fz : Nat × Nat} (h : hp w b = some (.cells c e fz)) {n : Nat} (hf : FzOK fz n) (ho : o < n) : w.frozen? ⟨b, o, none⟩ = false := by
  rw [frozen_hp h]
  have := hf o ho
  rw [Bool.and_eq_false_iff, decide_eq_false_iff_not, decide_eq_false_iff_not]
  omega
theorem St.pts {W w : World} {L : List Assn} (h : St W w L) {k b : Nat} {cs : List Value} (hk : L[k]? = some (pts b cs)) : ∃ e fz, hp w b = some (.cells cs.toArray e fz) ∧ FzOK fz cs.length := by
  obtain ⟨G, h1, _, l, _, e, fz, hb, hf⟩ := h.get k hk
  exact ⟨e, fz, l _ _ hb, hf⟩

/-- What an assertion tells of a slice's elements. -/
structure Arrd {α : Type} (A : Assn) (r : Rep α) (a : Option Addr) (l : List α) : Prop where
  get : ∀ G h, Dj G h → A.p G h → ∀ j x, l[j]? = some x → ∃ b off c e fz cs, a = some ⟨b, off, none⟩ ∧ un G h b = some (.cells c e fz) ∧ Win c (off + j * r.n) cs ∧ (r.rel cs x).p G emp
theorem un_right_of {G h : Frag} (d : Dj G h) {b : Nat} {o : Obj} (e : h b = some o) : un G h b = some o := Le.un_right d b o e
section
variable {α : Type} {r : Rep α} {a : Option Addr} {cap : Nat} {l : List α}
theorem Arrd.ro : Arrd (ro r a cap l) r a l := ⟨fun G h _ p j x hx => by
  obtain ⟨b, off, c, e, fz, cs, h1, h2, h3, h4⟩ := p.2 j x hx
  exact ⟨b, off, c, e, fz, cs, h1, Le.un_left _ _ _ _ h2, h3, h4⟩⟩
theorem Arrd.nil (A : Assn) : Arrd A r a ([] : List α) := ⟨fun G h _ p j x hx => by simp at hx⟩
theorem Arrd.own : Arrd (own r a cap l) r a l := ⟨by
  rintro G h dj ⟨hl, f⟩ j x hx
  rcases f with ⟨rfl, rfl⟩ | ⟨b, off, c, t, fz, h1', h2, h3, h4, h5⟩
  · rw [Nat.le_zero.1 hl |> List.eq_nil_of_length_eq_zero] at hx
    simp at hx
  · obtain ⟨cs, h6, h7⟩ := h5 j x hx
    exact ⟨b, off, c, t, fz, cs, h1', un_right_of dj h2, h6, h7⟩⟩
theorem Arrd.arr {b : Nat} : Arrd (arr r b l) r (some ⟨b, 0, none⟩) l := ⟨by
  rintro G h dj ⟨c, e, fz, h1, h2, h3, h4⟩ j x hx
  obtain ⟨cs, h6, h7⟩ := h4 j x hx
  exact ⟨b, 0, c, e, fz, cs, rfl, un_right_of dj h1, by rw [Nat.zero_add]; exact h6, h7⟩⟩
/-- A piece of it. -/
def subA (a : Option Addr) (lo m sz : Nat) : Option Addr := if m = lo then a else a.map fun x => x.add (lo * sz)
theorem Arrd.sub {A : Assn} (h : Arrd A r a l) (lo hi m : Nat) (hm : hi ≤ m) : Arrd A r (subA a lo m r.n) ((l.take hi).drop lo) := ⟨fun G g dj p j x hx => by
  rw [List.getElem?_drop, List.getElem?_take] at hx
  split at hx
  · rename_i hlt
    obtain ⟨b, off, c, e, fz, cs, h1, h2, h3, h4⟩ := h.get G g dj p _ _ hx
    refine ⟨b, off + lo * r.n, c, e, fz, cs, ?_, h2, ?_, h4⟩
    · rw [subA, if_neg (by omega), h1, Option.map_some, Addr.add]
      split
      · rename_i hz; rw [hz, Nat.add_zero]
      · rfl
    · rw [show off + lo * r.n + j * r.n = off + (lo + j) * r.n from by rw [Nat.add_mul]; omega]; exact h3
  · cases hx⟩
end

/-- The address of the f-th cell behind o cells. -/
def adA (a : Option Addr) (o f : Nat) : Addr := ⟨(a.map (·.block)).getD 0, (a.map (·.off)).getD 0 + o + f, none⟩
theorem adA_some (b off o f : Nat) : adA (some ⟨b, off, none⟩) o f = ⟨b, off + o + f, none⟩ := rfl
theorem add_lit (b o k : Nat) : (⟨b, o, none⟩ : Addr).add k = ⟨b, o + k, none⟩ := by unfold Addr.add; split <;> simp_all
theorem adA_add (a : Option Addr) (o f k : Nat) : (adA a o f).add k = adA a o (f + k) := by
  unfold adA; rw [add_lit]; simp only [Nat.add_assoc]

theorem St.elemRel {α : Type} {W w : World} {L : List Assn} (h : St W w L) {k : Nat} {A : Assn} (hk : L[k]? = some A) {r : Rep α} {a : Option Addr} {l : List α} (hA : Arrd A r a l) {j : Nat} {x : α} (hx : l[j]? = some x) :
    ∃ b off c e fz cs, a = some ⟨b, off, none⟩ ∧ hp w b = some (.cells c e fz) ∧ Win c (off + j * r.n) cs ∧ cs.length = r.n ∧ St W w (r.rel cs x :: L) := by
  obtain ⟨G, f, g, lf, d, s, m⟩ := h
  obtain ⟨h1, h2, d', a', b', p, s'⟩ := Ent.take k hk G f s
  obtain ⟨b, off, c, e, fz, cs, e1, e2, e3, e4⟩ := hA.get G h1 (d.mono (Le.refl _) a') p j x hx
  refine ⟨b, off, c, e, fz, cs, e1, Le.un g (a'.trans lf) _ _ e2, e3, r.len e4, G, f, g, lf, d, ⟨emp, f, Dj.emp _, Le.emp _, Le.refl _, e4, s⟩, m⟩

/-- An element of a list at an int. -/
def at? {α : Type} (l : List α) (i : Int) : Option α := if 0 ≤ i then l[i.toNat]? else none
theorem at?_out {α : Type} {l : List α} {i : Int} {x : α} (h : at? l i = some x) : 0 ≤ i ∧ i < l.length ∧ l[i.toNat]? = some x := by
  unfold at? at h
  split at h
  · rename_i h0
    have := (List.getElem?_eq_some_iff.1 h).1
    exact ⟨h0, by omega, h⟩
  · cases h

section
variable {C : Cx} {ops : Array Oper} {Q : Post} {i : Nat} {m : Env} {L : List Assn} {d : Nat} {t t' : TypeId} {p : String} {e : Array Edge} {g : Option (Nat × Bool)}
theorem Instr.load_scal {P : Program} {t : TypeId} (ht : scal P t = true) {w : World} {q : Addr} {v : Value} (hv : w.cell? q = some v) : (Instr.loadAt t (.pointer (some q))).run P w = .ok v w := by
  simp [Instr.loadAt, Instr.sureAddr, loadVar, run_isAgg_false ht, load, Sem.run, hv]
theorem Instr.load_agg {P : Program} {t : TypeId} {n : Nat} (ht : aggN P t = some n) {w : World} {b o : Nat} {vs : List Value} (hl : vs.length = n) (hv : ∀ j u, vs[j]? = some u → w.cell? ⟨b, o + j, none⟩ = some u) :
    (Instr.loadAt t (.pointer (some ⟨b, o, none⟩))).run P w = .ok (.agg vs.toArray) w := by
  obtain ⟨h1, h2⟩ := run_isAgg_true ht w
  subst hl
  have hr := run_loadCells_list (P := P) (w := w) ⟨b, o, none⟩ vs (fun j v hj => by rw [add_lit]; exact hv j v hj)
  simp [Instr.loadAt, Instr.sureAddr, loadVar, h1, h2, hr]
theorem Does.loadPts {x : Operand} {k b o : Nat} {cs : List Value} {v : Value} (hw : Want ops m ⟨some d, .load t x, t', p, e, g⟩ true)
    (hx : ev m x = some (.pointer (some ⟨b, o, none⟩))) (ht : scal C.P t = true) (hk : L[k]? = some (pts b cs)) (hv : cs[o]? = some v) : Does C ops m L ⟨some d, .load t x, t', p, e, g⟩ (fun _ : Unit => v) (fun _ => L) :=
  Does.pure hw (fun a w ha hs => by
    obtain ⟨e, fz, hb, _⟩ := hs.pts hk
    have : w.cell? ⟨b, o, none⟩ = some v := by rw [cell_hp hb]; simpa using hv
    simp [execOp, ha.ev hx, Instr.load_scal ht this])
theorem Does.loadPtsN {x : Operand} {k b o n : Nat} {cs vs : List Value} (hw : Want ops m ⟨some d, .load t x, t', p, e, g⟩ true)
    (hx : ev m x = some (.pointer (some ⟨b, o, none⟩))) (ht : aggN C.P t = some n) (hk : L[k]? = some (pts b cs)) (hv : (cs.drop o).take n = vs) (hl : vs.length = n) : Does C ops m L ⟨some d, .load t x, t', p, e, g⟩ (fun _ : Unit => .agg vs.toArray) (fun _ => L) :=
  Does.pure hw (fun a w ha hs => by
    obtain ⟨e, fz, hb, _⟩ := hs.pts hk
    have : ∀ j u, vs[j]? = some u → w.cell? ⟨b, o + j, none⟩ = some u := fun j u hj => by
      rw [cell_hp hb]
      rw [← hv, List.getElem?_take] at hj
      split at hj
      · rw [List.getElem?_drop] at hj; simpa using hj
      · cases hj
    simp [execOp, ha.ev hx, Instr.load_agg ht hl this])
/-- A cell of an element. -/
theorem Does.loadElem {α : Type} {x : Operand} {k f : Nat} {r : Rep α} {a : Option Addr} {l : List α} {A : Assn} {j : Nat} {y : α} (hw : Want ops m ⟨some d, .load t x, t', p, e, g⟩ true)
    (hx : ev m x = some (.pointer (some (adA a (j * r.n) f)))) (ht : scal C.P t = true) (hk : L[k]? = some A) (hA : Arrd A r a l) (hy : l[j]? = some y) (hf : Nat.blt f r.n = true) : Does C ops m L ⟨some d, .load t x, t', p, e, g⟩ (fun cs : List Value => cs.getD f undef) (fun cs => (r.rel cs y :: L)) :=
  Does.val (X := List Value) hw (fun ac w ha hs => by
    obtain ⟨b, off, c, e, fz, cs, h1, h2, h3, h4, h5⟩ := hs.elemRel hk hA hy
    refine ⟨cs, w, ?_, h5⟩
    have hf' : f < cs.length := by rw [h4]; simpa [Nat.blt_eq] using hf
    have hv : cs[f]? = some (cs.getD f undef) := by rw [List.getD_eq_getElem?_getD, List.getElem?_eq_getElem hf']; rfl
    have : w.cell? (adA a (j * r.n) f) = some (cs.getD f undef) := by rw [h1, adA_some, cell_hp h2]; exact h3 f _ hv
    simp [execOp, ha.ev hx, Instr.load_scal ht this])
/-- A whole element of several cells. -/
theorem Does.loadElemN {α : Type} {x : Operand} {k : Nat} {r : Rep α} {a : Option Addr} {l : List α} {A : Assn} {j : Nat} {y : α} (hw : Want ops m ⟨some d, .load t x, t', p, e, g⟩ true)
    (hx : ev m x = some (.pointer (some (adA a (j * r.n) 0)))) (ht : aggN C.P t = some r.n) (hk : L[k]? = some A) (hA : Arrd A r a l) (hy : l[j]? = some y) : Does C ops m L ⟨some d, .load t x, t', p, e, g⟩ (fun cs : List Value => .agg cs.toArray) (fun cs => (r.rel cs y :: L)) :=
  Does.val (X := List Value) hw (fun ac w ha hs => by
    obtain ⟨b, off, c, e, fz, cs, h1, h2, h3, h4, h5⟩ := hs.elemRel hk hA hy
    refine ⟨cs, w, ?_, h5⟩
    have hx' := ha.ev hx
    rw [h1, adA_some, Nat.add_zero] at hx'
    have : ∀ q u, cs[q]? = some u → w.cell? ⟨b, off + j * r.n + q, none⟩ = some u := fun q u hq => by rw [cell_hp h2]; exact h3 q u hq
    simp [execOp, hx', Instr.load_agg ht h4 this])
theorem Does.indexSl {α : Type} {x y : Operand} {tx et : TypeId} {k cap yy : Nat} {kk : IntKind} {j : Int} {r : Rep α} {a : Option Addr} {l : List α} {A : Assn} {u : α}
    (hw : Want ops m ⟨some d, .indexAddr tx x y, t, p, e, g⟩ true)
    (hx : ev m x = some (.slice a l.length cap)) (hy : ev m y = some (.int kk j)) (ht : slN C.P tx = some (et, r.n, yy)) (hk : L[k]? = some A) (hA : Arrd A r a l) (hj : at? l j = some u) : Does C ops m L ⟨some d, .indexAddr tx x y, t, p, e, g⟩ (fun _ : Unit => .pointer (some (adA a (j.toNat * r.n) 0))) (fun _ => L) :=
  Does.pure hw (fun ac w ha hs => by
    obtain ⟨j0, j1, j2⟩ := at?_out hj
    obtain ⟨b, off, c, e, fz, cs, h1, h2, h3, h4, h5⟩ := hs.elemRel hk hA j2
    obtain ⟨hu, ti, hti, hsz, _⟩ := slN_out ht
    subst h1
    rw [adA_some, Nat.add_zero]
    simp [execOp, ha.ev hx, ha.ev hy, Instr.indexAt, asIntOf, run_underlying hu, j0, j1, sizeOf, typeInfo, hti, hsz, add_lit])
theorem Does.indexArr {x y : Operand} {tx et : TypeId} {n sz b : Nat} {kk : IntKind} {j : Int}
    (hw : Want ops m ⟨some d, .indexAddr tx x y, t, p, e, g⟩ true)
    (hx : ev m x = some (.pointer (some ⟨b, 0, none⟩))) (hy : ev m y = some (.int kk j)) (ht : arN C.P tx = some (n, et, sz)) (h0 : 0 ≤ j) (h1 : j < n) : Does C ops m L ⟨some d, .indexAddr tx x y, t, p, e, g⟩ (fun _ : Unit => .pointer (some (adA (some ⟨b, 0, none⟩) (j.toNat * sz) 0))) (fun _ => L) :=
  Does.pure hw (fun ac w ha hs => by
    obtain ⟨hu, ti, hti, hsz⟩ := arN_out ht
    rw [adA_some, Nat.add_zero, Nat.zero_add]
    simp [execOp, ha.ev hx, ha.ev hy, Instr.indexAt, asIntOf, run_underlying hu, h0, h1, sizeOf, typeInfo, hti, hsz, add_lit, Instr.sureAddr])
theorem Does.fieldAddrA {s : TypeId} {x : Operand} {f k q f' o : Nat} {a : Option Addr} (hw : Want ops m ⟨some d, .fieldAddr s x f, t, p, e, g⟩ true)
    (hx : ev m x = some (.pointer (some (adA a o q)))) (hk : fldOff C.P s f = some k) (ho' : q + k = f') : Does C ops m L ⟨some d, .fieldAddr s x f, t, p, e, g⟩ (fun _ : Unit => .pointer (some (adA a o f'))) (fun _ => L) :=
  Does.pure hw (fun ac w ha _ => by
    unfold fldOff at hk
    split at hk
    · rename_i fs hu
      split at hk
      · rename_i gf hf
        split at hk
        · rename_i ti hti
          split at hk
          · cases hk
          · rename_i hz
            cases hk
            subst ho'
            simp [execOp, ha.ev hx, Instr.fieldAt, run_underlying hu, hf, Instr.sureAddr, fieldPlace, sizeOf, typeInfo, hti, hz, adA_add]
        · cases hk
      · cases hk
    · cases hk)
/-- A byte of a string. -/
theorem Does.indexStr {x y : Operand} {tx : TypeId} {kk : IntKind} {j : Int} {l : List UInt8} {u : UInt8} (hw : Want ops m ⟨some d, .index tx x y, t, p, e, g⟩ true)
    (hx : ev m x = some (.string ⟨l.toArray⟩)) (hy : ev m y = some (.int kk j)) (ht : isStr C.P tx = true) (hj : at? l j = some u) : Does C ops m L ⟨some d, .index tx x y, t, p, e, g⟩ (fun _ : Unit => .int .u8 u.toNat) (fun _ => L) :=
  Does.pure hw (fun ac w ha _ => by
    obtain ⟨j0, j1, j2⟩ := at?_out hj
    have : (ByteArray.mk l.toArray)[j.toNat]? = some u := by
      rw [← j2]
      have hsz : (ByteArray.mk l.toArray).size = l.length := by simp [ByteArray.size]
      by_cases hlt : j.toNat < l.length
      · rw [getElem?_pos (ByteArray.mk l.toArray) j.toNat (by rw [hsz]; exact hlt), getElem?_pos l j.toNat hlt]
        congr 1
      · omega
    simp [execOp, ha.ev hx, ha.ev hy, Instr.index, asIntOf, run_underlying (isStr_out ht), j0, this])

/-! ## New blocks -/
theorem St.alloc {W w : World} {L : List Assn} (h : St W w L) (cs : List Value) (ty : TypeId) : St W { w with heap := w.heap.push (.cells cs.toArray ty) } (Sym.pts w.heap.size cs :: L) := by
  obtain ⟨x, h'⟩ := St.new (X := Unit) (w' := { w with heap := w.heap.push (.cells cs.toArray ty) }) (A' := fun _ => Sym.pts w.heap.size cs) h ⟨rfl, rfl, rfl⟩ (fun G g => by
    refine ⟨(), fun b => if b = w.heap.size then some (.cells cs.toArray ty) else none, ⟨ty, (0, 0), by simp, FzOK.zero _⟩, ?_, ?_, ?_⟩
    · intro b o hb
      dsimp only at hb
      split at hb
      · rename_i e; subst e; cases hb; simp [hp]
      · cases hb
    · intro b o hb
      have hlt : b < w.heap.size := by
        rcases Nat.lt_or_ge b w.heap.size with k | k
        · exact k
        · unfold hp at hb; rw [Array.getElem?_eq_none k] at hb; cases hb
      unfold hp at hb ⊢
      dsimp only
      rw [Array.getElem?_push, if_neg (by omega)]; exact hb
    · intro b hb
      dsimp only at hb
      split at hb
      · rename_i e; subst e; simp [hp]
      · exact absurd rfl hb)
  exact h'
theorem Does.alloc {ty : TypeId} {zs : List Value} (hw : Want ops m ⟨some d, .alloc ty, t, p, e, g⟩ true) (hz : zeroN C.P ty = some zs) : Does C ops m L ⟨some d, .alloc ty, t, p, e, g⟩ (fun b : Nat => .pointer (some ⟨b, 0, none⟩)) (fun b => (pts b zs :: L)) :=
  Does.val (X := Nat) hw (fun ac w ha hs => by
    obtain ⟨ti, z, h1, h2, h3⟩ := zeroN_out hz
    refine ⟨w.heap.size, _, ?_, hs.alloc zs ty⟩
    simp [execOp, Instr.alloc, zeroValue, typeInfo, h1, h2, newVar, newRow, newObj, Sem.run, h3])
theorem Does.box {ty : TypeId} {x : Operand} {v : Value} {vs : List Value} (hw : Want ops m ⟨some d, .box ty x, t, p, e, g⟩ true) (hx : ev m x = some v) (hv : v.cells.toList = vs) : Does C ops m L ⟨some d, .box ty x, t, p, e, g⟩ (fun b : Nat => .pointer (some ⟨b, 0, none⟩)) (fun b => (pts b vs :: L)) :=
  Does.val (X := Nat) hw (fun ac w ha hs => by
    refine ⟨w.heap.size, _, ?_, hs.alloc vs ty⟩
    have : v.cells = vs.toArray := by rw [← hv]
    simp [execOp, ha.ev hx, Instr.box, newVar, newRow, newObj, Sem.run, this])
/-- A slice of literals. -/
theorem Does.buildSlice {α : Type} {tx et : TypeId} {n yy : Nat} {ps : Array (Nat × Operand)} {vs : List (Nat × Value)} {cs : List Value} {r : Rep α} {l : List α}
    (hw : Want ops m ⟨some d, .buildSlice tx n ps, t, p, e, g⟩ true)
    (hx : evs m ps.toList = some vs) (ht : slN C.P tx = some (et, r.n, yy))
    (hr : ∀ w, (Instr.buildSlice tx n vs.toArray).run C.P w = .ok (.slice (some ⟨w.heap.size, 0, none⟩) n n) { w with heap := w.heap.push (.cells cs.toArray et) })
    (hl : l.length = n) (hcs : cs.length = n * r.n) (hrel : ∀ w, St C.W w L → St C.W w (star ((List.range n).zip l |>.map fun q => r.rel ((cs.drop (q.1 * r.n)).take r.n) q.2) :: L)) [R : PureRep r] : Does C ops m L ⟨some d, .buildSlice tx n ps, t, p, e, g⟩ (fun a : Option Addr => .slice a l.length n) (fun a => (own r a n l :: L)) :=
  Does.val (X := Option Addr) hw (fun ac w ha hs => by
    have : (ps.map fun (k, x) => (k, ac.eval x)) = vs.toArray := by
      rw [← evs_out ha hx]
      apply Array.ext'
      simp
    have h1 := (hrel w hs).alloc cs et
    refine ⟨some ⟨w.heap.size, 0, none⟩, _, by simp [execOp, this, hr, hl]; rfl, ?_⟩
    obtain ⟨G, f, g, lf, dj, ⟨h1, h2, d1, a1, b1, ⟨ty, fz, p1, p2⟩, h3, h4, d2, a2, b2, s1, s2⟩, mm⟩ := h1
    refine ⟨G, f, g, lf, dj, ⟨h1, h4, d1.mono (Le.refl _) b2, a1, b2.trans b1, ⟨by omega, .inr ⟨w.heap.size, 0, cs.toArray, ty, fz, rfl, p1, by simpa using p2, by simp [hcs], ?_⟩⟩, s2⟩, mm⟩
    intro j x hj
    have hjl : j < l.length := by
      rcases Nat.lt_or_ge j l.length with k | k
      · exact k
      · rw [List.getElem?_eq_none k] at hj; cases hj
    refine ⟨(cs.drop (j * r.n)).take r.n, ?_, ?_⟩
    · intro q v hq
      rw [List.getElem?_take] at hq
      split at hq
      · rw [List.getElem?_drop] at hq; simpa using hq
      · cases hq
    · have hmem : r.rel ((cs.drop (j * r.n)).take r.n) x ∈ ((List.range n).zip l |>.map fun q => r.rel ((cs.drop (q.1 * r.n)).take r.n) q.2) := by
        refine List.mem_map.2 ⟨(j, x), ?_, rfl⟩
        refine List.mem_iff_getElem?.2 ⟨j, ?_⟩
        rw [List.getElem?_zip_eq_some]
        exact ⟨by rw [List.getElem?_range (by omega)], hj⟩
      obtain ⟨k, hk⟩ := List.mem_iff_getElem?.1 hmem
      obtain ⟨h5, _, _, _, _, pp, _⟩ := Ent.take k hk G h3 s1
      exact R.dup _ _ _ _ pp)
end
end Go.Sym
