/- What an argument's reading says, as a representation; and how a call begins and ends: no program in sight. -/
import Derived.Test.YtfonekhhbmlkbaaS8
import Derived.Deep.Slices
import Derived.Carry
import Derived.ChangeSame
namespace Go.Sym
open Go Go.RowKit Go.WideShapes Go.ChangeShapes

/-- Whatever reads as the type t stands for a value of r, of which B holds. -/
structure Rd (P : Program) {α : Type} (r : Rep α) (t : TypeId) (B : α → Prop) : Prop where
  n : P.cellsOf t = r.n
  rd : ∀ {H : Type} {enc : TypeId × Value → H} {w : World} {fuel : Nat} {cs : List Value} {x : DataW H × List MemPlace},
    DataW.trod enc P w 0 (fun _ => true) true fuel t cs = some x → ∃ y, (r.rel cs y).p (hp w) emp ∧ B y

def iFit (k : IntKind) (n : Int) : Prop := k.min ≤ n ∧ n ≤ k.max
def tFit {α : Type} (_ : α) : Prop := True
def sFit (l : List UInt8) : Prop := l.length ≤ maxLen
def slFit {α : Type} (B : α → Prop) (l : List α) : Prop := l.length ≤ maxLen ∧ ∀ x ∈ l, B x
theorem Rd.int {P : Program} {k : IntKind} {t : TypeId} (ht : P.underlying t = some (.int k)) (hn : P.cellsOf t = 1) : Rd P (rI k) t (iFit k) := by
  refine ⟨hn, fun {_ _ _ _ _ _} h => ?_⟩
  obtain ⟨n, rfl, _, hw⟩ := DataW.trod_int ht h
  refine ⟨n, rfl, ?_⟩
  have h2 : k.min ≤ n ∧ n ≤ k.max := by simpa [Lit.wf] using hw
  exact h2
theorem Rd.u8 {P : Program} {t : TypeId} (ht : P.underlying t = some (.int .u8)) (hn : P.cellsOf t = 1) : Rd P rU8 t tFit := by
  refine ⟨hn, fun {_ _ _ _ _ _} h => ?_⟩
  obtain ⟨n, rfl, _, hw⟩ := DataW.trod_int ht h
  have hw' : 0 ≤ n ∧ n ≤ 255 := by
    have h2 : IntKind.u8.min ≤ n ∧ n ≤ IntKind.u8.max := by simpa [Lit.wf] using hw
    exact h2
  refine ⟨UInt8.ofNat n.toNat, ?_, trivial⟩
  show [Value.int .u8 n] = [.int .u8 ((UInt8.ofNat n.toNat).toNat : Nat)]
  have : (UInt8.ofNat n.toNat).toNat = n.toNat := by
    rw [UInt8.toNat_ofNat']; omega
  rw [this, Int.toNat_of_nonneg hw'.1]
theorem Rd.bool {P : Program} {t : TypeId} (ht : P.underlying t = some .bool) (hn : P.cellsOf t = 1) : Rd P rB t tFit := by
  refine ⟨hn, fun {_ _ _ _ _ _} h => ?_⟩
  obtain ⟨n, rfl, _⟩ := DataW.trod_bool ht h
  exact ⟨n, rfl, trivial⟩
theorem Rd.str {P : Program} {t : TypeId} (ht : P.underlying t = some .string) (hn : P.cellsOf t = 1) : Rd P rS t sFit := by
  refine ⟨hn, fun {_ _ _ _ _ _} h => ?_⟩
  obtain ⟨s, rfl, _, hs⟩ := DataW.trod_string ht h
  exact ⟨s.data.toList, by show _ = _; simp, by show _ ≤ _; simpa using hs⟩
theorem Rd.map {P : Program} {α β : Type} {r : Rep α} {t : TypeId} {B : α → Prop} (h : Rd P r t B) (f : β → α) (g : α → β) (hf : ∀ a, f (g a) = a) : Rd P (rMap f r) t (fun y => B (f y)) := by
  refine ⟨h.n, fun {_ _ _ _ _ _} e => ?_⟩
  obtain ⟨y, p, b⟩ := h.rd e
  exact ⟨g y, by show (r.rel _ (f (g y))).p _ _; rw [hf]; exact p, by rw [hf]; exact b⟩

theorem cell_block {w : World} {a : Addr} {v : Value} (h : w.cell? a = some v) : a.spot = none ∧ ∃ c e fz, w.heap[a.block]? = some (.cells c e fz) ∧ c[a.off]? = some v := by
  unfold World.cell? at h
  split at h
  · rename_i c e fz hc
    split at h
    · cases h
    · rename_i hs
      exact ⟨by simpa using hs, c, e, fz, hc, h⟩
  · cases h

theorem Rd.slice {P : Program} {α : Type} [Inhabited α] {r : Rep α} {t e : TypeId} {B : α → Prop} (ht : P.underlying t = some (.slice e)) (hn : P.cellsOf t = 1) (he : Rd P r e B) (hp0 : Nat.blt 0 r.n = true) :
    Rd P (rRo r) t (slFit B) := by
  have hpos : 0 < r.n := by simpa using hp0
  refine ⟨hn, fun {H enc w fuel cs x} h => ?_⟩
  rcases Deep.open_slice ht h with ⟨rfl, _⟩ | ⟨a, len, cap, m, n, D, Pl, rfl, hb, hl, hm, hmm, _, hx⟩
  · exact ⟨[], ⟨none, 0, rfl, by simp [ro]⟩, by simp [slFit]⟩
  have hcap : m = cap := by simpa using hmm
  have each : ∀ i, i < len → ∃ y, (∃ cs', w.cells? 0 (a.add (i * P.cellsOf e)) (P.cellsOf e) = some cs' ∧ (r.rel cs' y).p (hp w) emp) ∧ B y := fun i hi => by
    obtain ⟨cs', h1, h2⟩ := hx i (by omega)
    obtain ⟨y, p, b⟩ := he.rd h2
    exact ⟨y, ⟨cs', h1, p⟩, b⟩
  obtain ⟨f, hf⟩ := Deep.choose_lt each
  have len' : ((List.range len).map f).length = len := by simp
  refine ⟨(List.range len).map f, ⟨some a, cap, by rw [len'], ?_, ?_⟩, by rw [len']; omega, ?_⟩
  · rw [len']; exact hl
  · intro i y hy
    have hi : i < len := by
      have := (List.getElem?_eq_some_iff.1 hy).1
      rwa [len'] at this
    have hy' : f i = y := by simpa [hi] using hy
    subst hy'
    obtain ⟨⟨cs', h1, p⟩, _⟩ := hf i hi
    obtain ⟨_, hlen, hc⟩ := World.cells?_some h1
    rw [he.n] at hlen hc
    have hs : a.spot = none := by
      obtain ⟨⟨c0, h3, _⟩, _⟩ := hf 0 (by omega)
      obtain ⟨_, hlen0, hc0⟩ := World.cells?_some h3
      rw [he.n] at hlen0 hc0
      have k := hc0 0 (by omega)
      rw [List.getElem?_eq_getElem (by omega)] at k
      have := (cell_block k).1
      simpa [Addr.add] using this
    have hblk : ∀ j, (a.add j).block = a.block ∧ ((a.add j).off = a.off + j) := fun j => by
      unfold Addr.add
      split
      · rename_i hj; simp [hj]
      · exact ⟨rfl, rfl⟩
    have h0 := hc 0 (by omega)
    rw [Deep.add_add, List.getElem?_eq_getElem (by omega)] at h0
    obtain ⟨_, c, el, fz, hb', _⟩ := cell_block h0
    refine ⟨a.block, a.off, c, el, fz, cs', ?_, ?_, ?_, p⟩
    · cases a; simp_all
    · rw [(hblk _).1] at hb'; exact hb'
    · intro j v hv
      have hj : j < r.n := by
        have := (List.getElem?_eq_some_iff.1 hv).1
        omega
      have hcj := hc j hj
      rw [Deep.add_add, hv] at hcj
      obtain ⟨_, c2, e2, fz2, hb2, hv2⟩ := cell_block hcj
      rw [(hblk _).1] at hb2 hb'
      rw [hb'] at hb2
      cases hb2
      rw [(hblk _).2] at hv2
      rw [← hv2]; congr 1; omega
  · intro y hy
    obtain ⟨i, hi, rfl⟩ := List.mem_map.1 hy
    exact (hf i (List.mem_range.1 hi)).2

structure RdF (P : Program) {α : Type} (r : Rep α) (o : Nat) (fs : List Field) (B : α → Prop) : Prop where
  rd : ∀ {H : Type} {enc : TypeId × Value → H} {w : World} {fuel : Nat} {cs : List Value}, cs.length = o + r.n →
    (∀ f ∈ fs, ∃ x, DataW.trod enc P w 0 (fun _ => true) true fuel f.type ((cs.drop f.offset).take (P.cellsOf f.type)) = some x) → ∃ y, (r.rel (cs.drop o) y).p (hp w) emp ∧ B y
theorem RdF.nil {P : Program} {o : Nat} : RdF P rN o [] tFit :=
  ⟨fun {_ _ _ _ cs} hl _ => ⟨(), by show cs.drop o = []; exact List.drop_eq_nil_of_le (by show cs.length ≤ o; have : rN.n = 0 := rfl; omega), trivial⟩⟩
theorem RdF.cons {P : Program} {α β : Type} {r : Rep α} {s : Rep β} {o : Nat} {f : Field} {fs : List Field} {B : α → Prop} {C : β → Prop} (hr : Rd P r f.type B) (ho : f.offset = o) (hs : RdF P s (o + r.n) fs C) :
    RdF P (rC r s) o (f :: fs) (fun x => B x.1 ∧ C x.2) := by
  refine ⟨fun {H enc w fuel cs} hl h => ?_⟩
  have hl' : cs.length = o + (r.n + s.n) := hl
  obtain ⟨x, hx⟩ := h f (by simp)
  rw [ho, hr.n] at hx
  obtain ⟨y, py, by'⟩ := hr.rd hx
  obtain ⟨z, pz, bz⟩ := hs.rd (enc := enc) (w := w) (fuel := fuel) (cs := cs) (by omega) (fun g hg => h g (by simp [hg]))
  refine ⟨(y, z), ⟨(cs.drop o).take r.n, cs.drop (o + r.n), emp, emp, ?_, Dj.emp _, Le.emp _, Le.emp _, py, pz⟩, by', bz⟩
  rw [← List.drop_drop, List.take_append_drop]
theorem Rd.struct {P : Program} {α : Type} {r : Rep α} {t : TypeId} {fs : Array Field} {B : α → Prop} (ht : P.underlying t = some (.struct fs)) (hn : P.cellsOf t = r.n) (h : RdF P r 0 fs.toList B) : Rd P r t B := by
  refine ⟨hn, fun {H enc w fuel cs x} e => ?_⟩
  obtain ⟨xs, n, _, _, hl, hxl, hf⟩ := DataW.trod_struct ht e
  obtain ⟨y, p, b⟩ := h.rd (enc := enc) (w := w) (fuel := n) (cs := cs) (by omega) (fun f hfm => by
    obtain ⟨i, hi, rfl⟩ := List.mem_iff_getElem.1 hfm
    have hi' : i < fs.size := by simpa using hi
    have := hf i fs[i] (Array.getElem?_eq_getElem hi')
    rw [List.getElem?_eq_getElem (by omega)] at this
    exact ⟨_, by simpa using this⟩)
  exact ⟨y, by simpa using p, b⟩

/-- What was there when the call began, and is still. -/
def base (W : World) : Assn := ⟨fun G _ => Le (hp W) G, fun k h => h.trans k⟩
instance (W : World) : Dup (base W) := ⟨fun _ _ h => h⟩
theorem St.enter (W : World) : ∀ {L : List Assn}, (∀ A ∈ L, A.p (hp W) emp) → St W W (L ++ [base W]) := fun {L} h => by
  refine ⟨hp W, emp, Le.refl _, Le.emp _, (Dj.emp _).symm, ?_, Same.refl _⟩
  induction L with
  | nil => exact ⟨emp, emp, Dj.emp _, Le.emp _, Le.emp _, Le.refl _, trivial⟩
  | cons A L ih => exact ⟨emp, emp, Dj.emp _, Le.emp _, Le.emp _, h A (by simp), ih fun B hB => h B (by simp [hB])⟩
theorem below_of {W w : World} {L : List Assn} (h : St W w (base W :: L)) : Below W.heap.size W w := by
  obtain ⟨G, f, a, b, d, ⟨h1, h2, _, _, _, p, _⟩, m⟩ := h
  have k : Le (hp W) (hp w) := Le.trans p a
  have each : ∀ i, i < W.heap.size → w.heap[i]? = W.heap[i]? := fun i hi => by
    have e : hp W i = some W.heap[i] := Array.getElem?_eq_getElem hi
    exact (k i _ e).trans e.symm
  refine ⟨m.os, m.tape, m.output, ?_, each⟩
  rcases Nat.lt_or_ge w.heap.size W.heap.size with hlt | hge
  · have := each w.heap.size hlt
    rw [Array.getElem?_eq_none (Nat.le_refl _), Array.getElem?_eq_getElem hlt] at this
    cases this
  · exact hge

section
variable {H : Type} {enc : TypeId × Value → H} {P : Program}
theorem postBelow {f : Func} {s : ChangeSpec} {apart fresh handsOn again : Bool} {W W' : World} {args : Array Value} {v : Value} {ds gs : List (DataW H)} {before pa pv : List MemPlace}
    (hW : DataW.Whole enc P f.params.toList s.vars apart W args.toList ds gs before)
    (hres : ∀ (b : Nat) (sp : Nat → Bool) (hd : Bool), DataW.TrodAll enc P W' b sp hd f.resultTypes.toList (v.resultList f.resultTypes.size) (s.fn H (ds ++ gs)).results [])
    (hargs : ∀ sp : Nat → Bool, (∀ p ∈ before, sp p.block = true) → DataW.TrodAll enc P W' 0 sp true f.params.toList args.toList (s.fn H (ds ++ gs)).args pa)
    (hvars : ∀ sp : Nat → Bool, (∀ p ∈ before, sp p.block = true) → DataW.TrodVars enc P W' sp s.vars (s.fn H (ds ++ gs)).vars pv)
    (hps : before = pa ++ pv) (hb : Below W.heap.size W W')
    (hok : ∀ (j : Nat) (t : TypeId) (r : Value), f.resultTypes[j]? = some t → (v.resultList f.resultTypes.size)[j]? = some r → Value.okWide P W' .any 0 t r) :
    s.post enc P f apart fresh handsOn again W args v W' := by
  have hlt : ∀ p ∈ before, p.block < W.heap.size := fun p hp => hW.lt p hp
  have hold : ∀ p ∈ before, (fun b => decide (b < W.heap.size)) p.block = true := fun p hp => by simpa using hlt p hp
  refine ⟨ds, gs, before, [], pa, pv, hW, hres _ _ _, hargs _ hold, hvars _ hold, World.keptBut_mono (fun p hp => ⟨hp, ?_⟩) (hb.frame (· ∈ before)), fun _ => ?_⟩
  · rw [hps, List.mem_append] at hp
    exact Or.inr hp
  · obtain ⟨_, _, _, _, _, hz, hn⟩ := hW
    refine ⟨hok, _, _, ([] ++ pa) ++ pv, ⟨[] ++ pa, pv, trodAll_append (hargs _ (fun _ _ => rfl)) (hres _ _ _), hvars _ (fun _ _ => rfl), rfl, ?_, ?_⟩, ?_⟩
    · intro b off hp
      have hin : MemPlace.cell b off ∈ before := by rw [hps]; simpa using hp
      rw [hb.frozen (hlt _ hin)]
      exact hz b off hin
    · intro ha
      have := hn ha
      rw [hps] at this
      simpa using this
    · intro p hp _
      rw [hps]
      simpa using hp
end
end Go.Sym
