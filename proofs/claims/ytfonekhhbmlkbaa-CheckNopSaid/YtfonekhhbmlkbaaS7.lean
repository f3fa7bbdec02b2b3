/- Rules: pieces of slices and strings, conversions, new slices, calls, results, entry. No program in sight. -/
import Derived.Test.YtfonekhhbmlkbaaS6
import Derived.Laws.IdiomStrings
import Derived.Laws.BytesArg
set_option linter.unusedVariables false
set_option linter.unusedSimpArgs false
namespace Go.Sym
open Go

/-- A piece of a list between two ints. -/
def sl? {α : Type} (l : List α) (lo hi : Int) : Option (List α) := if 0 ≤ lo ∧ lo ≤ hi ∧ hi ≤ l.length then some ((l.take hi.toNat).drop lo.toNat) else none
theorem sl?_out {α : Type} {l r : List α} {lo hi : Int} (h : sl? l lo hi = some r) : 0 ≤ lo ∧ lo ≤ hi ∧ hi ≤ l.length ∧ r = (l.take hi.toNat).drop lo.toNat ∧ r.length = hi.toNat - lo.toNat := by
  unfold sl? at h
  split at h
  · rename_i k; cases h
    refine ⟨k.1, k.2.1, k.2.2, rfl, ?_⟩
    rw [List.length_drop, List.length_take]; omega
  · cases h

def evB (m : Env) (o : Option Operand) (dflt : Int) : Option Int := match o with
  | none => some dflt
  | some x => match ev m x with
    | some (.int _ j) => some j
    | _ => none
theorem evB_out {n : Nat} {m : Env} {ds : List Deferred} {a : Act} (ha : EnvOK n m ds a) {o : Option Operand} {dflt j : Int} (h : evB m o dflt = some j) :
    (o = none ∧ j = dflt) ∨ ∃ x k, o = some x ∧ a.eval x = .int k j := by
  unfold evB at h
  split at h
  · cases h; exact .inl ⟨rfl, rfl⟩
  · rename_i x
    split at h
    · rename_i k j' hx; cases h; exact .inr ⟨x, k, rfl, ha.ev hx⟩
    · cases h
theorem run_sliceBounds {P : Program} {w : World} {isS : Bool} {len cap : Nat} {a : Act} {lo hi : Option Operand} {jl jh : Int}
    (hl : (lo = none ∧ jl = 0) ∨ ∃ x k, lo = some x ∧ a.eval x = .int k jl) (hh : (hi = none ∧ jh = len) ∨ ∃ x k, hi = some x ∧ a.eval x = .int k jh)
    (h0 : 0 ≤ jl) (h1 : jl ≤ jh) (h2 : jh ≤ cap) : (Instr.sliceBounds isS len cap (lo.map a.eval) (hi.map a.eval) none).run P w = .ok (jl.toNat, jh.toNat, cap) w := by
  have h0' : 0 ≤ jh := by omega
  have h3 : jl ≤ (jh.toNat : Int) := by omega
  have h4 : jl ≤ max jh 0 := by omega
  have h5 : ¬ max jh 0 < jl := by omega
  rcases hl with ⟨rfl, rfl⟩ | ⟨x, k, rfl, hx⟩ <;> rcases hh with ⟨rfl, rfl⟩ | ⟨y, k', rfl, hy⟩
  · simp [Instr.sliceBounds]
  · simp [Instr.sliceBounds, Instr.sliceBound, asIntOf, hy, h0', h2]
  · simp [Instr.sliceBounds, Instr.sliceBound, asIntOf, hx, h0, h1]
  · simp [Instr.sliceBounds, Instr.sliceBound, asIntOf, hx, hy, h0, h0', h2, h3, h4, h5]

section
variable {C : Cx} {ops : Array Oper} {Q : Post} {i : Nat} {m : Env} {L L' : List Assn} {d : Option Nat} {t t' : TypeId} {p : String} {e : Array Edge} {g : Option (Nat × Bool)}
theorem Does.sliceStr {x : Operand} {lo hi : Option Operand} {tx : TypeId} {l r : List UInt8} {jl jh : Int} (hw : Want ops m ⟨d, .slice tx x lo hi none, t, p, e, g⟩ true)
    (hx : ev m x = some (.string ⟨l.toArray⟩)) (hl : evB m lo 0 = some jl) (hh : evB m hi l.length = some jh) (ht : isStr C.P tx = true) (hr : sl? l jl jh = some r) :
    Does C ops m L ⟨d, .slice tx x lo hi none, t, p, e, g⟩ (fun _ : Unit => .string ⟨r.toArray⟩) (fun _ => L) :=
  Does.pure hw (fun a w ha _ => by
    obtain ⟨h0, h1, h2, rfl, _⟩ := sl?_out hr
    have hsz : (ByteArray.mk l.toArray).size = l.length := by simp [ByteArray.size]
    have hb := run_sliceBounds (P := C.P) (w := w) (isS := false) (len := l.length) (cap := l.length) (evB_out ha hl) (evB_out ha hh) h0 h1 h2
    have hex : (ByteArray.mk l.toArray).extract jl.toNat jh.toNat = ByteArray.mk (((l.take jh.toNat).drop jl.toNat).toArray) := by
      apply ByteArray.ext
      apply Array.ext'
      simp [ByteArray.data_extract, List.extract_eq_take_drop, List.drop_take]
    simp [execOp, ha.ev hx, Instr.sliceAt, Instr.slice, run_underlying (isStr_out ht), hsz, hb, hex]) 
theorem subA_eq (a : Option Addr) (lo m sz : Nat) : (if m = lo then a else a.map fun x => x.add (lo * sz)) = subA a lo m sz := rfl
theorem run_sliceSl {x : Operand} {lo hi : Option Operand} {tx et : TypeId} {a : Option Addr} {n cap sz yy : Nat} {jl jh : Int} {ac : Act} {w : World} (ha : EnvOK C.n m C.ds ac)
    (hx : ev m x = some (.slice a n cap)) (hl : evB m lo 0 = some jl) (hh : evB m hi n = some jh) (ht : slN C.P tx = some (et, sz, yy)) (h0 : 0 ≤ jl) (h1 : jl ≤ jh) (h2 : jh ≤ cap) :
    (execOp ac.eval ⟨d, .slice tx x lo hi none, t, p, e, g⟩).run C.P w = .ok (.value (.slice (subA a jl.toNat cap sz) (jh.toNat - jl.toNat) (cap - jl.toNat))) w := by
  have hb := run_sliceBounds (P := C.P) (w := w) (isS := true) (len := n) (cap := cap) (evB_out ha hl) (evB_out ha hh) h0 h1 h2
  obtain ⟨hu, ti, hti, hsz, _⟩ := slN_out ht
  simp [execOp, ha.ev hx, Instr.sliceAt, Instr.slice, run_underlying hu, hb, sizeOf, typeInfo, hti, hsz, subA]
/-- A piece of a shared slice. -/
theorem Does.sliceRo {α : Type} {r : Rep α} {k : Nat} {x : Operand} {lo hi : Option Operand} {tx et : TypeId} {a : Option Addr} {cap yy : Nat} {l l' : List α} {jl jh : Int} (hw : Want ops m ⟨d, .slice tx x lo hi none, t, p, e, g⟩ true)
    (hx : ev m x = some (.slice a l.length cap)) (hl : evB m lo 0 = some jl) (hh : evB m hi l.length = some jh) (ht : slN C.P tx = some (et, r.n, yy)) (hk : L[k]? = some (ro r a cap l)) (hr : sl? l jl jh = some l') :
    Does C ops m L ⟨d, .slice tx x lo hi none, t, p, e, g⟩ (fun _ : Unit => .slice (subA a jl.toNat cap r.n) l'.length (cap - jl.toNat)) (fun _ => ro r (subA a jl.toNat cap r.n) (cap - jl.toNat) l' :: L) := by
  obtain ⟨h0, h1, h2, hl', hlen⟩ := sl?_out hr
  refine Does.val (X := Unit) hw fun ac w ha hs => ?_
  obtain ⟨G, hh1, _, _, _, pc, _⟩ := hs.get k hk
  have h2' : jh ≤ cap := by omega
  refine ⟨(), w, by rw [run_sliceSl ha hx hl hh ht h0 h1 h2', hlen], ?_⟩
  refine (hs.ent (Ent.copy k hk)).ent (Ent.head fun G h pp => ?_)
  refine ⟨by rw [hlen]; omega, fun j x hx => ?_⟩
  subst hl'
  have hx' := hx
  rw [List.getElem?_drop, List.getElem?_take] at hx'
  split at hx'
  · rename_i hlt
    obtain ⟨b, off, c, e, fz, cs, e1, e2, e3, e4⟩ := pp.2 _ x hx'
    have hne : ¬ cap = jl.toNat := by omega
    refine ⟨b, off + jl.toNat * r.n, c, e, fz, cs, ?_, e2, ?_, e4⟩
    · rw [subA, if_neg hne, e1, Option.map_some, add_lit]
    · rw [show off + jl.toNat * r.n + j * r.n = off + (jl.toNat + j) * r.n from by rw [Nat.add_mul]; omega]; exact e3
  · cases hx'
/-- A piece of one's own, the whole given up for it. -/
theorem own_sub {α : Type} {W w : World} {r : Rep α} {k : Nat} {a : Option Addr} {cap : Nat} {l l' : List α} {jl jh : Int} (hr : sl? l jl jh = some l') (hk : L[k]? = some (own r a cap l)) (hL : L.set k (own r (subA a jl.toNat cap r.n) (cap - jl.toNat) l') = L') (hs : St W w L) : St W w L' := by
  obtain ⟨h0, h1, h2, hl', hlen⟩ := sl?_out hr
  rw [← hL]
  refine St.reput (lt_of_get hk) ((hs.ent (Ent.take k hk)).ent (Ent.head ?_))
  rintro G h ⟨pc, q⟩
  have hle : l'.length ≤ cap - jl.toNat := by clear q; rw [hlen]; omega
  refine ⟨hle, ?_⟩
  rcases q with ⟨rfl, rfl⟩ | ⟨b, off, c, ty, fz, rfl, hb, hf, hfit, hel⟩
  · left; exact ⟨by unfold subA; split <;> rfl, Nat.zero_sub _⟩
  · right
    by_cases hc : cap = jl.toNat
    · refine ⟨b, off, c, ty, fz, by rw [subA, if_pos hc], hb, hf, by rw [hc, Nat.sub_self, Nat.zero_mul]; omega, fun j x hx => ?_⟩
      have := (List.getElem?_eq_some_iff.1 hx).1
      omega
    · refine ⟨b, off + jl.toNat * r.n, c, ty, fz, by rw [subA, if_neg hc, Option.map_some, add_lit], hb, hf, ?_, fun j x hx => ?_⟩
      · rw [Nat.sub_mul]
        have : jl.toNat * r.n ≤ cap * r.n := Nat.mul_le_mul_right _ (by omega)
        omega
      · subst hl'
        rw [List.getElem?_drop, List.getElem?_take] at hx
        split at hx
        · obtain ⟨cs, e1, e2⟩ := hel _ x hx
          refine ⟨cs, ?_, e2⟩
          rw [show off + jl.toNat * r.n + j * r.n = off + (jl.toNat + j) * r.n from by rw [Nat.add_mul]; omega]; exact e1
        · cases hx
theorem cap_own {α : Type} {W w : World} {r : Rep α} {k : Nat} {a : Option Addr} {cap : Nat} {l : List α} (hk : L[k]? = some (own r a cap l)) (hs : St W w L) : l.length ≤ cap := by
  obtain ⟨G, hh1, _, _, _, pc, _⟩ := hs.get k hk
  exact pc
/-- x[lo:hi] of one's own. -/
theorem Does.sliceOwn {α : Type} {r : Rep α} {k : Nat} {x : Operand} {lo hi : Option Operand} {tx et : TypeId} {a : Option Addr} {cap yy : Nat} {l l' : List α} {jl jh : Int} (hw : Want ops m ⟨d, .slice tx x lo hi none, t, p, e, g⟩ true)
    (hx : ev m x = some (.slice a l.length cap)) (hl : evB m lo 0 = some jl) (hh : evB m hi l.length = some jh) (ht : slN C.P tx = some (et, r.n, yy)) (hk : L[k]? = some (own r a cap l)) (hr : sl? l jl jh = some l') :
    Does C ops m L ⟨d, .slice tx x lo hi none, t, p, e, g⟩ (fun _ : Unit => .slice (subA a jl.toNat cap r.n) l'.length (cap - jl.toNat)) (fun _ => L.set k (own r (subA a jl.toNat cap r.n) (cap - jl.toNat) l')) := by
  obtain ⟨h0, h1, h2, hl', hlen⟩ := sl?_out hr
  refine Does.val (X := Unit) hw fun ac w ha hs => ?_
  have h2' := cap_own hk hs
  exact ⟨(), w, by rw [run_sliceSl ha hx hl hh ht h0 h1 (by omega), hlen], own_sub hr hk rfl hs⟩

/-! ## Conversions -/
def isInt (P : Program) (t : TypeId) (k : IntKind) : Bool := match P.underlying t with
  | some (.int k') => decide (k' = k)
  | _ => false
theorem isInt_out {P : Program} {t : TypeId} {k : IntKind} (h : isInt P t k = true) : P.underlying t = some (.int k) := by
  unfold isInt at h
  split at h
  · rename_i k' hk; rw [hk]; congr 2; simpa using h
  · cases h
def under? (P : Program) (t : TypeId) : Bool := (P.underlying t).isSome
theorem c_int {P : Program} {ts td : TypeId} {k k' : IntKind} {x : Int} (hs : under? P ts = true) (hd : isInt P td k' = true) (w : World) : (convert ts td (.int k x)).run P w = .ok (.int k' (k'.wrap x)) w := by
  obtain ⟨d, hd'⟩ := Option.isSome_iff_exists.1 hs
  simp [convert, run_underlying hd', run_underlying (isInt_out hd), Conv.intToInt]
theorem c_u8 {P : Program} {ts td : TypeId} {k : IntKind} {x : Int} (hs : under? P ts = true) (hd : isInt P td .u8 = true) (w : World) : (convert ts td (.int k x)).run P w = .ok (.int .u8 (UInt8.ofNat (x % 256).toNat).toNat) w := by
  rw [c_int hs hd, wrap_u8]
  congr 2
  simp only [UInt8.toNat_ofNat']
  omega
theorem c_of8 {P : Program} {ts td : TypeId} {k' : IntKind} {x : UInt8} (hs : under? P ts = true) (hd : isInt P td k' = true) (hk : decide (8 < k'.bits) = true) (w : World) : (convert ts td (.int .u8 x.toNat)).run P w = .ok (.int k' x.toNat) w := by
  rw [c_int hs hd]
  have hx := x.toNat_lt
  congr 2
  cases k' <;> first | (simp [IntKind.bits] at hk; done) | (simp [IntKind.wrap, IntKind.bits, IntKind.signed]; omega)
theorem c_str {P : Program} {ts td : TypeId} {s : ByteArray} (hs : under? P ts = true) (hd : isStr P td = true) (w : World) : (convert ts td (.string s)).run P w = .ok (.string s) w := by
  obtain ⟨d, hd'⟩ := Option.isSome_iff_exists.1 hs
  cases d <;> simp [convert, run_underlying hd', run_underlying (isStr_out hd)]
theorem Does.bytesToStr {k : Nat} {x : Operand} {ts td et : TypeId} {yy cap : Nat} {a : Option Addr} {l : List UInt8} {A : Assn} (hw : Want ops m ⟨d, .convert ts td x, t, p, e, g⟩ true)
    (hx : ev m x = some (.slice a l.length cap)) (hs : slN C.P ts = some (et, 1, yy)) (he : isInt C.P et .u8 = true) (hd : isStr C.P td = true) (hk : L[k]? = some A) (hA : Arrd A rU8 a l) :
    Does C ops m L ⟨d, .convert ts td x, t, p, e, g⟩ (fun _ : Unit => .string ⟨l.toArray⟩) (fun _ => L) :=
  Does.pure hw (fun ac w ha hs' => by
    have hr : (convert ts td (.slice a l.length cap)).run C.P w = .ok (.string ⟨l.toArray⟩) w := by
      by_cases hl : l = []
      · subst hl
        rw [run_convert_bytes_string w ts td et a _ cap (slN_out hs).1 (isInt_out he) (isStr_out hd)]
        cases a <;> simp [Conv.bytesToString, loadCells, loadCellsFrom] <;> rfl
      · obtain ⟨x0, hx0⟩ : ∃ x0, l[0]? = some x0 := by cases l; exact absurd rfl hl; exact ⟨_, rfl⟩
        obtain ⟨b, off, c, ty, fz, cs, e1, e2, e3, e4, e5⟩ := hs'.elemRel hk hA hx0
        subst e1
        refine run_convert_bytes_back w ts td et _ cap l (slN_out hs).1 (isInt_out he) (isStr_out hd) (fun j hj => ?_)
        obtain ⟨b', off', c', ty', fz', cs', f1, f2, f3, f4, f5⟩ := hs'.elemRel hk hA (List.getElem?_eq_getElem hj)
        cases f1
        have := (open_rU8 f5).1
        subst this
        rw [add_lit, cell_hp f2]
        have := f3 0 _ rfl
        simpa [rU8] using this
    simp [execOp, ha.ev hx, hr])
theorem Does.strToBytes {x : Operand} {ts td et : TypeId} {yy : Nat} {l : List UInt8} (hw : Want ops m ⟨d, .convert ts td x, t, p, e, g⟩ true)
    (hx : ev m x = some (.string ⟨l.toArray⟩)) (hs : isStr C.P ts = true) (hd : slN C.P td = some (et, 1, yy)) (he : isInt C.P et .u8 = true) :
    Does C ops m L ⟨d, .convert ts td x, t, p, e, g⟩ (fun z : Option Addr × Nat => .slice z.1 l.length z.2) (fun z => own rU8 z.1 z.2 l :: L) :=
  Does.val (X := Option Addr × Nat) hw (fun ac w ha hst => by
    have hsz : (ByteArray.mk l.toArray).size = l.length := by simp [ByteArray.size]
    have hr := run_bytes_of_string (P := C.P) w ts td et ⟨l.toArray⟩ (isStr_out hs) (slN_out hd).1 (isInt_out he)
    rw [hsz] at hr
    refine ⟨(some ⟨w.heap.size, 0, none⟩, grownCap w l.length 0 et), _, by simp [execOp, ha.ev hx, hr]; rfl, ?_⟩
    have hge := grownCap_ge w l.length 0 et
    obtain ⟨_, h⟩ := St.new (X := Unit) (w' := w.drew.alloc (.cells (bytesRow ⟨l.toArray⟩ (grownCap w l.length 0 et)) et ((bytesRow ⟨l.toArray⟩ (grownCap w l.length 0 et)).size, (bytesRow ⟨l.toArray⟩ (grownCap w l.length 0 et)).size + 1)))
      (A' := fun _ => own rU8 (some ⟨w.heap.size, 0, none⟩) (grownCap w l.length 0 et) l) hst ⟨rfl, rfl, rfl⟩ (fun G gl => by
        refine ⟨(), fun b => if b = w.heap.size then some (.cells (bytesRow ⟨l.toArray⟩ (grownCap w l.length 0 et)) et ((bytesRow ⟨l.toArray⟩ (grownCap w l.length 0 et)).size, (bytesRow ⟨l.toArray⟩ (grownCap w l.length 0 et)).size + 1)) else none, ?_, ?_, ?_, ?_⟩
        · refine ⟨hge, .inr ⟨w.heap.size, 0, _, et, _, rfl, by simp; exact ⟨rfl, rfl⟩, fun o ho h => by have := h.1; dsimp only at this; omega, ?_, fun j x hx => ?_⟩⟩
          · simp [bytesRow, rU8, hsz]; omega
          · refine ⟨[.int .u8 x.toNat], fun q v hq => ?_, rfl⟩
            have hlt := (List.getElem?_eq_some_iff.1 hq).1
            have hq0 : q = 0 := by simp at hlt; exact hlt
            subst hq0
            have hjl := (List.getElem?_eq_some_iff.1 hx).1
            have hv : v = .int .u8 x.toNat := by simpa using hq.symm
            subst hv
            simp only [bytesRow, rU8, Nat.zero_add, Nat.mul_one, Nat.add_zero]
            rw [Array.getElem?_append_left (by simpa using hjl)]
            simp [hx]
        · intro b o hb
          by_cases e : b = w.heap.size
          · subst e
            simp only [if_pos] at hb
            cases hb
            show (w.heap.push _)[w.heap.size]? = _
            simp
          · simp [e] at hb
        · intro b o hb
          have hlt : b < w.heap.size := by
            rcases Nat.lt_or_ge b w.heap.size with k | k
            · exact k
            · unfold hp at hb; rw [Array.getElem?_eq_none k] at hb; cases hb
          show (w.heap.push _)[b]? = _
          rw [Array.getElem?_push, if_neg (by omega)]; exact hb
        · intro b hb
          by_cases e : b = w.heap.size
          · subst e; simp [hp]
          · simp [e] at hb)
    exact h)

/-! ## New slices -/
def mk? {α : Type} (y : Nat) (n c : Int) (z : α) : Option (List α) := if 0 ≤ n ∧ n ≤ c ∧ c * y ≤ 140737488355328 ∧ c ≤ 9223372036854775807 then some (List.replicate n.toNat z) else none
theorem mk?_out {α : Type} {y : Nat} {n c : Int} {z : α} {l : List α} (h : mk? y n c z = some l) : 0 ≤ n ∧ n ≤ c ∧ c * y ≤ 140737488355328 ∧ c ≤ 9223372036854775807 ∧ l = List.replicate n.toNat z := by
  unfold mk? at h
  split at h
  · rename_i k; cases h; exact ⟨k.1, k.2.1, k.2.2.1, k.2.2.2, rfl⟩
  · cases h
theorem Does.makeSlice {α : Type} {r : Rep α} {x y : Operand} {tx et : TypeId} {yy : Nat} {zs : List Value} {z : α} {k k' : IntKind} {n c : Int} {l : List α} (hw : Want ops m ⟨d, .makeSlice tx x y, t, p, e, g⟩ true)
    (hx : ev m x = some (.int k n)) (hy : ev m y = some (.int k' c)) (ht : slN C.P tx = some (et, r.n, yy)) (hz : zeroN C.P et = some zs) (hzs : Nat.beq zs.length r.n = true) (hn : Nat.blt 0 r.n = true) (hrel : ∀ G, (r.rel zs z).p G emp) (hl : mk? yy n c z = some l) :
    Does C ops m L ⟨d, .makeSlice tx x y, t, p, e, g⟩ (fun z : Option Addr × Nat => .slice z.1 l.length z.2) (fun z => own r z.1 z.2 l :: L) :=
  Does.val (X := Option Addr × Nat) hw (fun ac w ha hst => by
    obtain ⟨h0, h1, h2, h3, rfl⟩ := mk?_out hl
    obtain ⟨hu, ti, hti, hsz, hby⟩ := slN_out ht
    obtain ⟨ti', z', hti', hz1, hz2⟩ := zeroN_out hz
    rw [hti] at hti'; cases hti'
    have hzs' : zs.length = r.n := by simpa using hzs
    have hn' : 0 < r.n := by simpa [Nat.blt_eq] using hn
    have w1 : IntKind.i64.wrap n = n := by simp [IntKind.wrap, IntKind.bits, IntKind.signed]; omega
    have w2 : IntKind.i64.wrap c = c := by simp [IntKind.wrap, IntKind.bits, IntKind.signed]; omega
    let cs : List Value := ((Array.range (c.toNat * r.n)).map fun j => zs.toArray[j % r.n]!).toList
    have hcl : cs.length = c.toNat * r.n := by simp [cs]
    refine ⟨(some ⟨w.heap.size, 0, none⟩, c.toNat), { w with heap := w.heap.push (.cells cs.toArray et) }, ?_, ?_⟩
    · have a1 : ¬ (c < 0) := by omega
      have a2 : ¬ (281474976710656 < (yy : Int) * c) := by rw [Int.mul_comm]; omega
      have a3 : ¬ (n < 0) := by omega
      have a4 : ¬ (c < n) := by omega
      have a5 : ¬ (roomBytes < c.toNat * yy) := by
        have : ((c.toNat * yy : Nat) : Int) = c * yy := by rw [Int.natCast_mul, Int.toNat_of_nonneg (by omega)]
        unfold roomBytes; omega
      have hzc : z'.cells = zs.toArray := hz2
      by_cases hc0 : c.toNat * r.n = 0
      · have hc00 : c = 0 := by
          rcases Nat.mul_eq_zero.1 hc0 with q | q
          · omega
          · omega
        subst hc00
        have hn0 : n = 0 := by omega
        subst hn0
        have hcs : cs = [] := List.eq_nil_of_length_eq_zero (by rw [hcl]; simp)
        simp [execOp, ha.ev hx, ha.ev hy, Instr.makeSlice, run_underlying hu, asInt, asIntOf, typeInfo, hti, hby, w1, askRoom, sizeOf, newRow, newObj, Sem.run, hcs]
        congr 2
        apply Array.ext'
        simp [Array.toList_range]
      · simp [execOp, ha.ev hx, ha.ev hy, Instr.makeSlice, run_underlying hu, asInt, asIntOf, typeInfo, hti, hby, w1, w2, a1, a2, a3, a4, a5, askRoom, sizeOf, hsz, hc0, zeroValue, hz1, newRow, newObj, Sem.run, hzc, hzs', cs]
        congr 2
        apply Array.ext'
        simp
    · obtain ⟨_, h⟩ := St.new (X := Unit) (w' := { w with heap := w.heap.push (.cells cs.toArray et) }) (A' := fun _ => own r (some ⟨w.heap.size, 0, none⟩) c.toNat (List.replicate n.toNat z)) hst ⟨rfl, rfl, rfl⟩ (fun G gl => by
        refine ⟨(), fun b => if b = w.heap.size then some (.cells cs.toArray et) else none, ?_, ?_, ?_, ?_⟩
        · refine ⟨by rw [List.length_replicate]; omega, .inr ⟨w.heap.size, 0, cs.toArray, et, (0, 0), rfl, by simp, FzOK.zero _, by simp [hcl], fun j x hx => ?_⟩⟩
          have hjl := (List.getElem?_eq_some_iff.1 hx).1
          rw [List.length_replicate] at hjl
          have hxz : x = z := by
            rw [List.getElem?_replicate] at hx
            split at hx
            · cases hx
              first | rfl | omega
            · cases hx
              first | rfl | omega
          subst hxz
          refine ⟨zs, fun q v hq => ?_, hrel G⟩
          have hql := (List.getElem?_eq_some_iff.1 hq).1
          rw [hzs'] at hql
          have hb : j * r.n + q < c.toNat * r.n := by
            have : (j + 1) * r.n ≤ c.toNat * r.n := Nat.mul_le_mul_right _ (by omega)
            rw [Nat.add_mul] at this; omega
          have hmod : (j * r.n + q) % r.n = q := by rw [Nat.mul_comm, Nat.mul_add_mod]; exact Nat.mod_eq_of_lt hql
          simp only [Nat.zero_add, cs, List.getElem?_toArray, Array.getElem?_toList, Array.getElem?_map, Array.getElem?_range]
          rw [if_pos hb]
          simp only [Option.map_some, hmod]
          rw [getElem!_pos zs.toArray q (by simpa [hzs'] using hql)]
          rw [← hq, List.getElem?_eq_getElem (by rw [hzs']; exact hql)]
          simp
        · intro b o hb
          dsimp only at hb
          split at hb
          · rename_i e; subst e; cases hb; simp [hp]
          · cases hb
        · intro b o hb
          have hlt : b < w.heap.size := by
            rcases Nat.lt_or_ge b w.heap.size with k | k
            · exact k
            · unfold hp at hb; rw [Array.getElem?_eq_none k] at hb; cases hb
          unfold hp at hb ⊢
          dsimp only
          rw [Array.getElem?_push, if_neg (by omega)]; exact hb
        · intro b hb
          by_cases e : b = w.heap.size
          · subst e; simp [hp]
          · simp [e] at hb)
      exact h)

/-! ## Calls -/
def callOK (P : Program) (f : FuncId) : Bool := match P.funcs[f]? with
  | some fn => fn.body.isSome && !(fn.name == "runtime.NumGoroutine")
  | none => false
def evl (m : Env) : List Operand → Option (List Value)
  | [] => some []
  | x :: r => match ev m x, evl m r with
    | some v, some l => some (v :: l)
    | _, _ => none
theorem evl_out {n : Nat} {m : Env} {ds : List Deferred} {a : Act} (ha : EnvOK n m ds a) : ∀ {l : List Operand} {r : List Value}, evl m l = some r → l.map a.eval = r
  | [], r, h => by cases h; rfl
  | x :: l, r, h => by
    unfold evl at h
    split at h
    · rename_i v r' hx hr
      cases h
      simp only [List.map_cons, ha.ev hx, evl_out ha hr]
    · cases h
theorem run_callFunc {P : Program} {f : FuncId} (h : callOK P f = true) (args : Array Value) (w : World) : (callFunc f args).run P w = .ok (.enter f args) w := by
  unfold callOK at h
  split at h
  · rename_i fn hf
    simp only [Bool.and_eq_true, Bool.not_eq_true'] at h
    have h1 : fn.body ≠ none := by intro e; rw [e] at h; simp at h
    have h2 : ¬ (fn.name = "runtime.NumGoroutine") := by
      intro e; rw [e] at h; simp at h
    simp [callFunc, program, Sem.run, hf, h1, h2]
  · cases h
theorem Does.call {X : Type} {v : X → Value} {Lx : X → List Assn} {f : FuncId} {as : Array Operand} {ts : Array TypeId} {vs : List Value} (hw : Want ops m ⟨d, .call ⟨.value (.func f), as, ts⟩, t, p, e, g⟩ true)
    (hf : callOK C.P f = true) (ha : evl m as.toList = some vs) (hc : ∀ w, St C.W w L → Calls C.P f vs.toArray w fun e w' => ∃ x, e = .returned (v x) ∧ St C.W w' (Lx x)) :
    Does C ops m L ⟨d, .call ⟨.value (.func f), as, ts⟩, t, p, e, g⟩ v Lx :=
  Does.enter hw (fun a w hav => by
    have : as.map a.eval = vs.toArray := by
      rw [← evl_out hav ha]
      apply Array.ext'
      simp
    simp [execOp, resolve, this, Deferred.ofValue, Act.eval, invoke, run_callFunc hf]) hc
end

/-! ## Results -/
section
variable {C : Cx} {c : Code} {Q : Post} {m : Env} {L : List Assn} {fn : Func} {R : Ending → World → Prop}
def resOne (tmps : Array Value) : ResultVar → Sem Value
  | .tmp t => Pure.pure (tmps.getD t undef)
  | .cell ad t => do loadVar t (← asAddr (tmps.getD ad undef))
def Res (C : Cx) (m : Env) (L : List Assn) (rs : List ResultVar) (vs : List Value) : Prop := ∀ a w, EnvOK C.n m C.ds a → St C.W w L →
  (rs.mapM (resOne a.tmps)).run C.P w = .ok vs w
theorem Res.nil : Res C m L [] [] := fun a w _ _ => rfl
theorem Res.tmp {t : Nat} {v : Value} {rs : List ResultVar} {vs : List Value} (hv : look m t = some v) (h : Res C m L rs vs) : Res C m L (.tmp t :: rs) (v :: vs) := fun a w ha hs => by
  have h1 : a.tmps.getD t undef = v := by rw [Array.getD_eq_getD_getElem?, ha.get t v hv]; rfl
  have := h a w ha hs
  simp only [List.mapM_cons, resOne, Sem.run_bind, Sem.run_pure, Result.andThen_ok, h1, this]
theorem Res.cell {t ad b k : Nat} {cs : List Value} {v : Value} {rs : List ResultVar} {vs : List Value} (had : look m ad = some (.pointer (some ⟨b, 0, none⟩))) (hk : L[k]? = some (pts b cs)) (ht : scal C.P t = true) (hv : cs[0]? = some v) (h : Res C m L rs vs) : Res C m L (.cell ad t :: rs) (v :: vs) := fun a w ha hs => by
  have h1 : a.tmps.getD ad undef = .pointer (some ⟨b, 0, none⟩) := by rw [Array.getD_eq_getD_getElem?, ha.get ad _ had]; rfl
  obtain ⟨e, fz, hb, _⟩ := hs.pts hk
  have h2 : w.cell? ⟨b, 0, none⟩ = some v := by rw [cell_hp hb]; simpa using hv
  have h3 : (loadVar t ⟨b, 0, none⟩).run C.P w = .ok v w := by simp [loadVar, run_isAgg_false ht, load, Sem.run, h2]
  have := h a w ha hs
  simp only [List.mapM_cons, resOne, Sem.run_bind, Sem.run_pure, Result.andThen_ok, h1, asAddr, h3, this]
theorem Res.cellN {t ad b k : Nat} {cs : List Value} {rs : List ResultVar} {vs : List Value} (had : look m ad = some (.pointer (some ⟨b, 0, none⟩))) (hk : L[k]? = some (pts b cs)) (ht : aggN C.P t = some cs.length) (h : Res C m L rs vs) : Res C m L (.cell ad t :: rs) (.agg cs.toArray :: vs) := fun a w ha hs => by
  have h1 : a.tmps.getD ad undef = .pointer (some ⟨b, 0, none⟩) := by rw [Array.getD_eq_getD_getElem?, ha.get ad _ had]; rfl
  obtain ⟨e, fz, hb, _⟩ := hs.pts hk
  have h3 : (loadVar t ⟨b, 0, none⟩).run C.P w = .ok (.agg cs.toArray) w := by
    have := Instr.load_agg (P := C.P) ht (w := w) (b := b) (o := 0) (vs := cs) rfl (fun j u hj => by rw [cell_hp hb]; simpa using hj)
    simpa [Instr.loadAt, Instr.sureAddr] using this
  have := h a w ha hs
  simp only [List.mapM_cons, resOne, Sem.run_bind, Sem.run_pure, Result.andThen_ok, h1, asAddr, h3, this]
def packV : List Value → Value
  | [v] => v
  | vs => .tuple vs.toArray
theorem run_results {P : Program} {tmps : Array Value} {w : World} {vs : List Value}
    (h : (fn.results.toList.mapM (resOne tmps)).run P w = .ok vs w) :
    (results fn tmps).run P w = .ok (packV vs) w := by
  have e : results fn tmps = (do let vs ← fn.results.mapM (resOne tmps); Pure.pure (if h : vs.size = 1 then vs[0] else .tuple vs)) := rfl
  rw [e, Array.mapM_eq_mapM_toList]
  simp only [Sem.run_bind, map_eq_pure_bind, Sem.run_pure, h, Result.andThen_ok]
  match vs with
  | [] => rfl
  | [v] => rfl
  | _ :: _ :: _ => simp [packV]
theorem TQ.result {e : Exit} {vs : List Value} {v : Value} (he : e = .ret ∨ e = .normal) (hds : C.ds = []) (hr : Res C m L fn.results.toList vs) (hv : (packV vs) = v) (hR : ∀ w, St C.W w L → R (.returned v) w) : TQ C e (bodyPost C.P fn R) m L := fun a w ha hs => by
  have h := run_results (hr a w ha hs)
  rw [hv] at h
  rcases he with rfl | rfl <;> exact ⟨by rw [ha.defers, hds], v, h, hR w hs⟩
end

/-! ## A whole function -/
def bodyOf (fn : Func) : Code := fn.body.getD .skip
def argEnv : Nat → List Value → Env
  | _, [] => []
  | i, v :: r => (i, v) :: argEnv (i + 1) r
theorem look_argEnv : ∀ (vs : List Value) (i s : Nat) (v : Value), look (argEnv i vs) s = some v → i ≤ s ∧ vs[s - i]? = some v
  | [], _, _, _, h => by cases h
  | x :: r, i, s, v, h => by
    rw [argEnv, look_cons] at h
    split at h
    · rename_i e; subst e; cases h; exact ⟨Nat.le_refl _, by simp⟩
    · rename_i e
      obtain ⟨h1, h2⟩ := look_argEnv r (i + 1) s v h
      refine ⟨by omega, ?_⟩
      rw [show s - i = (s - (i + 1)) + 1 from by omega, List.getElem?_cons_succ]; exact h2
theorem calls_sym {P : Program} {f : FuncId} {fn : Func} {vs : List Value} {W w : World} {R : Ending → World → Prop} {L : List Assn} (hf : P.funcs[f]? = some fn) (hb : fn.body.isSome = true) (hn : Nat.ble vs.length fn.ntmps = true) (hs : St W w L)
    (h : T ⟨P, fn.ntmps, [], W⟩ (bodyOf fn) (bodyPost P fn R) (argEnv 0 vs) L) : Calls P f vs.toArray w R := by
  obtain ⟨c, hc⟩ := Option.isSome_iff_exists.1 hb
  have hn' : vs.length ≤ fn.ntmps := by simpa using hn
  have hbo : bodyOf fn = c := by simp [bodyOf, hc]
  rw [hbo] at h
  refine calls_of_wp hf hc (h _ _ ⟨rfl, ?_, ?_⟩ hs)
  · simp; omega
  · intro s v hv
    obtain ⟨_, h2⟩ := look_argEnv vs 0 s v hv
    rw [Nat.sub_zero] at h2
    have hlt := (List.getElem?_eq_some_iff.1 h2).1
    rw [Array.getElem?_append_left (by simpa using hlt)]
    simpa using h2
end Go.Sym
