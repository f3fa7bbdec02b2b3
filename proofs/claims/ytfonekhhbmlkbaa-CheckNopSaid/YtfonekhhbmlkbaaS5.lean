/- Rules: stores, appends, pieces of slices, conversions, calls, results; no program in sight. -/
import Derived.Test.YtfonekhhbmlkbaaS4
set_option linter.unusedVariables false
set_option linter.unusedSimpArgs false
namespace Go.Sym
open Go

/-! ## Writing -/
def putA : Array Value → Nat → List Value → Array Value
  | c, _, [] => c
  | c, o, v :: r => putA (c.setIfInBounds o v) (o + 1) r
theorem putA_size : ∀ (vs : List Value) (c : Array Value) (o : Nat), (putA c o vs).size = c.size
  | [], _, _ => rfl
  | v :: r, c, o => by rw [putA, putA_size r]; simp
theorem putA_get : ∀ (vs : List Value) (c : Array Value) (o j : Nat), o + vs.length ≤ c.size → (putA c o vs)[j]? = if o ≤ j ∧ j < o + vs.length then vs[j - o]? else c[j]?
  | [], c, o, j, _ => by rw [putA, if_neg (by simp only [List.length_nil]; omega)]
  | v :: r, c, o, j, h => by
    simp only [List.length_cons] at h ⊢
    rw [putA, putA_get r _ _ j (by simp; omega)]
    by_cases h1 : o + 1 ≤ j ∧ j < o + 1 + r.length
    · rw [if_pos h1, if_pos (by omega), show j - o = (j - (o + 1)) + 1 from by omega, List.getElem?_cons_succ]
    · rw [if_neg h1, Array.getElem?_setIfInBounds]
      by_cases h2 : o = j
      · subst h2
        rw [if_pos rfl, if_pos (by omega), if_pos (by omega)]; simp
      · rw [if_neg h2, if_neg (by omega)]
def putL (cs : List Value) (o : Nat) (vs : List Value) : List Value := cs.take o ++ (vs ++ cs.drop (o + vs.length))
theorem putL_length {cs vs : List Value} {o : Nat} (h : o + vs.length ≤ cs.length) : (putL cs o vs).length = cs.length := by simp [putL]; omega
theorem putL_get {cs vs : List Value} {o j : Nat} (h : o + vs.length ≤ cs.length) : (putL cs o vs)[j]? = if o ≤ j ∧ j < o + vs.length then vs[j - o]? else cs[j]? := by
  have ht : (cs.take o).length = o := by simp; omega
  unfold putL
  rw [List.getElem?_append, ht]
  by_cases h1 : j < o
  · rw [if_pos h1, if_neg (by omega), List.getElem?_take, if_pos h1]
  · rw [if_neg h1, List.getElem?_append]
    by_cases h2 : j - o < vs.length
    · rw [if_pos h2, if_pos (by omega)]
    · rw [if_neg h2, if_neg (by omega), List.getElem?_drop, show o + vs.length + (j - o - vs.length) = j from by omega]
theorem putA_list {cs vs : List Value} {o : Nat} (h : o + vs.length ≤ cs.length) : putA cs.toArray o vs = (putL cs o vs).toArray := by
  apply Array.ext'
  apply List.ext_getElem?
  intro j
  rw [Array.getElem?_toList, putA_get _ _ _ _ (by simpa using h)]
  rw [show (putL cs o vs).toArray.toList = putL cs o vs from rfl, putL_get h]
  simp
theorem hp_setCells (b : Nat) : ∀ (vs : List Value) (o : Nat) (w : World), (∀ x, x ≠ b → hp (w.setCells b o vs) x = hp w x) ∧
    (∀ c e fz, hp w b = some (.cells c e fz) → hp (w.setCells b o vs) b = some (.cells (putA c o vs) e fz)) ∧ Same w (w.setCells b o vs)
  | [], o, w => ⟨fun _ _ => rfl, fun _ _ _ h => h, Same.refl _⟩
  | v :: r, o, w => by
    obtain ⟨h1, h2, h3⟩ := hp_setCells b r (o + 1) (w.setCell ⟨b, o, none⟩ v)
    refine ⟨fun x hx => ?_, fun c e fz hc => ?_, ?_⟩
    · rw [World.setCells, h1 x hx]
      simp only [hp, World.setCell, Array.getElem?_modify]
      rw [if_neg (by simpa using fun e => hx e.symm)]
    · rw [World.setCells]
      refine h2 (c.setIfInBounds o v) e fz ?_
      simp only [hp, World.setCell, Array.getElem?_modify] at hc ⊢
      rw [if_pos trivial, hc]; rfl
    · rw [World.setCells]; exact Same.trans (b := w.setCell ⟨b, o, none⟩ v) ⟨rfl, rfl, rfl⟩ h3
/-- Writing into a part of one's own. -/
theorem St.write {W w : World} {A A' : Assn} {L : List Assn} {b o : Nat} {vs : List Value} (h : St W w (A :: L)) (h1 : ∀ v ∈ vs, v.oneCell' = true)
    (f : ∀ G h1, Dj G h1 → A.p G h1 → ∃ c e fz, h1 b = some (.cells c e fz) ∧ FzOK fz c.size ∧ o + vs.length ≤ c.size ∧
      A'.p G (fun x => if x = b then some (.cells (putA c o vs) e fz) else h1 x)) (P : Program) :
    (storeCells ⟨b, o, none⟩ vs).run P w = .ok () (w.setCells b o vs) ∧ St W (w.setCells b o vs) (A' :: L) := by
  obtain ⟨s1, s2, s3⟩ := hp_setCells b vs o w
  constructor
  · obtain ⟨G, hh, g, l, dj, p⟩ := h.get 0 rfl
    obtain ⟨c, e, fz, hb, hf, hl, _⟩ := f G hh dj p
    have hb' := l _ _ hb
    have := run_storeCells_cells (P := P) b o vs 0 w (fun j hj => by rw [cell_hp hb']; simp; omega) (fun j hj => frozen_ok hb' hf (by omega)) h1
    simpa using this
  · obtain ⟨_, h'⟩ := St.loc (X := Unit) (A' := fun _ => A') h s3 (fun G hh g l dj p => by
      obtain ⟨c, e, fz, hb, hf, hl, p'⟩ := f G hh dj p
      refine ⟨(), _, p', ?_, ?_, ?_⟩
      · intro x o' hx
        dsimp only at hx
        split at hx
        · rename_i e; subst e; cases hx; exact s2 c _ _ (l _ _ hb)
        · rename_i e; rw [s1 x e]; exact l _ _ hx
      · intro x o' hx hn
        have : x ≠ b := by intro e; subst e; rw [hb] at hn; cases hn
        rw [s1 x this]; exact hx
      · intro x hx
        left
        by_cases e : x = b
        · subst e; rw [hb]; simp
        · simpa [e] using hx)
    exact h'
theorem St.reput {W w : World} {L : List Assn} {k : Nat} {A' : Assn} (hk : k < L.length) (h : St W w (A' :: L.eraseIdx k)) : St W w (L.set k A') := h.ent (Ent.put k A' hk)

section
variable {C : Cx} {ops : Array Oper} {Q : Post} {i : Nat} {m : Env} {L L' : List Assn} {d : Nat} {t t' : TypeId} {p : String} {e : Array Edge} {g : Option (Nat × Bool)}
theorem run_storeAt {P : Program} {t : TypeId} {vs : List Value} (ht : cellsN P t = some vs.length) {w w' : World} {q : Addr} {v : Value} (hv : v.cells.toList = vs) (hr : (storeCells q vs).run P w = .ok () w') :
    (Instr.storeAt t (.pointer (some q)) v).run P w = .ok () w' := by
  have h2 : v.cells.size = vs.length := by rw [← hv]; simp
  simp [Instr.storeAt, Instr.sureAddr, storeVar, run_sizeOf ht, h2, hv, hr]
theorem Does.storePts {x y : Operand} {k b o : Nat} {cs vs cs' : List Value} {v : Value} (hw : Want ops m ⟨none, .store t x y, t', p, e, g⟩ true)
    (hx : ev m x = some (.pointer (some ⟨b, o, none⟩))) (hy : ev m y = some v) (hv : v.cells.toList = vs) (h1 : vs.all (·.oneCell') = true) (ht : cellsN C.P t = some vs.length)
    (hk : L[k]? = some (pts b cs)) (hle : Nat.ble (o + vs.length) cs.length = true) (hcs : putL cs o vs = cs') (hL : L.set k (pts b cs') = L') : Does C ops m L ⟨none, .store t x y, t', p, e, g⟩ (fun _ : Unit => undef) (fun _ => L') :=
  Does.eff hw (fun a w ha hs => by
    have hle' : o + vs.length ≤ cs.length := by simpa using hle
    have hA : ∀ v ∈ vs, v.oneCell' = true := by simpa using h1
    obtain ⟨h2, h3⟩ := St.write (A' := pts b cs') (hs.ent (Ent.take k hk)) hA (fun G hh dj ⟨e, fz, hb, hf⟩ => by
      refine ⟨cs.toArray, e, fz, hb, by simpa using hf, by simpa using hle', e, fz, ?_, ?_⟩
      · simp only [if_pos]; rw [putA_list hle', hcs]
      · rw [← hcs, putL_length hle']; exact hf) C.P
    refine ⟨_, ?_, hL ▸ St.reput (lt_of_get hk) h3⟩
    simp [execOp, ha.ev hx, ha.ev hy, run_storeAt ht hv h2])
/-- A whole element. -/
theorem Does.storeElem {α : Type} {x y : Operand} {k : Nat} {vs : List Value} {v : Value} {r : Rep α} {a : Option Addr} {cap : Nat} {l : List α} {j : Nat} {u : α} (hw : Want ops m ⟨none, .store t x y, t', p, e, g⟩ true)
    (hx : ev m x = some (.pointer (some (adA a (j * r.n) 0)))) (hy : ev m y = some v) (hv : v.cells.toList = vs) (ht : cellsN C.P t = some vs.length)
    (hk : L[k]? = some (own r a cap l)) (hj : j < l.length) (hu : ∀ w, St C.W w L → St C.W w (r.rel vs u :: L)) [R : PureRep r] (hL : L.set k (own r a cap (l.set j u)) = L') : Does C ops m L ⟨none, .store t x y, t', p, e, g⟩ (fun _ : Unit => undef) (fun _ => L') :=
  Does.eff hw (fun ac w ha hs => by
    obtain ⟨G0, hh0, _, _, _, q0⟩ := (hu w hs).get 0 rfl
    have hlen : vs.length = r.n := r.len q0
    have h1 : ∀ v ∈ vs, v.oneCell' = true := r.one q0
    -- the owned part beside the new element's relation
    have hs2 : St C.W w (star [r.rel vs u, own r a cap l] :: L.eraseIdx k) := by
      refine St.ent (L := r.rel vs u :: own r a cap l :: L.eraseIdx k) ((hu w hs).ent (Ent.cons _ (Ent.take k hk))) ?_
      exact Ent.unstar (L := [r.rel vs u, own r a cap l])
    obtain ⟨b, off, ha', hbb⟩ : ∃ b off, a = some ⟨b, off, none⟩ ∧ True := by
      obtain ⟨G, f, _, _, _, hl, q⟩ := hs.get k hk
      rcases q with ⟨rfl, rfl⟩ | ⟨b, off, c, t, fz, h1', _⟩
      · omega
      · exact ⟨b, off, h1', trivial⟩
    subst ha'
    obtain ⟨h2, h3⟩ := St.write (A' := own r (some ⟨b, off, none⟩) cap (l.set j u)) (b := b) (o := off + j * r.n) (vs := vs) hs2 h1 (fun G hh dj ⟨g1, g2, d1, l1, l2, q1, g3, g4, d2, l3, l4, q2, _⟩ => by
      obtain ⟨hl, q2⟩ := q2
      rcases q2 with ⟨e1, rfl⟩ | ⟨b', off', c, ty, fz, e1, h2, h3, h4, h5⟩
      · omega
      · cases e1
        have hfit : off + j * r.n + vs.length ≤ c.size := by
          rw [hlen]
          have : (j + 1) * r.n ≤ cap * r.n := Nat.mul_le_mul_right _ (by omega)
          rw [Nat.add_mul] at this; omega
        refine ⟨c, ty, fz, (l3.trans l2) _ _ h2, h3, hfit, ?_⟩
        refine ⟨by simpa using hl, .inr ⟨b, off, putA c (off + j * r.n) vs, ty, fz, rfl, by simp, by rw [putA_size]; exact h3, by rw [putA_size]; exact h4, ?_⟩⟩
        intro q x hx
        rw [List.getElem?_set] at hx
        split at hx
        · rename_i e; subst e
          cases hx
          refine ⟨vs, fun z v hz => ?_, R.dup _ _ _ _ q1⟩
          have hzl : z < vs.length := (List.getElem?_eq_some_iff.1 hz).1
          rw [putA_get _ _ _ _ hfit, if_pos (by omega), show off + j * r.n + z - (off + j * r.n) = z from by omega]; exact hz
        · rename_i hne
          obtain ⟨cs, h6, h7⟩ := h5 q x hx
          refine ⟨cs, fun z v hz => ?_, h7⟩
          have hzl : z < cs.length := (List.getElem?_eq_some_iff.1 hz).1
          rw [r.len h7] at hzl
          have : ¬ (off + j * r.n ≤ off + q * r.n + z ∧ off + q * r.n + z < off + j * r.n + vs.length) := by
            rw [hlen]
            rcases Nat.lt_or_gt_of_ne hne with hlt | hlt
            · have : (j + 1) * r.n ≤ q * r.n := Nat.mul_le_mul_right _ (by omega)
              rw [Nat.add_mul] at this; omega
            · have : (q + 1) * r.n ≤ j * r.n := Nat.mul_le_mul_right _ (by omega)
              rw [Nat.add_mul] at this; omega
          rw [putA_get _ _ _ _ hfit, if_neg this]; exact h6 z v hz) C.P
    refine ⟨_, ?_, hL ▸ St.reput (lt_of_get hk) h3⟩
    have hx' := ha.ev hx
    rw [adA_some, Nat.add_zero] at hx'
    simp [execOp, hx', ha.ev hy, run_storeAt ht hv h2])

/-! ## Appends -/
/-- What is appended, in a state. -/
def Srcs {α : Type} (P : Program) (W : World) (r : Rep α) (tx : TypeId) (vx : Value) (l2 : List α) (L : List Assn) : Prop :=
  ∀ w G f, Le G (hp w) → Le f (hp w) → Dj G f → Sat G L f → ∃ news, Src P r.n tx vx l2.length news w ∧ ∀ j y, l2[j]? = some y → ∃ cs, (∀ q v, cs[q]? = some v → news[j * r.n + q]? = some v) ∧ (r.rel cs y).p G emp
theorem Arrd.news {α : Type} {A : Assn} {r : Rep α} {a : Option Addr} {l : List α} (hA : Arrd A r a l) {G h : Frag} (dj : Dj G h) (p : A.p G h) : ∃ news : List Value, news.length = l.length * r.n ∧ (∀ u ∈ news, u.oneCell' = true) ∧
    (l ≠ [] → ∃ b off c e fz, a = some ⟨b, off, none⟩ ∧ un G h b = some (.cells c e fz) ∧ Win c off news) ∧ ∀ j x, l[j]? = some x → ∃ cs, (∀ q v, cs[q]? = some v → news[j * r.n + q]? = some v) ∧ (r.rel cs x).p G emp := by
  have key : ∀ k, k ≤ l.length → ∃ news : List Value, news.length = k * r.n ∧ (∀ u ∈ news, u.oneCell' = true) ∧
      (0 < k → ∃ b off c e fz, a = some ⟨b, off, none⟩ ∧ un G h b = some (.cells c e fz) ∧ Win c off news) ∧ ∀ j x, j < k → l[j]? = some x → ∃ cs, (∀ q v, cs[q]? = some v → news[j * r.n + q]? = some v) ∧ (r.rel cs x).p G emp := by
    intro k
    induction k with
    | zero => intro _; exact ⟨[], by simp, by simp, fun h => by omega, fun j x h => by omega⟩
    | succ k ih =>
      intro hk
      obtain ⟨news, n1, n2, n3, n4⟩ := ih (by omega)
      obtain ⟨b, off, c, e, fz, cs, e1, e2, e3, e4⟩ := hA.get G h dj p k l[k] (List.getElem?_eq_getElem (by omega))
      have hcs : cs.length = r.n := r.len e4
      refine ⟨news ++ cs, by rw [List.length_append, n1, hcs, Nat.add_mul]; omega, ?_, fun _ => ⟨b, off, c, e, fz, e1, e2, ?_⟩, ?_⟩
      · intro u hu
        rcases List.mem_append.1 hu with hu | hu
        · exact n2 u hu
        · exact r.one e4 u hu
      · intro q v hq
        rw [List.getElem?_append] at hq
        split at hq
        · rename_i hlt
          have hk0 : 0 < k := by
            rcases Nat.eq_zero_or_pos k with e0 | e0
            · subst e0; rw [n1] at hlt; omega
            · exact e0
          obtain ⟨b', off', c', e', fz', f1, f2, f3⟩ := n3 hk0
          rw [e1] at f1; cases f1
          rw [e2] at f2; cases f2
          exact f3 q v hq
        · rename_i hge
          have := e3 _ _ hq
          rw [n1] at this hge
          rw [show off + q = off + k * r.n + (q - k * r.n) from by omega]; exact this
      · intro j x hj hx
        by_cases hjk : j < k
        · obtain ⟨cs', c1, c2⟩ := n4 j x hjk hx
          refine ⟨cs', fun q v hq => ?_, c2⟩
          have := c1 q v hq
          rw [List.getElem?_append_left (List.getElem?_eq_some_iff.1 this).1]; exact this
        · have : j = k := by omega
          subst this
          rw [List.getElem?_eq_getElem (by omega)] at hx; cases hx
          refine ⟨cs, fun q v hq => ?_, e4⟩
          rw [List.getElem?_append_right (by rw [n1]; omega), n1, show j * r.n + q - j * r.n = q from by omega]; exact hq
  obtain ⟨news, n1, n2, n3, n4⟩ := key l.length (Nat.le_refl _)
  exact ⟨news, n1, n2, fun hne => n3 (by cases l; exact absurd rfl hne; simp), fun j x hx => n4 j x (List.getElem?_eq_some_iff.1 hx).1 hx⟩
theorem Srcs.sl {α : Type} {P : Program} {W : World} {r : Rep α} {tx et : TypeId} {y k c : Nat} {a : Option Addr} {l2 : List α} {A : Assn} {L : List Assn} (ht : slN P tx = some (et, r.n, y)) (hk : L[k]? = some A) (hA : Arrd A r a l2) :
    Srcs P W r tx (.slice a l2.length c) l2 L := fun w G f g lf dj s => by
  obtain ⟨h1, h2, d', a', b', p, s'⟩ := Ent.take k hk G f s
  obtain ⟨news, n1, n2, n3, n4⟩ := hA.news (dj.mono (Le.refl _) a') p
  refine ⟨news, ?_, n4⟩
  by_cases hl : l2 = []
  · subst hl
    have : news = [] := by cases news; rfl; simp at n1
    subst this
    exact ⟨.inl ⟨_, (slN_out ht).1⟩, fun _ => rfl, by cases a <;> simp [Builtin.firstCells, loadCells, loadCellsFrom], by cases a <;> simp [Builtin.firstCells, loadCells, loadCellsFrom], by simp, fun _ h => by cases h⟩
  · obtain ⟨b, off, cc, e, fz, e1, e2, e3⟩ := n3 hl
    subst e1
    refine Src.ofSlice w (slN_out ht).1 _ _ _ _ n1 (fun j u hj => ?_) n2
    rw [add_lit, cell_hp (Le.un g (a'.trans lf) _ _ e2)]
    exact e3 j u hj
theorem Srcs.nil {α : Type} {P : Program} {W : World} {r : Rep α} {tx et : TypeId} {n y c : Nat} {L : List Assn} (ht : slN P tx = some (et, n, y)) : Srcs P W r tx (.slice none 0 c) ([] : List α) L := fun w G f g lf dj s =>
  ⟨[], Src.ofNil w (slN_out ht).1 c, fun j y h => by simp at h⟩
theorem Srcs.str {P : Program} {W : World} {tx : TypeId} {l2 : List UInt8} {L : List Assn} (ht : isStr P tx = true) : Srcs P W rU8 tx (.string ⟨l2.toArray⟩) l2 L := fun w G f g lf dj s => by
  have h := Src.ofString (P := P) w (isStr_out ht) ⟨l2.toArray⟩
  have h1 : (ByteArray.mk l2.toArray).size = l2.length := by simp [ByteArray.size]
  rw [h1] at h
  refine ⟨byteCells ⟨l2.toArray⟩, h, fun j y hj => ⟨[.int .u8 y.toNat], fun q v hq => ?_, rfl⟩⟩
  have hlt := (List.getElem?_eq_some_iff.1 hq).1
  have : q = 0 := by simp at hlt; exact hlt
  subst this
  simp only [rU8, Nat.mul_one, Nat.add_zero, byteCells, List.getElem?_map, hj, Option.map_some]
  simpa using hq

/-- As long as a slice may grow. -/
def ap {α : Type} (y : Nat) (l l2 : List α) : Option (List α) := if (l.length + l2.length) * y ≤ 140737488355328 ∧ l.length + l2.length ≤ 9223372036854775807 then some (l ++ l2) else none
theorem ap_out {α : Type} {y : Nat} {l l2 r : List α} (h : ap y l l2 = some r) : (l.length + l2.length) * y ≤ 140737488355328 ∧ l.length + l2.length ≤ 9223372036854775807 ∧ r = l ++ l2 := by
  unfold ap at h
  split at h
  · rename_i k; cases h; exact ⟨k.1, k.2, rfl⟩
  · cases h

theorem run_append_sym {α : Type} {P : Program} {W w : World} {r : Rep α} {t tx ty et : TypeId} {y : Nat} {zs : List Value} (ht : slN P t = some (et, r.n, y)) (hz : zeroN P et = some zs) (hzs : zs.length = r.n)
    {a : Option Addr} {cap : Nat} {l l2 l3 : List α} {vx : Value} {L : List Assn} (hs : St W w (own r a cap l :: L)) (hsrc : Srcs P W r tx vx l2 L) (hap : ap y l l2 = some l3) :
    ∃ a' cap' w', (Builtin.append_ #[t, tx] ty #[.slice a l.length cap, vx]).run P w = .ok (.slice a' l3.length cap') w' ∧ St W w' (own r a' cap' l3 :: L) := by
  obtain ⟨hb1, hb2, rfl⟩ := ap_out hap
  obtain ⟨hu, ti, hti, hsz, hby⟩ := slN_out ht
  obtain ⟨ti', z, hti', hz1, hz2⟩ := zeroN_out hz
  rw [hti] at hti'; cases hti'
  have hzc : z.cells.size = r.n := by rw [hz2]; simpa using hzs
  obtain ⟨G, f, g, lf, dj, ⟨h1, h2, d1, a1, b1, ⟨hl, q⟩, s⟩, mm⟩ := id hs
  obtain ⟨news, src, hn⟩ := hsrc w G h2 g (b1.trans lf) (dj.mono (Le.refl _) b1) s
  rw [← hsz] at src
  by_cases hroom : l.length + l2.length ≤ cap
  · rcases q with ⟨rfl, rfl⟩ | ⟨b, off, c, ty', fz, rfl, hb, hf, hfit, hel⟩
    · have e1 : l = [] := List.eq_nil_of_length_eq_zero (by omega)
      have e2 : l2 = [] := List.eq_nil_of_length_eq_zero (by omega)
      subst e1; subst e2
      have hnews : news = [] := List.eq_nil_of_length_eq_zero (by simpa using src.newsLen)
      refine ⟨none, 0, w, ?_, hs⟩
      have hlen := src.len
      have hcells := src.cells
      simp only [List.length_nil] at hcells
      rcases src.kind with ⟨e', hk⟩ | hk <;> simp [Builtin.append_, run_underlying hu, run_underlying hk, sizeOf, typeInfo, hti, hlen, hcells, hnews]
    · have hb' := (a1.trans lf) _ _ hb
      have hnl : news.length = l2.length * r.n := by rw [src.newsLen, hsz]
      have hfit' : off + l.length * r.n + news.length ≤ c.size := by
        have : (l.length + l2.length) * r.n ≤ cap * r.n := Nat.mul_le_mul_right _ hroom
        rw [Nat.add_mul] at this; omega
      have hr := run_append_room_src (P := P) w t tx ty et ti hu hti b off l.length cap vx l2.length news src hroom
        (fun j hj => by rw [cell_hp hb', hsz]; simp; omega) (fun j hj => frozen_ok hb' hf (by rw [hsz]; omega))
      rw [hsz] at hr
      refine ⟨some ⟨b, off, none⟩, cap, _, by rw [hr, List.length_append], ?_⟩
      obtain ⟨s1, s2, s3⟩ := hp_setCells b news (off + l.length * r.n) w
      have hd : ∀ x, h1 x = none → x ≠ b := fun x hx e => by subst e; rw [hb] at hx; cases hx
      have hGd : Dj G h1 := dj.mono (Le.refl _) a1
      have keepG : Le G (hp (w.setCells b (off + l.length * r.n) news)) := fun x o hx => by
        rw [s1 x (hd x (hGd.none (by rw [hx]; simp)))]; exact g _ _ hx
      have keep2 : Le h2 (hp (w.setCells b (off + l.length * r.n) news)) := fun x o hx => by
        rw [s1 x (hd x (d1.symm.none (by rw [hx]; simp)))]; exact (b1.trans lf) _ _ hx
      let h1' : Frag := fun x => if x = b then some (.cells (putA c (off + l.length * r.n) news) ty' fz) else none
      have l1' : Le h1' (hp (w.setCells b (off + l.length * r.n) news)) := fun x o hx => by
        dsimp only [h1'] at hx
        split at hx
        · rename_i e; subst e; cases hx; exact s2 _ _ _ hb'
        · cases hx
      have sub1 : ∀ k : Frag, Dj h1 k → Dj h1' k := fun k hk x => by
        by_cases e : x = b
        · subst e; right; exact hk.none (by rw [hb]; simp)
        · left; simp [h1', e]
      refine ⟨G, un h1' h2, keepG, Le.un l1' keep2, (Dj.un (sub1 G hGd.symm) (dj.mono (Le.refl _) b1).symm).symm, ⟨h1', h2, sub1 h2 d1, Le.un_left _ _, Le.un_right (sub1 h2 d1), ?_, s⟩, mm.trans s3⟩
      refine ⟨by rw [List.length_append]; exact hroom, .inr ⟨b, off, _, ty', fz, rfl, by simp [h1']; rfl, by rw [putA_size]; exact hf, by rw [putA_size]; exact hfit, ?_⟩⟩
      intro j x hx
      rw [List.getElem?_append] at hx
      split at hx
      · rename_i hlt
        obtain ⟨cs, c1, c2⟩ := hel j x hx
        refine ⟨cs, fun z v hz => ?_, c2⟩
        have hzl : z < r.n := by rw [← r.len c2]; exact (List.getElem?_eq_some_iff.1 hz).1
        have : (j + 1) * r.n ≤ l.length * r.n := Nat.mul_le_mul_right _ (by omega)
        rw [Nat.add_mul] at this
        rw [putA_get _ _ _ _ hfit', if_neg (by omega)]; exact c1 z v hz
      · rename_i hge
        obtain ⟨cs, c1, c2⟩ := hn _ x hx
        refine ⟨cs, fun z v hz => ?_, c2⟩
        have := c1 z v hz
        have hlt := (List.getElem?_eq_some_iff.1 this).1
        have hm : j * r.n = l.length * r.n + (j - l.length) * r.n := by rw [← Nat.add_mul]; congr 1; omega
        rw [putA_get _ _ _ _ hfit', if_pos (by omega), show off + j * r.n + z - (off + l.length * r.n) = (j - l.length) * r.n + z from by omega]; exact this
  · -- a new row
    have hg : cap < l.length + l2.length := by omega
    obtain ⟨olds, o1, o2, o3, o4⟩ := (Arrd.own (r := r) (a := a) (cap := cap) (l := l)).news (dj.mono (Le.refl _) a1) (by exact ⟨hl, q⟩)
    have hold : (Builtin.firstCells ti.size l.length (.slice a l.length cap)).run P w.drew = .ok olds.toArray w.drew := by
      by_cases hle : l = []
      · subst hle
        have : olds = [] := List.eq_nil_of_length_eq_zero (by simpa using o1)
        subst this
        cases a <;> simp [Builtin.firstCells, loadCells, loadCellsFrom]
      · obtain ⟨b, off, cc, e, fz, e1, e2, e3⟩ := o3 hle
        subst e1
        refine run_firstCells_some w.drew ti.size l.length _ _ _ _ (by rw [hsz]; exact o1) (fun j u hj => ?_)
        have hb' : hp w b = some (.cells cc e fz) := Le.un g (a1.trans lf) _ _ e2
        rw [show (w.drew).cell? ((⟨b, off, none⟩ : Addr).add j) = w.cell? ((⟨b, off, none⟩ : Addr).add j) from rfl, add_lit, cell_hp hb']
        exact e3 j u hj
    have hr := run_append_grow_src (P := P) w t tx ty et ti z hu hti hz1 a l.length cap olds hold vx l2.length news src hg (by omega) (growslice_fits hg (by rw [hby]; exact hb1))
    refine ⟨some ⟨w.heap.size, 0, none⟩, grownCap w (l.length + l2.length) cap et, _, by rw [hr, List.length_append], ?_⟩
    have hnl : news.length = l2.length * r.n := by rw [src.newsLen, hsz]
    have hge := grownCap_ge w (l.length + l2.length) cap et
    let cur : List Value := olds ++ news ++ (Builtin.zeroCells z.cells (grownCap w (l.length + l2.length) cap et - (l.length + l2.length))).toList
    have hcur : ((olds ++ news).toArray ++ Builtin.zeroCells z.cells (grownCap w (l.length + l2.length) cap et - (l.length + l2.length))) = cur.toArray := by
      apply Array.ext'; simp [cur]
    rw [hcur]
    -- the new row, with the elements' relations under the same shared memory
    obtain ⟨_, hfin⟩ := St.loc (X := Unit) (w := w) (w' := w.drew.alloc (.cells cur.toArray et)) (A := star (own r a cap l :: L)) (A' := fun _ => star (own r (some ⟨w.heap.size, 0, none⟩) (grownCap w (l.length + l2.length) cap et) (l ++ l2) :: L)) (L := [])
      (hs.ent (by intro G f s; exact ⟨f, emp, (Dj.emp _).symm, Le.refl _, Le.emp _, s, trivial⟩)) ⟨rfl, rfl, rfl⟩ (fun G' hh g' l' dj' ⟨k1, k2, e1, e2, e3, ⟨kl, kq⟩, ks⟩ => by
        obtain ⟨news', src', hn'⟩ := hsrc w G' k2 g' (e3.trans l') (dj'.mono (Le.refl _) e3) ks
        have hnn : news' = news := by
          have q1 := src'.cells
          have q2 := src.cells
          rw [hsz] at q2
          rw [q2] at q1
          simpa using q1.symm
        subst hnn
        obtain ⟨olds', p1, p2, p3, p4⟩ := (Arrd.own (r := r) (a := a) (cap := cap) (l := l)).news (dj'.mono (Le.refl _) e2) (by exact ⟨kl, kq⟩)
        have hoo : olds' = olds := by
          by_cases hle : l = []
          · subst hle
            rw [List.eq_nil_of_length_eq_zero (by simpa using p1 : olds'.length = 0), List.eq_nil_of_length_eq_zero (by simpa using o1 : olds.length = 0)]
          · obtain ⟨b, off, cc, e, fz, f1, f2, f3⟩ := o3 hle
            obtain ⟨b', off', cc', e', fz', f1', f2', f3'⟩ := p3 hle
            subst f1; cases f1'
            have i1 := Le.un g (a1.trans lf) _ _ f2
            have i2 := Le.un g' (e2.trans l') _ _ f2'
            rw [i1] at i2; cases i2
            apply List.ext_getElem?
            intro j
            by_cases hj : j < olds.length
            · have hj' : j < olds'.length := by rw [p1, ← o1]; exact hj
              have u1 := f3 j _ (List.getElem?_eq_getElem hj)
              have u2 := f3' j _ (List.getElem?_eq_getElem hj')
              rw [u1] at u2
              rw [List.getElem?_eq_getElem hj', List.getElem?_eq_getElem hj, u2]
            · rw [List.getElem?_eq_none (by rw [p1, ← o1]; omega), List.getElem?_eq_none (by omega)]
        subst hoo
        refine ⟨(), un (fun x => if x = w.heap.size then some (.cells cur.toArray et) else none) k2, ?_, ?_, ?_, ?_⟩
        · have dnew : Dj (fun x => if x = w.heap.size then some (.cells cur.toArray et) else none) k2 := fun x => by
            by_cases e : x = w.heap.size
            · right; subst e; exact none_of_le (e3.trans l') (by simp [hp])
            · left; simp [e]
          refine ⟨_, k2, dnew, Le.un_left _ _, Le.un_right dnew, ⟨by rw [List.length_append]; exact hge, .inr ⟨w.heap.size, 0, cur.toArray, et, (0, 0), rfl, by simp, FzOK.zero _, ?_, ?_⟩⟩, ks⟩
          · simp only [cur, List.size_toArray, List.length_append, Array.length_toList, size_zeroCells, hzc, p1, hnl]
            rw [← Nat.add_mul, ← Nat.add_mul]
            exact Nat.le_of_eq (by rw [Nat.zero_add]; congr 1; omega)
          · intro j x hx
            rw [List.getElem?_append] at hx
            split at hx
            · obtain ⟨cs, c1, c2⟩ := p4 j x hx
              refine ⟨cs, fun q v hq => ?_, c2⟩
              have := c1 q v hq
              have hlt := (List.getElem?_eq_some_iff.1 this).1
              simp only [cur, Nat.zero_add, List.getElem?_toArray]
              rw [List.append_assoc, List.getElem?_append_left hlt]; exact this
            · rename_i hge'
              obtain ⟨cs, c1, c2⟩ := hn' _ x hx
              refine ⟨cs, fun q v hq => ?_, c2⟩
              have := c1 q v hq
              have hlt := (List.getElem?_eq_some_iff.1 this).1
              have hm : j * r.n = l.length * r.n + (j - l.length) * r.n := by rw [← Nat.add_mul]; congr 1; omega
              simp only [cur, Nat.zero_add, List.getElem?_toArray]
              rw [List.append_assoc, List.getElem?_append_right (by rw [p1]; omega), p1, List.getElem?_append_left (by omega), show j * r.n + q - l.length * r.n = (j - l.length) * r.n + q from by omega]; exact this
        · refine Le.un (fun x o hx => ?_) (fun x o hx => ?_)
          · split at hx
            · rename_i e; subst e; cases hx; show (w.heap.push _)[w.heap.size]? = _; simp
            · cases hx
          · have hx' := (e3.trans l') _ _ hx
            have hlt : x < w.heap.size := by
              rcases Nat.lt_or_ge x w.heap.size with k | k
              · exact k
              · unfold hp at hx'; rw [Array.getElem?_eq_none k] at hx'; cases hx'
            show (w.heap.push _)[x]? = _
            rw [Array.getElem?_push, if_neg (by omega)]; exact hx'
        · intro x o hx _
          have hlt : x < w.heap.size := by
            rcases Nat.lt_or_ge x w.heap.size with k | k
            · exact k
            · unfold hp at hx; rw [Array.getElem?_eq_none k] at hx; cases hx
          show (w.heap.push _)[x]? = _
          rw [Array.getElem?_push, if_neg (by omega)]; exact hx
        · intro x hx
          by_cases e : x = w.heap.size
          · right; subst e; simp [hp]
          · left
            have : k2 x ≠ none := by simpa [un, e] using hx
            intro hn2
            exact this (none_of_le e3 hn2))
    exact hfin.ent (by
      intro G f s
      obtain ⟨k1, k2, _, e2, _, s', _⟩ := s
      exact Sat.up e2 s')
theorem Does.append {α : Type} {x y : Operand} {r : Rep α} {tx ty et : TypeId} {k yy : Nat} {zs : List Value} {a : Option Addr} {cap : Nat} {l l2 l3 : List α} {vx : Value} (hw : Want ops m ⟨some d, .call ⟨.builtin .append, #[x, y], #[ty, tx]⟩, t, p, e, g⟩ true)
    (hx : ev m x = some (.slice a l.length cap)) (hy : ev m y = some vx) (ht : slN C.P ty = some (et, r.n, yy)) (hz : zeroN C.P et = some zs) (hzs : zs.length = r.n)
    (hk : L[k]? = some (own r a cap l)) (hsrc : Srcs C.P C.W r tx vx l2 (L.eraseIdx k)) (hap : ap yy l l2 = some l3) : Does C ops m L ⟨some d, .call ⟨.builtin .append, #[x, y], #[ty, tx]⟩, t, p, e, g⟩ (fun z : Option Addr × Nat => .slice z.1 l3.length z.2) (fun z => (L.set k (own r z.1 z.2 l3))) :=
  Does.val (X := Option Addr × Nat) hw (fun ac w ha hs => by
    obtain ⟨a', cap', w', hr, hs'⟩ := run_append_sym (ty := t) ht hz hzs (hs.ent (Ent.take k hk)) hsrc hap
    refine ⟨(a', cap'), w', ?_, St.reput (lt_of_get hk) hs'⟩
    simp [execOp, resolve, invoke, builtin, ha.ev hx, ha.ev hy, hr])
end
end Go.Sym
