/- The checker's functions answer whatever comes, while it is small: plain Lean about the mirrors. -/
import Derived.Test.YtfonekhhbmlkbaaS10
import Derived.Test.YtfonekhhbmlkbaaG15
set_option linter.unusedVariables false
set_option linter.unusedSimpArgs false
namespace Go.Proofs.Ytfonekhhbmlkbaa
open Go Go.Sym

/-! ### the table of instructions -/
def all256 (p : UInt8 → Bool) : Bool := (List.range 256).all fun n => p (UInt8.ofNat n)
theorem of_all256 {p : UInt8 → Bool} (h : all256 p = true) (v : UInt8) : p v = true := by
  have := List.all_eq_true.1 h v.toNat (List.mem_range.2 v.toNat_lt)
  simpa using this
def good47 (o : Option ops_Info) : Bool := match o with | some i => Nat.ble i.Params.length 5 && Nat.ble i.Result.length 5 | none => false
theorem f47.tot (v : UInt8) : Tot (f47.f v) (fun i => i.Params.length ≤ 5 ∧ i.Result.length ≤ 5) := by
  have h := of_all256 (p := fun v => good47 (f47.f v)) (by kernel_rfl) v
  cases e : f47.f v with
  | none => rw [e] at h; cases h
  | some i =>
    rw [e] at h
    exact ⟨i, rfl, by simpa [good47] using h⟩
theorem f66.tot (v : UInt8) : Tot (f66.f v) (fun _ => True) := by
  have h := of_all256 (p := fun v => (f66.f v).isSome) (by kernel_rfl) v
  obtain ⟨r, e⟩ := Option.isSome_iff_exists.1 h
  exact ⟨r, e, trivial⟩
theorem f83.tot (v : UInt8) : Tot (f83.f v) (fun _ => True) := by
  have h := of_all256 (p := fun v => (f83.f v).isSome) (by kernel_rfl) v
  obtain ⟨r, e⟩ := Option.isSome_iff_exists.1 h
  exact ⟨r, e, trivial⟩
theorem f43.tot (v : UInt8) : Tot (f43.f v) (fun _ => True) := by
  have h := of_all256 (p := fun v => (f43.f v).isSome) (by kernel_rfl) v
  obtain ⟨r, e⟩ := Option.isSome_iff_exists.1 h
  exact ⟨r, e, trivial⟩
theorem f63.tot (v : UInt8) : Tot (f63.f v) (fun _ => True) := by
  have h := of_all256 (p := fun v => (f63.f v).isSome) (by kernel_rfl) v
  obtain ⟨r, e⟩ := Option.isSome_iff_exists.1 h
  exact ⟨r, e, trivial⟩
theorem f64.tot (b : Bool) : Tot (f64.f b) (fun _ => True) := by unfold f64.f; exact Tot.ite (fun _ => Tot.mk trivial) (fun _ => Tot.mk trivial)
theorem f67.tot (v : Int) : Tot (f67.f v) (fun _ => True) := by unfold f67.f; exact Tot.ite (fun _ => Tot.mk trivial) (fun _ => Tot.mk trivial)
theorem f68.tot (b : Bool) : Tot (f68.f b) (fun _ => True) := by unfold f68.f; exact Tot.ite (fun _ => Tot.mk trivial) (fun _ => Tot.mk trivial)
theorem f69.tot (v : Int) : Tot (f69.f v) (fun _ => True) := by
  unfold f69.f
  exact Tot.ite (fun _ => Tot.mk trivial) (fun _ => Tot.ite (fun _ => Tot.mk trivial) (fun _ => Tot.bind (f43.tot _) fun _ _ => Tot.mk trivial))
theorem f46.tot3 (i : api_Instr) (a : ops_Info) (b : Bool) : Tot (f46.j3 i a b) (fun _ => True) := by
  unfold f46.j3
  refine Tot.ite (fun _ => Tot.bind (f68.tot _) fun _ _ => Tot.mk trivial) (fun _ => Tot.ite (fun _ => Tot.bind (f69.tot _) fun _ _ => Tot.mk trivial) (fun _ => Tot.ite (fun _ => Tot.mk trivial) (fun _ => Tot.ite (fun _ => Tot.bind (f68.tot _) fun _ _ => Tot.mk trivial) (fun _ => Tot.bind (f68.tot _) fun _ _ => Tot.mk trivial))))
theorem f46.tot2 (i : api_Instr) (a : ops_Info) (b : Bool) : Tot (f46.j2 i a b) (fun _ => True) := by
  unfold f46.j2
  exact Tot.ite (fun _ => Tot.mk trivial) (fun _ => Tot.ite (fun _ => f46.tot3 _ _ _) (fun _ => f46.tot3 _ _ _))
theorem f46.tot1 (i : api_Instr) (a : ops_Info) (b : Bool) : Tot (f46.j1 i a b) (fun _ => True) := by
  unfold f46.j1
  exact Tot.ite (fun _ => Tot.bind (f67.tot _) fun _ _ => Tot.mk trivial) (fun _ => Tot.ite (fun _ => f46.tot2 _ _ _) (fun _ => f46.tot2 _ _ _))
theorem f46.tot (i : api_Instr) : Tot (f46.f i) (fun _ => True) := by
  unfold f46.f
  refine Tot.bind (f66.tot _) fun _ _ => Tot.ite (fun _ => Tot.mk trivial) (fun _ => Tot.bind (f47.tot _) fun _ _ => Tot.ite (fun _ => Tot.ite (fun _ => f46.tot1 _ _ _) (fun _ => f46.tot1 _ _ _)) (fun _ => f46.tot1 _ _ _))

/-! ### the stack -/
def Sm (F S : Nat) (c : ctrl_Control) : Prop := c.frames.length ≤ F ∧ c.Stack.list.length ≤ S ∧ (∀ f ∈ c.frames, f.Results.length ≤ 5) ∧ F ≤ 100000 ∧ S ≤ 1000000
def Sz (S : Nat) (s : opstack_Stack) : Prop := s.list.length ≤ S ∧ S ≤ 1000000

theorem f90.tot {S : Nat} {s : opstack_Stack} (hs : Sz S s) (h : Int) (d : Bool) : Tot (f90.f s h d) (fun r => Sz S r.2.2) := by
  unfold f90.f
  obtain ⟨h1, h2⟩ := hs
  refine Tot.ite (fun _ => Tot.ite (fun _ => Tot.mk ⟨h1, h2⟩) (fun _ => Tot.mk ⟨h1, h2⟩)) (fun hn => ?_)
  have hpos : 0 < s.list.length := by
    by_cases hh : 0 > h
    · simp [hh] at hn; exact List.length_pos_iff.2 hn
    · simp [hh] at hn; omega
  rw [wi64 (by omega) (by omega)]
  refine Tot.bind (Tot.at? (by omega) (by omega)) fun _ _ => Tot.bind (Tot.sl? (by omega) (by omega) (by omega)) fun r hr => Tot.mk ⟨?_, h2⟩
  subst hr
  show ((s.list.take _).drop _).length ≤ S
  simp; omega
theorem f91.tot {S : Nat} {s : opstack_Stack} (hs : Sz S s) (v : UInt8) (h : Int) (d : Bool) : Tot (f91.f s v h d) (fun r => Sz S r.2.2) := by
  unfold f91.f
  refine Tot.bind (f90.tot hs h d) fun r hr => Tot.ite (fun _ => Tot.mk hr) (fun _ => Tot.ite (fun _ => Tot.mk hr) (fun _ => ?_))
  unfold f91.j1
  exact Tot.ite (fun _ => Tot.ite (fun _ => Tot.mk hr) (fun _ => Tot.mk hr)) (fun _ => Tot.ite (fun _ => Tot.mk hr) (fun _ => Tot.mk hr))
theorem f93.totl {S : Nat} (l : List UInt8) (h : Int) (d : Bool) (hl : l.length ≤ 100000) : ∀ (k : Nat) (s : opstack_Stack) (i : Int), Sz S s → -1 ≤ i → i < l.length → i + 1 < k → Tot (f93.l1 k l h d s i) (fun r => Sz S r.2)
  | 0, _, _, _, h1, _, h3 => by omega
  | k + 1, s, i, hs, h1, h2, h3 => by
    unfold f93.l1
    refine Tot.ite (fun h0 => ?_) (fun _ => Tot.mk hs)
    have h0' : 0 ≤ i := by simpa using h0
    refine Tot.bind (Tot.at? h0' h2) fun v _ => Tot.bind (f91.tot hs v h d) fun r hr => Tot.ite (fun _ => Tot.mk hr) (fun _ => ?_)
    rw [wi64 (by omega) (by omega)]
    exact f93.totl l h d hl k _ _ hr (by omega) (by omega) (by omega)
theorem f93.tot {S : Nat} {s : opstack_Stack} (hs : Sz S s) (l : List UInt8) (h : Int) (d : Bool) (hl : l.length ≤ 100000) : Tot (f93.f s l h d) (fun r => Sz S r.2) := by
  unfold f93.f
  rw [wi64 (by omega) (by omega)]
  exact f93.totl l h d hl _ _ _ hs (by omega) (by omega) (by rw [rounds_val]; omega)
theorem f92.tot {S : Nat} {s : opstack_Stack} (hs : Sz S s) (h : Int) : Tot (f92.f s h) (fun r => Sz S r) := by
  unfold f92.f f92.j1
  obtain ⟨h1, h2⟩ := hs
  refine Tot.ite (fun h0 => Tot.ite (fun hl => ?_) (fun _ => Tot.mk ⟨h1, h2⟩)) (fun _ => Tot.ite (fun _ => ?_) (fun _ => Tot.mk ⟨h1, h2⟩))
  · have h0' : 0 ≤ h := by simpa using h0
    have hl' : h < s.list.length := by simpa using hl
    refine Tot.bind (Tot.sl? (by omega) (by omega) (by omega)) fun r hr => Tot.mk ⟨?_, h2⟩
    subst hr
    show ((s.list.take _).drop _).length ≤ S
    simp; omega
  · rename_i hf; cases hf
theorem f84.tot {S : Nat} {s : opstack_Stack} (hs : Sz S s) (l : List UInt8) (hl : l.length ≤ 5) (hS : S + 5 ≤ 1000000) : Tot (f84.f s l) (fun r => Sz (S + 5) r) := by
  unfold f84.f
  obtain ⟨h1, h2⟩ := hs
  refine Tot.bind (Tot.ap (by omega) (by omega)) fun r hr => Tot.mk ⟨?_, hS⟩
  subst hr
  simp; omega
theorem f76.tot {S : Nat} {s : opstack_Stack} (hs : Sz S s) (v : UInt8) (hS : S + 5 ≤ 1000000) : Tot (f76.f s v) (fun r => Sz (S + 5) r) := by
  unfold f76.f
  obtain ⟨h1, h2⟩ := hs
  refine Tot.bind (Tot.ap (by simp; omega) (by simp; omega)) fun r hr => Tot.mk ⟨?_, hS⟩
  subst hr
  simp; omega

/-! ### frames -/
theorem Sm.sz {F S : Nat} {c : ctrl_Control} (h : Sm F S c) : Sz S c.Stack := ⟨h.2.1, h.2.2.2.2⟩
theorem Sm.put {F S T : Nat} {c : ctrl_Control} {s : opstack_Stack} (h : Sm F S c) (k : Sz T s) : Sm F T { frames := c.frames, Stack := s } := ⟨h.1, k.1, h.2.2.1, h.2.2.2.1, k.2⟩
theorem Sm.up {F S F' S' : Nat} {c : ctrl_Control} (h : Sm F S c) (a : F ≤ F') (b : S ≤ S') (a' : F' ≤ 100000) (b' : S' ≤ 1000000) : Sm F' S' c := ⟨Nat.le_trans h.1 a, Nat.le_trans h.2.1 b, h.2.2.1, a', b'⟩
theorem f65.tot (s : opstack_Stack) : Tot (f65.f s) (fun r => r = s.list.length) := Tot.mk rfl
theorem f89.tot' {F S : Nat} {c : ctrl_Control} (hc : Sm F S c) : Tot (f89.f c) (fun r => r.1.Results.length ≤ 5 ∧ (r.2 = true → 0 < c.frames.length)) := by
  unfold f89.f
  obtain ⟨h1, h2, h3, h4, h5⟩ := hc
  refine Tot.ite (fun _ => Tot.mk (by simp)) (fun hn => ?_)
  have hpos : 0 < c.frames.length := by
    rcases Nat.eq_zero_or_pos c.frames.length with h | h
    · rw [h] at hn; exact absurd rfl hn
    · exact h
  rw [wi64 (by omega) (by omega)]
  exact Tot.bind (Tot.at? (by omega) (by omega)) fun f hf => Tot.mk ⟨h3 f hf.1, fun _ => hpos⟩
theorem f89.tot {F S : Nat} {c : ctrl_Control} (hc : Sm F S c) : Tot (f89.f c) (fun r => r.1.Results.length ≤ 5) := (f89.tot' hc).mono fun _ h => h.1
theorem f81.frames {F S : Nat} {c : ctrl_Control} (hc : Sm F S c) (l : List UInt8) (hl : l.length ≤ 100000) : Tot (f81.f c l) (fun r => r.2.frames = c.frames) := by
  unfold f81.f
  exact Tot.bind (f89.tot hc) fun r _ => Tot.ite (fun _ => Tot.mk rfl) (fun _ => Tot.bind (f93.tot hc.sz l _ _ hl) fun s hs => Tot.mk rfl)
theorem f81.tot {F S : Nat} {c : ctrl_Control} (hc : Sm F S c) (l : List UInt8) (hl : l.length ≤ 100000) : Tot (f81.f c l) (fun r => Sm F S r.2) := by
  unfold f81.f
  exact Tot.bind (f89.tot hc) fun r _ => Tot.ite (fun _ => Tot.mk hc) (fun _ => Tot.bind (f93.tot hc.sz l _ _ hl) fun s hs => Tot.mk (hc.put hs))
theorem f75.tot {F S : Nat} {c : ctrl_Control} (hc : Sm F S c) (v : UInt8) : Tot (f75.f c v) (fun r => Sm F S r.2.2) := by
  unfold f75.f
  exact Tot.bind (f89.tot hc) fun r _ => Tot.ite (fun _ => Tot.mk hc) (fun _ => Tot.bind (f91.tot hc.sz v _ _) fun s hs => Tot.mk (hc.put hs))
theorem f74.tot {F S : Nat} {c : ctrl_Control} (hc : Sm F S c) : Tot (f74.f c) (fun r => Sm F S r.2.2) := by
  unfold f74.f
  exact Tot.bind (f89.tot hc) fun r _ => Tot.ite (fun _ => Tot.mk hc) (fun _ => Tot.bind (f90.tot hc.sz _ _) fun s hs => Tot.mk (hc.put hs))
theorem f73.tot {F S : Nat} {ck : check_checker} (hc : Sm F S ck.c) (v : UInt8) : Tot (f73.f ck v) (fun r => Sm F S r.2.c) := by
  unfold f73.f
  exact Tot.bind (f75.tot hc v) fun r hr => Tot.mk hr
theorem f53.tot {F S : Nat} {ck : check_checker} (hc : Sm F S ck.c) (a b : List UInt8) (ha : a.length ≤ 100000) (hb : b.length ≤ 5) (hS : S + 5 ≤ 1000000) : Tot (f53.f ck a b) (fun r => Sm F (S + 5) r.2.c) := by
  unfold f53.f
  refine Tot.bind (f81.tot hc a ha) fun r hr => Tot.ite (fun _ => Tot.mk (hr.up (Nat.le_refl _) (by omega) hr.2.2.2.1 hS)) (fun _ => Tot.bind (f84.tot hr.sz b hb hS) fun s hs => Tot.mk (hr.put hs))
theorem f45.tot {F S : Nat} {c : ctrl_Control} (hc : Sm F S c) (op : UInt8) (l : List UInt8) (hl : l.length ≤ 5) (hF : F + 1 ≤ 100000) : Tot (f45.f c op l) (fun r => Sm (F + 1) S r) := by
  unfold f45.f
  obtain ⟨h1, h2, h3, h4, h5⟩ := hc
  refine Tot.bind (f65.tot _) fun n _ => Tot.bind (Tot.ap (by simp; omega) (by simp; omega)) fun r hr => Tot.mk ⟨?_, h2, ?_, hF, h5⟩
  · subst hr; simp; omega
  · subst hr
    intro f hf
    rcases List.mem_append.1 hf with h | h
    · exact h3 f h
    · rw [List.mem_singleton.1 h]; exact hl
theorem f77.tot {F S : Nat} {c : ctrl_Control} (hc : Sm F S c) : Tot (f77.f c) (fun r => Sm F S r) := by
  unfold f77.f
  have hc' := hc
  obtain ⟨h1, h2, h3, h4, h5⟩ := hc
  refine Tot.ite (fun _ => Tot.mk hc') (fun hn => ?_)
  have hpos : 0 < c.frames.length := by
    rcases Nat.eq_zero_or_pos c.frames.length with h | h
    · rw [h] at hn; exact absurd rfl hn
    · exact h
  rw [wi64 (by omega) (by omega)]
  refine Tot.bind (Tot.at? (by omega) (by omega)) fun f hf => Tot.bind (f92.tot hc'.sz _) fun s hs => Tot.bind (Tot.set? (by omega)) fun l hl => Tot.mk ⟨?_, hs.1, ?_, h4, h5⟩
  · subst hl; simpa using h1
  · subst hl
    intro g hg
    rcases List.mem_or_eq_of_mem_set hg with h | h
    · exact h3 g h
    · subst h; exact h3 f hf.1
theorem f79.tot {F S : Nat} {c : ctrl_Control} (hc : Sm F S c) : Tot (f79.f c) (fun r => Sm F S r.2.2 ∧ r.1.Results.length ≤ 5) := by
  unfold f79.f
  refine Tot.bind (f89.tot' hc) fun r hr => Tot.ite (fun _ => Tot.mk ⟨hc, by simp⟩) (fun hb => Tot.bind ((f81.tot hc _ (by omega)).and (f81.frames hc _ (by omega))) fun s hs => Tot.ite (fun _ => Tot.mk ⟨hs.1, by simp⟩) (fun _ => Tot.bind (f65.tot _) fun n _ => Tot.ite (fun _ => Tot.mk ⟨hs.1, by simp⟩) (fun _ => ?_)))
  have hpos := hr.2 (by simpa using hb)
  obtain ⟨⟨h1, h2, h3, h4, h5⟩, he⟩ := hs
  rw [wi64 (by omega) (by omega)]
  rw [he]
  rw [he] at h1 h3
  refine Tot.bind (Tot.sl? (by omega) (by omega) (by omega)) fun l hl => Tot.mk ⟨⟨?_, h2, ?_, h4, h5⟩, hr.1⟩
  · subst hl; simp; omega
  · subst hl
    intro f hf
    exact h3 f (List.mem_of_mem_take (List.mem_of_mem_drop hf))
theorem f78.tot (v : Int) : Tot (f78.f v) (fun r => r.length ≤ 5) := by
  unfold f78.f
  exact Tot.ite (fun _ => Tot.mk (by simp)) (fun _ => Tot.mk (by simp))
theorem f80.tot {F S : Nat} {ck : check_checker} (hc : Sm F S ck.c) (hS : S + 5 ≤ 1000000) : Tot (f80.f ck) (fun r => Sm F (S + 5) r.2.c) := by
  unfold f80.f f80.j1
  refine Tot.bind (f79.tot hc) fun r hr => ?_
  have up : Sm F (S + 5) r.2.2 := hr.1.up (Nat.le_refl _) (by omega) hr.1.2.2.2.1 hS
  have j : Tot (f84.f r.2.2.Stack r.1.Results) (fun r => Sz (S + 5) r) := f84.tot hr.1.sz _ hr.2 hS
  refine Tot.ite (fun _ => Tot.mk up) (fun _ => Tot.ite (fun _ => Tot.ite (fun _ => Tot.mk up) (fun _ => Tot.bind j fun s hs => Tot.mk (hr.1.put hs))) (fun _ => Tot.ite (fun _ => Tot.mk up) (fun _ => Tot.bind j fun s hs => Tot.mk (hr.1.put hs))))
theorem f94.tot {F S : Nat} {c : ctrl_Control} (hc : Sm F S c) (v : Int) (hv : 0 ≤ v) : Tot (f94.f c v) (fun r => r.1.length ≤ 5) := by
  unfold f94.f
  obtain ⟨h1, h2, h3, h4, h5⟩ := hc
  rw [wu64 (by omega) (by omega)]
  refine Tot.ite (fun _ => Tot.mk (by simp)) (fun hn => ?_)
  have hn' : v < c.frames.length := by simpa using hn
  rw [wi64 (n := v) (by omega) (by omega), wi64 (n := (c.frames.length : Int) - 1) (by omega) (by omega), wi64 (by omega) (by omega)]
  exact Tot.bind (Tot.at? (by omega) (by omega)) fun f hf => Tot.ite (fun _ => Tot.mk (by simp)) (fun _ => Tot.mk (h3 f hf.1))
theorem f95.tot (l : List Int) (hl : l.length ≤ 100000) : Tot (f95.f l) (fun _ => True) := by
  unfold f95.f
  have key : ∀ (k : Nat) (i : Int), 0 ≤ i → i ≤ l.length → (l.length : Int) - i < k → Tot (f95.l1 k l i) (fun _ => True) := by
    intro k
    induction k with
    | zero => intro i h1 h2 h3; omega
    | succ k ih =>
      intro i h1 h2 h3
      unfold f95.l1
      refine Tot.ite (fun h => ?_) (fun _ => Tot.mk trivial)
      have h' : i < l.length := by simpa using h
      refine Tot.bind (Tot.at? h1 h') fun v _ => Tot.ite (fun _ => Tot.mk trivial) (fun _ => ?_)
      rw [wi64 (by omega) (by omega)]
      exact ih _ (by omega) (by omega) (by omega)
  exact key _ _ (by omega) (by omega) (by rw [rounds_val]; omega)

/-! ### one instruction -/
structure CkOK (ck : check_checker) : Prop where
  types : ck.env.Types.length ≤ 100000
  type : ∀ t ∈ ck.env.Types, t.Params.length ≤ 100000 ∧ t.Results.length ≤ 5
  funcs : ck.env.Funcs.length ≤ 100000
  func : ∀ x ∈ ck.env.Funcs, 0 ≤ x ∧ x ≤ 4294967295
  globals : ck.env.Globals.length ≤ 100000
  locals : ck.locals.length ≤ 4611686018427387904
  result : ck.result.length ≤ 5
structure InsOK (i : api_Instr) : Prop where
  a : 0 ≤ i.A ∧ i.A ≤ 18446744073709551615
  l : i.L.length ≤ 100000
  le : ∀ y ∈ i.L, 0 ≤ y ∧ y ≤ 4294967295
variable {F S : Nat} {ck : check_checker} {i : api_Instr}
theorem f48.tot2 (ok : CkOK ck) (t : api_FuncType) (ht : t.Params.length ≤ 100000 ∧ t.Results.length ≤ 5) {c : ctrl_Control} (hc : Sm F S c) (hS : S + 5 ≤ 1000000) : Tot (f48.j2 ck t c) (fun r => Sm F (S + 5) r.2.c) := by
  unfold f48.j2
  exact Tot.bind (f53.tot hc _ _ ht.1 ht.2 hS) fun r hr => Tot.mk hr
theorem f48.tot1 (ok : CkOK ck) (hc : Sm F S ck.c) (i : api_Instr) (n : Int) (hn : 0 ≤ n) (hS : S + 5 ≤ 1000000) : Tot (f48.j1 ck i n) (fun r => Sm F (S + 5) r.2.c) := by
  unfold f48.j1
  have h1 := ok.types
  have up : ∀ {c}, Sm F S c → Sm F (S + 5) c := fun h => h.up (Nat.le_refl _) (by omega) h.2.2.2.1 hS
  rw [wu64 (by omega) (by omega)]
  refine Tot.ite (fun _ => Tot.mk (up hc)) (fun h => ?_)
  have h' : n < ck.env.Types.length := by simpa using h
  refine Tot.bind (Tot.at? hn h') fun t ht => Tot.ite (fun _ => Tot.bind (f73.tot hc _) fun r hr => Tot.ite (fun _ => Tot.mk (up hr)) (fun _ => f48.tot2 ok t (ok.type t ht.1) hr hS)) (fun _ => f48.tot2 ok t (ok.type t ht.1) hc hS)
theorem f48.tot (ok : CkOK ck) (ik : InsOK i) (hc : Sm F S ck.c) (hS : S + 5 ≤ 1000000) : Tot (f48.f ck i) (fun r => Sm F (S + 5) r.2.c) := by
  unfold f48.f
  have h1 := ok.funcs
  have up : ∀ {c}, Sm F S c → Sm F (S + 5) c := fun h => h.up (Nat.le_refl _) (by omega) h.2.2.2.1 hS
  rw [wu64 (n := (ck.env.Funcs.length : Int)) (by omega) (by omega)]
  refine Tot.ite (fun _ => Tot.ite (fun _ => Tot.mk (up hc)) (fun h => ?_)) (fun _ => Tot.ite (fun _ => Tot.mk (up hc)) (fun _ => f48.tot1 ok hc i _ ik.a.1 hS))
  have h' : i.A < ck.env.Funcs.length := by simpa using h
  refine Tot.bind (Tot.at? ik.a.1 h') fun x hx => ?_
  have := ok.func x hx.1
  rw [wu64 (by omega) (by omega)]
  exact f48.tot1 ok hc i x this.1 hS
theorem f49.tot (hc : Sm F S ck.c) (hS : S + 5 ≤ 1000000) : Tot (f49.f ck i) (fun r => Sm F (S + 5) r.2.c) := by
  unfold f49.f
  have up : ∀ {c}, Sm F S c → Sm F (S + 5) c := fun h => h.up (Nat.le_refl _) (by omega) h.2.2.2.1 hS
  refine Tot.ite (fun _ => Tot.bind (f74.tot hc) fun r hr => Tot.mk (up hr)) (fun _ => Tot.bind (f73.tot hc _) fun r hr => Tot.ite (fun _ => Tot.mk (up hr)) (fun _ => Tot.bind (f74.tot hr) fun s hs => Tot.ite (fun _ => Tot.mk (up hs)) (fun _ => Tot.bind (f75.tot hs _) fun t ht => Tot.ite (fun _ => Tot.mk (up ht)) (fun _ => Tot.bind (f76.tot ht.sz _ hS) fun u hu => Tot.mk (ht.put hu)))))
theorem f50.tot (ok : CkOK ck) (ik : InsOK i) (hc : Sm F S ck.c) (hS : S + 5 ≤ 1000000) : Tot (f50.f ck i) (fun r => Sm F (S + 5) r.2.c) := by
  unfold f50.f
  have h1 := ok.locals
  have h2 := ok.globals
  have h3 := ik.a
  have up : ∀ {c}, Sm F S c → Sm F (S + 5) c := fun h => h.up (Nat.le_refl _) (by omega) h.2.2.2.1 hS
  rw [wu64 (n := (ck.locals.length : Int)) (by omega) (by omega), wu64 (n := (ck.env.Globals.length : Int)) (by omega) (by omega)]
  refine Tot.ite (fun _ => Tot.ite (fun _ => Tot.mk (up hc)) (fun h => ?_)) (fun _ => Tot.ite (fun _ => Tot.mk (up hc)) (fun h => ?_))
  · have h' : i.A < ck.locals.length := by simpa using h
    rw [wu64 (by omega) (by omega)]
    refine Tot.bind (Tot.sl? (by omega) (by omega) (by omega)) fun l hl => ?_
    have hl5 : l.length ≤ 5 := by subst hl; simp; omega
    exact Tot.ite (fun _ => Tot.bind (f53.tot hc _ _ (by simp) hl5 hS) fun r hr => Tot.mk hr) (fun _ => Tot.ite (fun _ => Tot.bind (f53.tot hc _ _ (by omega) (by simp) hS) fun r hr => Tot.mk hr) (fun _ => Tot.bind (f53.tot hc _ _ (by omega) hl5 hS) fun r hr => Tot.mk hr))
  · have h' : i.A < ck.env.Globals.length := by simpa using h
    exact Tot.bind (Tot.at? (by omega) (by omega)) fun g _ => Tot.ite (fun _ => Tot.bind (f53.tot hc _ _ (by simp) (by simp) hS) fun r hr => Tot.mk hr) (fun _ => Tot.ite (fun _ => Tot.mk (up hc)) (fun _ => Tot.bind (f53.tot hc _ _ (by simp) (by simp) hS) fun r hr => Tot.mk hr))
theorem f52.tot (ik : InsOK i) : Tot (f52.f ck i) (fun _ => True) := by
  unfold f52.f f52.j1
  have e : decide (0 ≤ i.A) = true := by simpa using ik.a.1
  simp only [e]
  refine Tot.ite (fun _ => Tot.mk trivial) (fun _ => Tot.bind (f83.tot _) fun r _ => Tot.ite (fun _ => Tot.ite (fun _ => Tot.ite (fun _ => Tot.mk trivial) (fun _ => Tot.mk trivial)) (fun _ => Tot.ite (fun _ => Tot.ite (fun _ => Tot.mk trivial) (fun _ => Tot.mk trivial)) (fun h => absurd trivial h))) (fun _ => Tot.ite (fun _ => Tot.mk trivial) (fun _ => Tot.mk trivial)))
theorem f82.tot1 (l : List UInt8 × Int) (hl : l.1.length ≤ 5) {c : ctrl_Control} (hc : Sm F S c) (hS : S + 5 ≤ 1000000) : Tot (f82.j1 ck l c) (fun r => Sm F (S + 5) r.2.c) := by
  unfold f82.j1
  have up : ∀ {c}, Sm F S c → Sm F (S + 5) c := fun h => h.up (Nat.le_refl _) (by omega) h.2.2.2.1 hS
  exact Tot.bind (f81.tot hc _ (by omega)) fun r hr => Tot.ite (fun _ => Tot.mk (up hr)) (fun _ => Tot.bind (f77.tot hr) fun s hs => Tot.mk (up hs))
theorem f82.totl (l : List UInt8 × Int) (hl : l.1.length ≤ 5) (ik : InsOK i) (p : Int × check_checker) (hc : Sm F S p.2.c) (hS : S + 5 ≤ 1000000) : ∀ (k : Nat) (j : Int), 0 ≤ j → j ≤ i.L.length → (i.L.length : Int) - j < k → Tot (f82.l2 k ck l i p j) (fun r => Sm F (S + 5) r.2.c) := by
  intro k
  have up : ∀ {c}, Sm F S c → Sm F (S + 5) c := fun h => h.up (Nat.le_refl _) (by omega) h.2.2.2.1 hS
  have hL := ik.l
  induction k with
  | zero => intro j h1 h2 h3; omega
  | succ k ih =>
    intro j h1 h2 h3
    unfold f82.l2
    refine Tot.ite (fun h => ?_) (fun _ => f82.tot1 l hl hc hS)
    have h' : j < i.L.length := by simpa using h
    refine Tot.bind (Tot.at? h1 h') fun y hy => ?_
    have := ik.le y hy.1
    rw [wu64 (by omega) (by omega)]
    refine Tot.bind (f94.tot hc _ this.1) fun r _ => Tot.ite (fun _ => Tot.mk (up hc)) (fun _ => Tot.ite (fun _ => Tot.mk (up hc)) (fun _ => ?_))
    rw [wi64 (by omega) (by omega)]
    exact ih _ (by omega) (by omega) (by omega)
theorem f82.tot (ik : InsOK i) (hc : Sm F S ck.c) (hS : S + 5 ≤ 1000000) : Tot (f82.f ck i) (fun r => Sm F (S + 5) r.2.c) := by
  unfold f82.f
  have up : ∀ {c}, Sm F S c → Sm F (S + 5) c := fun h => h.up (Nat.le_refl _) (by omega) h.2.2.2.1 hS
  have hL := ik.l
  refine Tot.bind (f94.tot hc _ ik.a.1) fun l hl => Tot.ite (fun _ => Tot.mk (up hc)) (fun _ => Tot.ite (fun _ => ?_) (fun _ => Tot.ite (fun _ => ?_) (fun _ => f82.tot1 l hl hc hS)))
  · exact Tot.bind (f73.tot hc _) fun r hr => Tot.bind (f81.tot hr _ (by omega)) fun s hs => Tot.bind (f95.tot _ (by simp)) fun _ _ => Tot.ite (fun _ => Tot.mk (up hs)) (fun _ => Tot.bind (f84.tot hs.sz _ hl hS) fun t ht => Tot.mk (hs.put ht))
  · exact Tot.bind (f73.tot hc _) fun r hr => Tot.ite (fun _ => Tot.mk (up hr)) (fun _ => f82.totl l hl ik r hr hS _ _ (by omega) (by omega) (by rw [rounds_val]; omega))
theorem f51.tot1 (ok : CkOK ck) (ik : InsOK i) (hc : Sm F S ck.c) (hF : F + 1 ≤ 100000) (hS : S + 5 ≤ 1000000) (b : Bool) : Tot (f51.j1 ck i b) (fun r => Sm (F + 1) (S + 5) r.2.c) := by
  unfold f51.j1
  have up : ∀ {c}, Sm F S c → Sm (F + 1) (S + 5) c := fun h => h.up (by omega) (by omega) hF hS
  have up1 : ∀ {c}, Sm (F + 1) S c → Sm (F + 1) (S + 5) c := fun h => h.up (by omega) (by omega) hF hS
  have up2 : ∀ {c}, Sm F (S + 5) c → Sm (F + 1) (S + 5) c := fun h => h.up (by omega) (by omega) hF hS
  have hr := ok.result
  refine Tot.ite (fun _ => Tot.bind (f78.tot _) fun l hl => Tot.bind (f45.tot hc _ l hl hF) fun c hc => Tot.mk (up1 hc)) (fun _ => Tot.ite (fun _ => Tot.bind (f73.tot hc _) fun r hr => Tot.ite (fun _ => Tot.mk (up hr)) (fun _ => Tot.bind (f78.tot _) fun l hl => Tot.bind (f45.tot hr _ l hl hF) fun c hc => Tot.mk (up1 hc))) (fun _ => Tot.ite (fun _ => Tot.bind (f79.tot hc) fun r hr => Tot.ite (fun _ => Tot.mk (up hr.1)) (fun _ => Tot.bind (f45.tot hr.1 _ _ hr.2 hF) fun c hc => Tot.mk (up1 hc))) (fun _ => Tot.ite (fun _ => Tot.bind (f80.tot hc hS) fun r hr => Tot.mk (up2 hr)) (fun _ => Tot.ite (fun _ => Tot.bind (f81.tot hc _ (by omega)) fun r hr => Tot.ite (fun _ => Tot.mk (up hr)) (fun _ => Tot.bind (f77.tot hr) fun s hs => Tot.mk (up hs))) (fun _ => Tot.bind (f82.tot ik hc hS) fun r hr => Tot.mk (up2 hr))))))
theorem f51.tot (ok : CkOK ck) (ik : InsOK i) (hc : Sm F S ck.c) (hF : F + 1 ≤ 100000) (hS : S + 5 ≤ 1000000) : Tot (f51.f ck i) (fun r => Sm (F + 1) (S + 5) r.2.c) := by
  unfold f51.f
  exact Tot.ite (fun _ => Tot.bind (f77.tot hc) fun c hc => Tot.mk (hc.up (by omega) (by omega) hF hS)) (fun _ => Tot.ite (fun _ => f51.tot1 ok ik hc hF hS _) (fun _ => f51.tot1 ok ik hc hF hS _))
theorem f16.tot (ok : CkOK ck) (ik : InsOK i) (hc : Sm F S ck.c) (hF : F + 1 ≤ 100000) (hS : S + 5 ≤ 1000000) : Tot (f16.f ck i) (fun r => Sm (F + 1) (S + 5) r.2.c) := by
  unfold f16.f
  have up : ∀ {c}, Sm F S c → Sm (F + 1) (S + 5) c := fun h => h.up (by omega) (by omega) hF hS
  have up2 : ∀ {c}, Sm F (S + 5) c → Sm (F + 1) (S + 5) c := fun h => h.up (by omega) (by omega) hF hS
  refine Tot.bind (f46.tot i) fun _ _ => Tot.ite (fun _ => Tot.mk (up hc)) (fun _ => Tot.bind (f47.tot _) fun o ho => ?_)
  have j1 : Tot (f16.j1 ck o) (fun r => Sm (F + 1) (S + 5) r.2.c) := by
    unfold f16.j1
    exact Tot.bind (f53.tot hc _ _ (by omega) ho.2 hS) fun r hr => Tot.mk (up2 hr)
  have j5 : ∀ b, Tot (f16.j5 ck o i b) (fun r => Sm (F + 1) (S + 5) r.2.c) := fun b => by
    unfold f16.j5
    exact Tot.ite (fun _ => Tot.bind (f52.tot ik) fun _ _ => Tot.ite (fun _ => Tot.mk (up hc)) (fun _ => j1)) (fun _ => j1)
  have j4 : ∀ b, Tot (f16.j4 ck o i b) (fun r => Sm (F + 1) (S + 5) r.2.c) := fun b => by
    unfold f16.j4
    exact Tot.ite (fun _ => Tot.bind (f50.tot ok ik hc hS) fun r hr => Tot.mk (up2 hr)) (fun _ => Tot.ite (fun _ => Tot.bind (f51.tot ok ik hc hF hS) fun r hr => Tot.mk hr) (fun _ => Tot.ite (fun _ => j5 _) (fun _ => j5 _)))
  have j3 : ∀ b, Tot (f16.j3 ck o i b) (fun r => Sm (F + 1) (S + 5) r.2.c) := fun b => by
    unfold f16.j3
    exact Tot.ite (fun _ => Tot.bind (f49.tot hc hS) fun r hr => Tot.mk (up2 hr)) (fun _ => Tot.ite (fun _ => j4 _) (fun _ => j4 _))
  have j2 : ∀ b, Tot (f16.j2 ck o i b) (fun r => Sm (F + 1) (S + 5) r.2.c) := fun b => by
    unfold f16.j2
    exact Tot.ite (fun _ => Tot.bind (f48.tot ok ik hc hS) fun r hr => Tot.mk (up2 hr)) (fun _ => Tot.ite (fun _ => j3 _) (fun _ => j3 _))
  exact Tot.ite (fun _ => j2 _) (fun _ => j2 _)
end Go.Proofs.Ytfonekhhbmlkbaa
