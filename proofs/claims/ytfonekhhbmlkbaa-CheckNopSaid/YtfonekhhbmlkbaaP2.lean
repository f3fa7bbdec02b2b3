/- A body with an instruction ahead of it that does nothing is judged as the body is: plain Lean about the mirrors. -/
import Derived.Test.YtfonekhhbmlkbaaP1
import Derived.Test.YtfonekhhbmlkbaaE1
set_option linter.unusedVariables false
set_option linter.unusedSimpArgs false
namespace Go.Proofs.Ytfonekhhbmlkbaa
open Go Go.Sym

/-! ### locals -/
theorem f42.totl (l : List api_Local) (hl : l.length ≤ 100000) (hn : ∀ x ∈ l, 0 ≤ x.N ∧ x.N ≤ 4294967295) : ∀ (k : Nat) (s i : Int), 0 ≤ s → s ≤ 1000 → 0 ≤ i → i ≤ l.length → (l.length : Int) - i < k → Tot (f42.l1 k l s i) (fun r => 0 ≤ r.1 ∧ r.1 ≤ 1000) := by
  intro k
  induction k with
  | zero => intro s i _ _ _ h1 h2; omega
  | succ k ih =>
    intro s i hs hs' h0 h1 h2
    unfold f42.l1
    refine Tot.ite (fun h => ?_) (fun _ => Tot.mk ⟨hs, hs'⟩)
    have h' : i < l.length := by simpa using h
    refine Tot.bind (Tot.at? h0 h') fun v hv => ?_
    have hN := hn v hv.1
    rw [wi64 (n := v.N) (by omega) (by omega), wi64 (n := s + v.N) (by omega) (by omega)]
    unfold f42.j2
    rw [wi64 (n := v.N) (by omega) (by omega), wi64 (n := s + v.N) (by omega) (by omega), wi64 (n := i + 1) (by omega) (by omega)]
    refine Tot.ite (fun _ => Tot.ite (fun _ => Tot.mk (by simp)) (fun h => absurd rfl h)) (fun _ => Tot.ite (fun _ => Tot.mk (by simp)) (fun h => ?_))
    have h3 : s + v.N ≤ 1000 := by simpa using h
    exact ih _ _ (by omega) h3 (by omega) (by omega) (by omega)
theorem f42.tot (l : List api_Local) (hl : l.length ≤ 100000) (hn : ∀ x ∈ l, 0 ≤ x.N ∧ x.N ≤ 4294967295) : Tot (f42.f l) (fun r => 0 ≤ r.1 ∧ r.1 ≤ 1000) := by
  unfold f42.f
  exact f42.totl l hl hn _ _ _ (by omega) (by omega) (by omega) (by omega) (by rw [rounds_val]; omega)

theorem f14.totl2 {Q : List UInt8 × Int → Prop} (K : List UInt8 → Int → Option (List UInt8 × Int)) (i : Int) (v : api_Local) (hv : v.N ≤ 4294967295) (M : Nat) (hM : M ≤ 100000000000)
    (hK : ∀ l, l.length ≤ M → Tot (K l (IntKind.i64.wrap (i + 1))) Q) : ∀ (k : Nat) (l : List UInt8) (j : Int), 0 ≤ j → j ≤ v.N → (l.length : Int) + (v.N - j) ≤ M → l.length ≤ M → v.N - j < k → Tot (f14.l2 k K i v l j) Q := by
  intro k
  induction k with
  | zero =>
    intro l j h0 hj h1 h2 h3; omega
  | succ k ih =>
    intro l j h0 hj h1 h2 h3
    unfold f14.l2
    refine Tot.ite (fun h => ?_) (fun _ => hK l h2)
    have h' : j < v.N := by simpa using h
    refine Tot.bind (Tot.ap (by simp; omega) (by simp; omega)) fun r hr => ?_
    rw [wu32 (by omega) (by omega)]
    subst hr
    exact ih _ _ (by omega) (by omega) (by simp; omega) (by simp; omega) (by omega)
theorem f14.totl1 (l : List api_Local) (hl : l.length ≤ 20) (hn : ∀ x ∈ l, 0 ≤ x.N ∧ x.N ≤ 4294967295) : ∀ (k : Nat) (a : List UInt8) (i : Int), 0 ≤ i → i ≤ l.length → (a.length : Int) ≤ 100 + 4294967295 * i → (l.length : Int) - i < k →
    Tot (f14.l1 k l a i) (fun r => r.1.length ≤ 4611686018427387904) := by
  intro k
  induction k with
  | zero => intro a i _ h1 _ h2; omega
  | succ k ih =>
    intro a i h0 h1 ha h2
    unfold f14.l1
    refine Tot.ite (fun h => ?_) (fun _ => Tot.mk (by show a.length ≤ _; omega))
    have h' : i < l.length := by simpa using h
    refine Tot.bind (Tot.at? h0 h') fun v hv => ?_
    have hN := hn v hv.1
    refine f14.totl2 _ i v hN.2 (100 + 4294967295 * (i + 1)).toNat (by omega) (fun b hb => ?_) _ _ _ (by omega) hN.1 (by omega) (by omega) (by rw [rounds_val]; omega)
    rw [wi64 (by omega) (by omega)]
    exact ih _ _ (by omega) (by omega) (by omega) (by omega)
theorem f14.tot (t : api_FuncType) (ht : t.Params.length ≤ 50) (l : List api_Local) (hl : l.length ≤ 20) (hn : ∀ x ∈ l, 0 ≤ x.N ∧ x.N ≤ 4294967295) : Tot (f14.f t l) (fun r => r.1.length ≤ 4611686018427387904) := by
  unfold f14.f
  refine Tot.bind (f42.tot l (by omega) hn) fun c hc => Tot.ite (fun _ => Tot.mk (by simp)) (fun _ => ?_)
  rw [wi64 (by omega) (by omega)]
  refine Tot.bind (Tot.make (by omega) (by omega) (by omega) (by omega)) fun a ha => ?_
  subst ha
  refine Tot.bind (Tot.ap (by simp; omega) (by simp; omega)) fun b hb => ?_
  subst hb
  exact f14.totl1 l hl hn _ _ _ (by omega) (by omega) (by simp; omega) (by rw [rounds_val]; omega)

/-! ### the shape of a body -/
theorem at?_cons {α : Type} (x : α) (B : List α) {i : Int} (h : 0 ≤ i) : at? (x :: B) (i + 1) = at? B i := by
  unfold at?
  rw [if_pos (by omega), if_pos h, show (i + 1).toNat = i.toNat + 1 from by omega, List.getElem?_cons_succ]
theorem f44.pair (x : api_Instr) (B : List api_Instr) (hB : B.length ≤ 10000) : ∀ (m k k' : Nat) (i : Int) (st : List UInt8), 0 ≤ i → i ≤ B.length → (B.length : Int) - i ≤ m → m < k → m < k' → 0 < st.length → (st.length : Int) ≤ i + 1 →
    ∃ r, f44.l1 k B st i = some r ∧ f44.l1 k' (x :: B) st (i + 1) = some r := by
  intro m
  induction m with
  | zero =>
    intro k k' i st h0 h1 h2 h3 h4 h5 h6
    obtain ⟨k, rfl⟩ : ∃ j, k = j + 1 := ⟨k - 1, by omega⟩
    obtain ⟨k', rfl⟩ : ∃ j, k' = j + 1 := ⟨k' - 1, by omega⟩
    unfold f44.l1
    rw [if_neg (by simp; omega), if_neg (by simp; omega)]
    exact ⟨_, rfl, rfl⟩
  | succ m ih =>
    intro k k' i st h0 h1 h2 h3 h4 h5 h6
    obtain ⟨k, rfl⟩ : ∃ j, k = j + 1 := ⟨k - 1, by omega⟩
    obtain ⟨k', rfl⟩ : ∃ j, k' = j + 1 := ⟨k' - 1, by omega⟩
    unfold f44.l1
    by_cases hi : i < B.length
    · rw [if_pos (by simpa using hi), if_pos (by simp; omega), at?_cons x B h0]
      obtain ⟨v, ev, -⟩ := Tot.at? h0 hi
      obtain ⟨b, eb, -⟩ := f63.tot v.Op
      have w1 : IntKind.i64.wrap (i + 1) = i + 1 := wi64 (by omega) (by omega)
      have w2 : IntKind.i64.wrap (i + 1 + 1) = i + 1 + 1 := wi64 (by omega) (by omega)
      have w3 : IntKind.i64.wrap ((st.length : Int) - 1) = (st.length : Int) - 1 := wi64 (by omega) (by omega)
      have w4 : IntKind.i64.wrap ((B.length : Int) - 1) = (B.length : Int) - 1 := wi64 (by omega) (by omega)
      have w5 : IntKind.i64.wrap (((x :: B).length : Int) - 1) = (B.length : Int) := by rw [List.length_cons, wi64 (by omega) (by omega)]; omega
      simp only [ev, eb, Option.bind_some, w1, w2, w3, w4, w5]
      cases b with
      | true =>
        simp only [if_true]
        obtain ⟨s2, e2, hs2⟩ := Tot.ap (l := st) (l2 := [v.Op]) (n := 1) (by simp; omega) (by simp; omega)
        simp only [e2, Option.bind_some]
        exact ih k k' (i + 1) s2 (by omega) (by omega) (by omega) (by omega) (by omega) (by rw [hs2]; simp) (by rw [hs2]; simp; omega)
      | false =>
        simp only [Bool.false_eq_true, if_false]
        by_cases c5 : (v.Op == (5 : UInt8)) = true
        · simp only [c5, if_true]
          obtain ⟨u, eu, -⟩ := Tot.at? (l := st) (i := (st.length : Int) - 1) (by omega) (by omega)
          simp only [eu, Option.bind_some]
          by_cases c4 : (u != (4 : UInt8)) = true
          · simp only [c4, if_true]; exact ⟨_, rfl, rfl⟩
          · simp only [c4, if_false]
            obtain ⟨s2, e2, hs2⟩ := Tot.set? (l := st) (j := ((st.length : Int) - 1).toNat) (u := (5 : UInt8)) (by omega)
            simp only [e2, Option.bind_some]
            exact ih k k' (i + 1) s2 (by omega) (by omega) (by omega) (by omega) (by omega) (by rw [hs2]; simpa using h5) (by rw [hs2, List.length_set]; omega)
        · simp only [c5, if_false]
          by_cases c11 : (v.Op == (11 : UInt8)) = true
          · simp only [c11, if_true]
            obtain ⟨s2, e2, hs2⟩ := Tot.sl? (l := st) (lo := 0) (hi := (st.length : Int) - 1) (by omega) (by omega) (by omega)
            have l2 : s2.length = st.length - 1 := by rw [hs2, List.length_drop, List.length_take]; omega
            simp only [e2, Option.bind_some]
            by_cases cz : ((s2.length : Int) == 0) = true
            · simp only [cz, if_true]
              have same : (i + 1 == (B.length : Int)) = (i == (B.length : Int) - 1) := by
                rw [Bool.eq_iff_iff]; simp; omega
              rw [same]
              obtain ⟨r, er, -⟩ := f64.tot (i == (B.length : Int) - 1)
              simp only [er, Option.bind_some]
              exact ⟨_, rfl, rfl⟩
            · simp only [cz, if_false]
              have hz : s2.length ≠ 0 := fun h => cz (by rw [h]; rfl)
              exact ih k k' (i + 1) s2 (by omega) (by omega) (by omega) (by omega) (by omega) (by omega) (by omega)
          · simp only [c11, if_false]
            exact ih k k' (i + 1) st (by omega) (by omega) (by omega) (by omega) (by omega) h5 (by omega)
    · rw [if_neg (by simpa using hi), if_neg (by simp; omega)]
      exact ⟨_, rfl, rfl⟩
theorem rounds_big : ∃ k, rounds = k + 1 ∧ 1000000 < k := ⟨4611686018427387903, rfl, by omega⟩
def nop : api_Instr := { Op := (1 : UInt8), A := 0, B := 0, L := [] }
theorem f44.nop (B : List api_Instr) (hB : B.length ≤ 10000) : ∃ r, f44.f B = some r ∧ f44.f (nop :: B) = some r := by
  unfold f44.f
  rw [if_neg (by simp; omega), if_neg (by simp; omega)]
  obtain ⟨k, hk, hk'⟩ := rounds_big
  obtain ⟨r, e1, e2⟩ := f44.pair Ytfonekhhbmlkbaa.nop B hB B.length rounds k 0 [0] (by omega) (by omega) (by omega) (by omega) (by omega) (by simp) (by simp)
  refine ⟨r, e1, ?_⟩
  rw [hk, f44.l1, if_pos (by simp)]
  have a0 : at? (Ytfonekhhbmlkbaa.nop :: B) 0 = some Ytfonekhhbmlkbaa.nop := rfl
  have a1 : f63.f Ytfonekhhbmlkbaa.nop.Op = some false := by kernel_rfl
  have a2 : (Ytfonekhhbmlkbaa.nop.Op == (5 : UInt8)) = false := by kernel_rfl
  have a3 : (Ytfonekhhbmlkbaa.nop.Op == (11 : UInt8)) = false := by kernel_rfl
  have a4 : IntKind.i64.wrap (0 + 1) = 0 + 1 := by kernel_rfl
  simp only [a0, a1, a2, a3, a4, Option.bind_some, Bool.false_eq_true, if_false]
  exact e2
theorem f13.same (L : List api_Local) (B B' : List api_Instr) (h : f44.f B' = f44.f B) : ∀ (k : Nat) (i : Int), f13.l1 k ⟨L, B'⟩ i = f13.l1 k ⟨L, B⟩ i := by
  intro k
  induction k with
  | zero => intro i; rfl
  | succ k ih => intro i; simp only [f13.l1, h, ih]
theorem f13.totl (L : List api_Local) (B : List api_Instr) (hL : L.length ≤ 100000) (hB : Tot (f44.f B) (fun _ => True)) : ∀ (k : Nat) (i : Int), 0 ≤ i → i ≤ L.length → (L.length : Int) - i < k → Tot (f13.l1 k ⟨L, B⟩ i) (fun _ => True) := by
  intro k
  induction k with
  | zero => intro i h0 h1 h2; omega
  | succ k ih =>
    intro i h0 h1 h2
    unfold f13.l1
    refine Tot.ite (fun h => ?_) (fun _ => Tot.bind hB fun _ _ => Tot.mk trivial)
    have h' : i < L.length := by simpa using h
    refine Tot.bind (Tot.at? h0 h') fun v hv => Tot.bind (f43.tot _) fun _ _ => Tot.ite (fun _ => Tot.mk trivial) (fun _ => ?_)
    rw [wi64 (by omega) (by omega)]
    exact ih _ (by omega) (by omega) (by omega)
theorem f13.nop (L : List api_Local) (B : List api_Instr) (hL : L.length ≤ 20) (hB : B.length ≤ 10000) (hn : ∀ x ∈ L, 0 ≤ x.N ∧ x.N ≤ 4294967295) : ∃ r, f13.f ⟨L, B⟩ = some r ∧ f13.f ⟨L, Ytfonekhhbmlkbaa.nop :: B⟩ = some r := by
  obtain ⟨r, e1, e2⟩ := f44.nop B hB
  have t : Tot (f13.f ⟨L, B⟩) (fun _ => True) := by
    unfold f13.f
    exact Tot.ite (fun _ => Tot.mk trivial) (fun _ => Tot.bind (f42.tot L (by omega) hn) fun _ _ => Tot.ite (fun _ => Tot.mk trivial) (fun _ => f13.totl L B (by omega) ⟨r, e1, trivial⟩ _ _ (by omega) (by omega) (by rw [rounds_val]; omega)))
  obtain ⟨q, eq, -⟩ := t
  refine ⟨q, eq, ?_⟩
  rw [← eq]
  unfold f13.f
  rw [f13.same L B (Ytfonekhhbmlkbaa.nop :: B) (e2.trans e1.symm)]

/-! ### the body, instruction by instruction -/
def c0 (r : List UInt8) : ctrl_Control := { frames := [{ Op := 0, Results := r, Height := 0, Dead := false }], Stack := { list := [] } }
theorem f15.is (r : List UInt8) : f15.f r = some (c0 r) := by kernel_rfl
theorem f16.nop (env : check_Env) (locals r : List UInt8) (res : List UInt8) : f16.f { env := env, locals := locals, c := c0 r, result := res } Ytfonekhhbmlkbaa.nop = some (0, { env := env, locals := locals, c := c0 r, result := res }) := by kernel_rfl

theorem f8.pair (v0 : check_Env) (v1 : api_FuncType) (L : List api_Local) (B : List api_Instr) (x : api_Instr) (p : List UInt8 × Int) (hB : B.length ≤ 100) (ok : ∀ c, CkOK { env := v0, locals := p.1, c := c, result := v1.Results }) (ik : ∀ i ∈ B, InsOK i) :
    ∀ (m k k' : Nat) (i : Int) (c : ctrl_Control) (F S : Nat), 0 ≤ i → i ≤ B.length → (B.length : Int) - i ≤ m → m < k → m < k' → Sm F S c → F + m ≤ 100000 → S + 5 * m ≤ 1000000 →
    ∃ n e, f8.l1 k v0 v1 ⟨L, B⟩ p c i = some (n, e) ∧ f8.l1 k' v0 v1 ⟨L, x :: B⟩ p c (i + 1) = some (n + 1, e) ∧ 0 ≤ n ∧ n ≤ 100 := by
  intro m
  induction m with
  | zero =>
    intro k k' i c F S h0 h1 h2 h3 h4 hc hF hS
    obtain ⟨k, rfl⟩ : ∃ j, k = j + 1 := ⟨k - 1, by omega⟩
    obtain ⟨k', rfl⟩ : ∃ j, k' = j + 1 := ⟨k' - 1, by omega⟩
    unfold f8.l1
    rw [if_neg (by simp; omega), if_neg (by simp; omega)]
    refine ⟨B.length, 0, rfl, ?_, by omega, by omega⟩
    simp
  | succ m ih =>
    intro k k' i c F S h0 h1 h2 h3 h4 hc hF hS
    obtain ⟨k, rfl⟩ : ∃ j, k = j + 1 := ⟨k - 1, by omega⟩
    obtain ⟨k', rfl⟩ : ∃ j, k' = j + 1 := ⟨k' - 1, by omega⟩
    unfold f8.l1
    by_cases hi : i < B.length
    · rw [if_pos (by simpa using hi), if_pos (by simp; omega), at?_cons x B h0]
      obtain ⟨v, ev, hv⟩ := Tot.at? h0 hi
      obtain ⟨r, er, hr⟩ := f16.tot (ok c) (ik v hv.1) hc (by omega) (by omega)
      have w1 : IntKind.i64.wrap (i + 1) = i + 1 := wi64 (by omega) (by omega)
      have w2 : IntKind.i64.wrap (i + 1 + 1) = i + 1 + 1 := wi64 (by omega) (by omega)
      simp only [ev, er, Option.bind_some, w1, w2]
      by_cases cz : (r.1 != 0) = true
      · simp only [cz, if_true]
        exact ⟨i, r.1, rfl, rfl, h0, by omega⟩
      · simp only [cz, if_false]
        exact ih k k' (i + 1) r.2.c (F + 1) (S + 5) (by omega) (by omega) (by omega) (by omega) (by omega) hr (by omega) (by omega)
    · rw [if_neg (by simpa using hi), if_neg (by simp; omega)]
      refine ⟨B.length, 0, rfl, ?_, by omega, by omega⟩
      simp

theorem f8.nop (v0 : check_Env) (v1 : api_FuncType) (L : List api_Local) (B : List api_Instr) (hL : L.length ≤ 20) (hB : B.length ≤ 100) (hp : v1.Params.length ≤ 50) (hn : ∀ x ∈ L, 0 ≤ x.N ∧ x.N ≤ 4294967295)
    (ok : ∀ c l, l.length ≤ 4611686018427387904 → CkOK { env := v0, locals := l, c := c, result := v1.Results }) (hr : v1.Results.length ≤ 5) (ik : ∀ i ∈ B, InsOK i) :
    ∃ n e, f8.f v0 v1 ⟨L, B⟩ = some (n, e) ∧ ((n < 0 ∧ f8.f v0 v1 ⟨L, Ytfonekhhbmlkbaa.nop :: B⟩ = some (n, e)) ∨ (0 ≤ n ∧ n ≤ 100 ∧ f8.f v0 v1 ⟨L, Ytfonekhhbmlkbaa.nop :: B⟩ = some (n + 1, e))) := by
  obtain ⟨q, e1, e2⟩ := f13.nop L B hL (by omega) hn
  obtain ⟨p, ep, hpl⟩ := f14.tot v1 hp L hL hn
  unfold f8.f
  simp only [e1, e2, ep, Option.bind_some, f15.is]
  by_cases c1 : (q != 0) = true
  · simp only [c1, if_true]
    exact ⟨-1, q, rfl, .inl ⟨by omega, rfl⟩⟩
  simp only [c1, if_false]
  by_cases c2 : (p.2 != 0) = true
  · simp only [c2, if_true]
    exact ⟨-1, p.2, rfl, .inl ⟨by omega, rfl⟩⟩
  simp only [c2, if_false]
  obtain ⟨k, hk, hk'⟩ := rounds_big
  obtain ⟨n, e, k1, k2, k3, k4⟩ := f8.pair v0 v1 L B Ytfonekhhbmlkbaa.nop p hB (fun c => ok c _ hpl) ik B.length rounds k 0 (c0 v1.Results) 1 0 (by omega) (by omega) (by omega) (by omega) (by omega)
    ⟨by simp [c0], by simp [c0], by simpa [c0] using hr, by omega, by omega⟩ (by omega) (by omega)
  refine ⟨n, e, k1, .inr ⟨k3, k4, ?_⟩⟩
  have st : f8.l1 (k + 1) v0 v1 ⟨L, Ytfonekhhbmlkbaa.nop :: B⟩ p (c0 v1.Results) 0 = f8.l1 k v0 v1 ⟨L, Ytfonekhhbmlkbaa.nop :: B⟩ p (c0 v1.Results) (0 + 1) := by
    rw [f8.l1, if_pos (by simp)]
    have a0 : at? (Ytfonekhhbmlkbaa.nop :: B) 0 = some Ytfonekhhbmlkbaa.nop := rfl
    have a4 : IntKind.i64.wrap (0 + 1) = 0 + 1 := by kernel_rfl
    simp only [a0, Option.bind_some, f16.nop, a4]
    rfl
  rw [if_neg Bool.false_ne_true, if_neg Bool.false_ne_true, hk, st]
  exact k2

/-! ### which bodies are tried -/
theorem f12.tot (v2 : api_Code) (h : v2.Body.length ≤ 100) (hl : ∀ i ∈ v2.Body, i.L.length ≤ maxLen) : Tot (f12.f v2) (fun b => b = false → ∀ i ∈ v2.Body, i.L.length ≤ 50) := by
  unfold f12.f
  have key : ∀ (k : Nat) (i : Int), 0 ≤ i → i ≤ v2.Body.length → (v2.Body.length : Int) - i < k → (∀ j, j < i.toNat → ∀ x, v2.Body[j]? = some x → x.L.length ≤ 50) → Tot (f12.l1 k v2 i) (fun b => b = false → ∀ i ∈ v2.Body, i.L.length ≤ 50) := by
    intro k
    induction k with
    | zero => intro i h0 h1 h2; omega
    | succ k ih =>
      intro i h0 h1 h2 hq
      unfold f12.l1
      refine Tot.ite (fun h => ?_) (fun h => Tot.mk fun _ x hx => ?_)
      · have h' : i < v2.Body.length := by simpa using h
        refine Tot.bind (Tot.at? h0 h') fun v hv => Tot.ite (fun _ => Tot.mk (by simp)) (fun hs => ?_)
        rw [wi64 (by omega) (by omega)]
        refine ih _ (by omega) (by omega) (by omega) fun j hj x hx => ?_
        by_cases e : j = i.toNat
        · subst e
          rw [hv.2] at hx; cases hx
          simp at hs; omega
        · exact hq j (by omega) x hx
      · obtain ⟨j, hj, rfl⟩ := List.mem_iff_getElem.1 hx
        have h' : ¬ i < v2.Body.length := by simpa using h
        exact hq j (by omega) _ (List.getElem?_eq_getElem hj)
  exact key _ _ (by omega) (by omega) (by rw [rounds_val]; omega) (fun j hj => by simp at hj)
theorem f7.totl (v0 : check_Env) (h : v0.Types.length ≤ 20) (ht : ∀ t ∈ v0.Types, t.Params.length ≤ maxLen ∧ t.Results.length ≤ maxLen) : Tot (f7.l2 rounds v0 0) (fun b => b = true → ∀ t ∈ v0.Types, t.Params.length ≤ 50 ∧ t.Results.length ≤ 5) := by
  have key : ∀ (k : Nat) (i : Int), 0 ≤ i → i ≤ v0.Types.length → (v0.Types.length : Int) - i < k → (∀ j, j < i.toNat → ∀ x, v0.Types[j]? = some x → x.Params.length ≤ 50 ∧ x.Results.length ≤ 5) → Tot (f7.l2 k v0 i) (fun b => b = true → ∀ t ∈ v0.Types, t.Params.length ≤ 50 ∧ t.Results.length ≤ 5) := by
    intro k
    induction k with
    | zero => intro i h0 h1 h2; omega
    | succ k ih =>
      intro i h0 h1 h2 hq
      unfold f7.l2
      refine Tot.ite (fun h => ?_) (fun h => Tot.mk fun _ x hx => ?_)
      · have h' : i < v0.Types.length := by simpa using h
        refine Tot.bind (Tot.at? h0 h') fun v hv => ?_
        unfold f7.j3
        refine Tot.ite (fun _ => Tot.ite (fun _ => Tot.mk (by simp)) (fun h => absurd rfl h)) (fun hs => Tot.ite (fun _ => Tot.mk (by simp)) (fun hs2 => ?_))
        rw [wi64 (by omega) (by omega)]
        refine ih _ (by omega) (by omega) (by omega) fun j hj x hx => ?_
        by_cases e : j = i.toNat
        · subst e
          rw [hv.2] at hx; cases hx
          simp at hs hs2; omega
        · exact hq j (by omega) x hx
      · obtain ⟨j, hj, rfl⟩ := List.mem_iff_getElem.1 hx
        have h' : ¬ i < v0.Types.length := by simpa using h
        exact hq j (by omega) _ (List.getElem?_eq_getElem hj)
  exact key _ _ (by omega) (by omega) (by rw [rounds_val]; omega) (fun j hj => by simp at hj)
structure SmallOK (v0 : check_Env) (v1 : api_FuncType) (v2 : api_Code) : Prop where
  types : v0.Types.length ≤ 20
  funcs : v0.Funcs.length ≤ 50
  globals : v0.Globals.length ≤ 50
  params : v1.Params.length ≤ 50
  results : v1.Results.length ≤ 5
  body : v2.Body.length ≤ 100
  locals : v2.Locals.length ≤ 20
  much : ∀ i ∈ v2.Body, i.L.length ≤ 50
  type : ∀ t ∈ v0.Types, t.Params.length ≤ 50 ∧ t.Results.length ≤ 5
theorem f7.tot {v0 : check_Env} {v1 : api_FuncType} {v2 : api_Code} (h : InOK v0 v1 v2) : Tot (f7.f v0 v1 v2) (fun b => b = true → SmallOK v0 v1 v2) := by
  unfold f7.f
  obtain ⟨⟨⟨a1, a2⟩, -⟩, -, ⟨-, b1, -⟩⟩ := h
  have no : Tot (f7.j1 v0 true) (fun b => b = true → SmallOK v0 v1 v2) := by
    unfold f7.j1
    exact Tot.mk (by simp)
  refine Tot.ite (fun _ => no) (fun h1 => Tot.ite (fun _ => no) (fun h2 => Tot.ite (fun _ => no) (fun h3 => Tot.ite (fun _ => no) (fun h4 => Tot.ite (fun _ => no) (fun h5 => Tot.ite (fun _ => no) (fun h6 => Tot.ite (fun _ => no) (fun h7 => ?_)))))))
  simp only [decide_eq_true_eq, Int.not_lt] at h1 h2 h3 h4 h5 h6 h7
  refine Tot.bind (f12.tot v2 (by omega) (fun i hi => (b1.2 i hi).2.2.2.1.1)) fun b hb => ?_
  unfold f7.j1
  refine Tot.ite (fun _ => Tot.mk (by simp)) (fun hf => ?_)
  refine (f7.totl v0 (by omega) (fun t ht => ⟨(a2 t ht).1, (a2 t ht).2.1⟩)).mono fun r hr e => ⟨by omega, by omega, by omega, by omega, by omega, by omega, by omega, hb (by simpa using hf), hr e⟩
theorem law (v0 : check_Env) (v1 : api_FuncType) (v2 : api_Code) (h : InOK v0 v1 v2) : f3.f v0 v1 v2 = some true := by
  have aw : f6.f = some true := by kernel_rfl
  obtain ⟨b, eb, hb⟩ := f7.tot h
  unfold f3.f
  simp only [aw, eb, Option.bind_some]
  cases b with
  | false => rfl
  | true =>
    have s := hb rfl
    obtain ⟨a, -, c⟩ := h
    obtain ⟨a1, a2, a3, -⟩ := a
    obtain ⟨l1, l2, -⟩ := c
    have ok : ∀ c l, l.length ≤ 4611686018427387904 → CkOK { env := v0, locals := l, c := c, result := v1.Results } := fun c l hl => {
      types := by have := s.types; show v0.Types.length ≤ _; omega
      type := fun t ht => ⟨by have := (s.type t ht).1; omega, (s.type t ht).2⟩
      funcs := by have := s.funcs; show v0.Funcs.length ≤ _; omega
      func := fun x hx => a2.2 x hx
      globals := by have := s.globals; show v0.Globals.length ≤ _; omega
      locals := hl
      result := s.results }
    have ik : ∀ i ∈ v2.Body, InsOK i := fun i hi => {
      a := (l2.2 i hi).2.1
      l := by have := s.much i hi; omega
      le := fun y hy => (l2.2 i hi).2.2.2.1.2 y hy }
    obtain ⟨n, e, k1, k2⟩ := f8.nop v0 v1 v2.Locals v2.Body s.locals s.body s.params (fun x hx => (l1.2 x hx).1) ok s.results ik
    have hbd := s.body
    obtain ⟨B', eB, hB'⟩ := Tot.ap (l := [({ Op := (1 : UInt8), A := 0, B := 0, L := [] } : api_Instr)]) (l2 := v2.Body) (n := 48) (by simp; omega) (by simp; omega)
    have k1' : f8.f v0 v1 v2 = some (n, e) := k1
    simp only [Bool.not_true, Bool.false_eq_true, if_false, k1', eB, Option.bind_some, f3.j1]
    subst hB'
    have hx : ([({ Op := (1 : UInt8), A := 0, B := 0, L := [] } : api_Instr)] ++ v2.Body) = nop :: v2.Body := rfl
    rw [hx]
    rcases k2 with ⟨hn, k2⟩ | ⟨hn, hn', k2⟩
    · simp only [k2, Option.bind_some]
      simp [hn]
    · simp only [k2, Option.bind_some]
      have hn2 : ¬ n < 0 := by omega
      simp [hn2, wi64 (show -9223372036854775808 ≤ n + 1 by omega) (show n + 1 ≤ 9223372036854775807 by omega)]

theorem checkNop_holds : Rows.CheckNopSaid := said law
end Go.Proofs.Ytfonekhhbmlkbaa
