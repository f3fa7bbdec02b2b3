/- A region whose order is open: one proof for all orders. No program in sight. -/
import Derived.Test.YtfonekhhbmlkbaaS5
import Derived.Orders
set_option linter.unusedVariables false
set_option linter.unusedSimpArgs false
namespace Go.Sym
open Go

def afterHas (o : Oper) (j : Nat) : Bool := o.after.toList.any fun e => Region.binds .any e && e.on == j
def isSelect : Op → Bool
  | .select _ _ => true
  | _ => false
/-- What is asked of a region's text: qs, the operations that only read. -/
def chk (ops : Array Oper) (qs : List Nat) : Bool :=
  (List.range ops.size).all fun i => match opAt ops i with
    | none => false
    | some oi => !isSelect oi.op && oi.after.toList.all (fun e => !Region.binds .any e || decide (e.on < i)) &&
      qs.all fun j => match opAt ops j with
        | none => false
        | some oj => match oj.dst with
          | none => false
          | some d => (i == j || oi.dst != some d) && (!(oi.looksAt ops).contains d || afterHas oi j)

section
variable {ops : Array Oper} {qs : List Nat}
theorem chk_op (h : chk ops qs = true) {i : Nat} {o : Oper} (ho : ops[i]? = some o) :
    (∀ cs b, o.op ≠ .select cs b) ∧ (∀ e ∈ o.after, Region.binds .any e = true → e.on < i) ∧
    ∀ j ∈ qs, ∃ oj d, ops[j]? = some oj ∧ oj.dst = some d ∧ (i = j ∨ o.dst ≠ some d) ∧ (d ∈ o.looksAt ops → afterHas o j = true) := by
  have hi : i < ops.size := by
    rcases Nat.lt_or_ge i ops.size with k | k
    · exact k
    · rw [Array.getElem?_eq_none k] at ho; cases ho
  have := List.all_eq_true.1 h i (List.mem_range.2 hi)
  rw [opAt_eq, ho] at this
  simp only [Bool.and_eq_true] at this
  obtain ⟨⟨h1, h2⟩, h3⟩ := this
  refine ⟨?_, ?_, ?_⟩
  · intro cs b e; rw [e] at h1; cases h1
  · intro e he hb
    have := List.all_eq_true.1 h2 e (Array.mem_toList_iff.2 he)
    rw [hb] at this
    simpa using this
  · intro j hj
    have := List.all_eq_true.1 h3 j hj
    rw [opAt_eq] at this
    cases hoj : ops[j]? with
    | none => rw [hoj] at this; cases this
    | some oj =>
      rw [hoj] at this
      dsimp only at this
      cases hd : oj.dst with
      | none => rw [hd] at this; cases this
      | some d =>
        rw [hd] at this
        simp only [Bool.and_eq_true, Bool.or_eq_true, beq_iff_eq, Bool.not_eq_true', List.contains_eq_mem, decide_eq_false_iff_not] at this
        refine ⟨oj, d, rfl, hd, this.1.imp id (fun e e' => by rw [e'] at e; simp at e), fun hm => this.2.resolve_left (fun e => e hm)⟩
end

/-- The state in which all that is held back has been done. -/
def comp (ops : Array Oper) (listed : Array Bool) : List (Nat × Value) → Act → Act
  | [], a => a
  | (i, v) :: r, a => if listed.getD i false then comp ops listed r a else (comp ops listed r a).put ((ops[i]?).bind (·.dst)) v

section
variable {ops : Array Oper} {listed : Array Bool}
theorem comp_put {d : Nat} {v : Value} : ∀ {pend : List (Nat × Value)} {a : Act}, (∀ q ∈ pend, listed.getD q.1 false = false → (ops[q.1]?).bind (·.dst) ≠ some d) →
    comp ops listed pend (a.put (some d) v) = (comp ops listed pend a).put (some d) v
  | [], a, _ => rfl
  | (i, u) :: r, a, h => by
    unfold comp
    rw [comp_put (pend := r) (fun q hq => h q (List.mem_cons_of_mem _ hq))]
    cases hl : listed.getD i false with
    | true => simp
    | false =>
      simp only [Bool.false_eq_true, if_false]
      exact Act.put_comm _ v u (fun e he => by cases he; exact h (i, u) (List.mem_cons_self ..) hl)
theorem comp_eval {o : Oper} (hs : ∀ cs b, o.op ≠ .select cs b) : ∀ {pend : List (Nat × Value)} {a : Act}, (∀ q ∈ pend, listed.getD q.1 false = false → ∀ d, (ops[q.1]?).bind (·.dst) = some d → d ∉ o.looksAt ops) →
    execOp (comp ops listed pend a).eval o = execOp a.eval o ∧ Region.wanted o (yielded ops (comp ops listed pend a).tmps) = Region.wanted o (yielded ops a.tmps)
  | [], a, _ => ⟨rfl, rfl⟩
  | (i, u) :: r, a, h => by
    have ih := comp_eval hs (pend := r) (a := a) (fun q hq => h q (List.mem_cons_of_mem _ hq))
    unfold comp
    cases hl : listed.getD i false with
    | true => simpa using ih
    | false =>
      simp only [Bool.false_eq_true, if_false]
      have hh := h (i, u) (List.mem_cons_self ..) hl
      rw [execOp_put o hs _ _ u hh, wanted_put o _ _ u hh]
      exact ih
theorem comp_listed {i : Nat} (hi : i < listed.size) : ∀ {pend : List (Nat × Value)} {a : Act}, (∀ q ∈ pend, q.1 ≠ i) → comp ops (listed.setIfInBounds i true) pend a = comp ops listed pend a
  | [], a, _ => rfl
  | (j, u) :: r, a, h => by
    unfold comp
    have hj : j ≠ i := h (j, u) (List.mem_cons_self ..)
    rw [comp_listed hi (pend := r) (fun q hq => h q (List.mem_cons_of_mem _ hq))]
    have : (listed.setIfInBounds i true).getD j false = listed.getD j false := by
      simp only [Array.getD_eq_getD_getElem?, Array.getElem?_setIfInBounds]
      rw [if_neg (by omega)]
    rw [this]
theorem comp_step {i d : Nat} {v : Value} (hi : i < listed.size) (hl : listed.getD i false = false) (hd : (ops[i]?).bind (·.dst) = some d) : ∀ {pend : List (Nat × Value)} {a : Act}, (pend.map (·.1)).Nodup → (i, v) ∈ pend →
    (∀ q ∈ pend, q.1 ≠ i → (ops[q.1]?).bind (·.dst) ≠ some d) →
    comp ops (listed.setIfInBounds i true) pend (a.put (some d) v) = comp ops listed pend a
  | [], a, _, h, _ => by cases h
  | (j, u) :: r, a, hn, h, hq => by
    simp only [List.map_cons, List.nodup_cons] at hn
    by_cases hj : j = i
    · subst hj
      have hu : u = v := by
        rcases List.mem_cons.1 h with e | e
        · cases e; rfl
        · exact absurd (List.mem_map.2 ⟨(j, v), e, rfl⟩) hn.1
      subst hu
      have hne : ∀ q ∈ r, q.1 ≠ j := fun q hq e => hn.1 (e ▸ List.mem_map.2 ⟨q, hq, rfl⟩)
      have h1 : (listed.setIfInBounds j true).getD j false = true := by simp [Array.getD_eq_getD_getElem?, hi]
      unfold comp
      rw [h1, hl, comp_listed hi hne, comp_put (fun q hq' _ => hq q (List.mem_cons_of_mem _ hq') (hne q hq')), hd]
      simp
    · have h1 : (listed.setIfInBounds i true).getD j false = listed.getD j false := by
        simp only [Array.getD_eq_getD_getElem?, Array.getElem?_setIfInBounds]
        rw [if_neg (by omega)]
      unfold comp
      rw [h1, comp_step hi hl hd hn.2 ((List.mem_cons.1 h).resolve_left (fun e => hj (by cases e; rfl))) (fun q hq' => hq q (List.mem_cons_of_mem _ hq'))]
theorem comp_all : ∀ {pend : List (Nat × Value)} {a : Act}, (∀ q ∈ pend, listed.getD q.1 false = true) → comp ops listed pend a = a
  | [], a, _ => rfl
  | (j, u) :: r, a, h => by
    unfold comp
    rw [h (j, u) (List.mem_cons_self ..), comp_all (fun q hq => h q (List.mem_cons_of_mem _ hq))]
    simp
theorem comp_filter {f : Nat × Value → Bool} : ∀ {pend : List (Nat × Value)} {a : Act}, (∀ q ∈ pend, f q = false → listed.getD q.1 false = true) → comp ops listed (pend.filter f) a = comp ops listed pend a
  | [], a, _ => rfl
  | (j, u) :: r, a, h => by
    have ih := comp_filter (f := f) (pend := r) (a := a) (fun q hq => h q (List.mem_cons_of_mem _ hq))
    rw [List.filter_cons]
    split
    · unfold comp; rw [ih]
    · rename_i hf
      have := h (j, u) (List.mem_cons_self ..) (by simpa using hf)
      rw [ih]
      conv => rhs; unfold comp
      rw [this]; simp
end

def unl (ops : Array Oper) (listed : Array Bool) : Nat := ((List.range ops.size).filter fun i => !listed.getD i false).length
structure Rel (C : Cx) (ops : Array Oper) (qs vl : List Nat) (pend : List (Nat × Value)) (m : Env) (L : List Assn) (listed : Array Bool) (a : Act) (w : World) : Prop where
  size : listed.size = ops.size
  sub : ∀ i, listed.getD i false = true → i ∈ vl
  held : ∀ i ∈ vl, i < ops.size → listed.getD i false = false → ∃ v, (i, v) ∈ pend
  env : EnvOK C.n m C.ds (comp ops listed pend a)
  st : St C.W w L
/-- What is held back may be done at any time. -/
structure PendOK (C : Cx) (ops : Array Oper) (qs vl : List Nat) (pend : List (Nat × Value)) (m : Env) (L : List Assn) : Prop where
  nodup : (pend.map (·.1)).Nodup
  inVl : ∀ q ∈ pend, q.1 ∈ vl
  quiet : ∀ q ∈ pend, q.1 ∈ qs
  does : ∀ q ∈ pend, ∃ o, opAt ops q.1 = some o ∧ Does C ops m L o (fun _ : Unit => q.2) (fun _ => L)
def RA (C : Cx) (ops : Array Oper) (Q : Post) (qs vl : List Nat) (pend : List (Nat × Value)) (m : Env) (L : List Assn) : Prop :=
  ∀ fuel listed a w, unl ops listed ≤ fuel → Rel C ops qs vl pend m L listed a w → wpAny C.P .any ops Q fuel listed a w

section
variable {C : Cx} {c : Code} {ops : Array Oper} {Q : Post} {qs vl : List Nat} {pend : List (Nat × Value)} {m : Env} {L : List Assn}
theorem unl_step {listed : Array Bool} {i : Nat} (hs : listed.size = ops.size) (hi : i < ops.size) (hl : listed.getD i false = false) : unl ops (listed.setIfInBounds i true) + 1 ≤ unl ops listed := by
  unfold unl
  have hsub : ∀ j, (!(listed.setIfInBounds i true).getD j false) = true → (!listed.getD j false) = true ∧ j ≠ i := by
    intro j hj
    by_cases e : i = j
    · subst e
      simp [Array.getD_eq_getD_getElem?, hs, hi] at hj
    · simp only [Array.getD_eq_getD_getElem?, Array.getElem?_setIfInBounds, if_neg e] at hj ⊢
      exact ⟨hj, fun e' => e e'.symm⟩
  have h1 : ∀ l : List Nat, l.Nodup → (l.filter fun j => !(listed.setIfInBounds i true).getD j false).length + (if i ∈ l then 1 else 0) ≤ (l.filter fun j => !listed.getD j false).length := by
    intro l
    induction l with
    | nil => simp
    | cons x l ih =>
      intro hn
      simp only [List.nodup_cons] at hn
      have ih' := ih hn.2
      simp only [List.filter_cons, List.mem_cons]
      by_cases hx : i = x
      · subst hx
        have hnil : ¬ i ∈ l := hn.1
        rw [if_neg hnil] at ih'
        have e1 : (!(listed.setIfInBounds i true).getD i false) = false := by simp [Array.getD_eq_getD_getElem?, hs, hi]
        rw [e1, hl]
        simp only [Bool.not_false, Bool.false_eq_true, if_false, if_true, List.length_cons, true_or]
        omega
      · have e1 : (!(listed.setIfInBounds i true).getD x false) = (!listed.getD x false) := by
          simp only [Array.getD_eq_getD_getElem?, Array.getElem?_setIfInBounds, if_neg hx]
        rw [e1]
        simp only [hx, false_or]
        split
        · simp only [List.length_cons]; omega
        · omega
  have := h1 (List.range ops.size) List.nodup_range
  rw [if_pos (List.mem_range.2 hi)] at this
  exact this
theorem all_listed {listed : Array Bool} (h : unl ops listed = 0) {i : Nat} (hi : i < ops.size) : listed.getD i false = true := by
  unfold unl at h
  have := List.eq_nil_of_length_eq_zero h
  rw [List.filter_eq_nil_iff] at this
  have := this i (List.mem_range.2 hi)
  simpa using this
theorem ready_mem {listed : Array Bool} (hs : listed.size = ops.size) {i : Nat} (h : i ∈ Region.ready .any ops listed) : i < ops.size ∧ listed.getD i false = false ∧ ∃ o, ops[i]? = some o ∧ ∀ j, afterHas o j = true → listed.getD j false = true := by
  unfold Region.ready at h
  obtain ⟨h1, h2⟩ := List.mem_filter.1 h
  have hi := List.mem_range.1 h1
  simp only [Bool.and_eq_true, Bool.not_eq_true'] at h2
  obtain ⟨h3, h4⟩ := h2
  refine ⟨hi, ?_, ?_⟩
  · simp only [Array.getD_eq_getD_getElem?] at h3 ⊢
    rw [Array.getElem?_eq_getElem (by omega)] at h3 ⊢
    exact h3
  · rw [Array.getElem?_eq_getElem hi] at h4 ⊢
    refine ⟨_, rfl, fun j hj => ?_⟩
    simp only [Option.map_some, Option.getD_some] at h4
    unfold afterHas at hj
    obtain ⟨e, he, hb⟩ := List.any_eq_true.1 hj
    simp only [Bool.and_eq_true, beq_iff_eq] at hb
    have := Array.all_eq_true'.1 h4 e (Array.mem_toList_iff.1 he)
    rw [hb.1, hb.2] at this
    simpa using this
theorem ready_nil (hc : chk ops qs = true) {listed : Array Bool} (hs : listed.size = ops.size) (h : Region.ready .any ops listed = []) : ∀ i, i < ops.size → listed.getD i false = true := by
  intro i
  induction i using Nat.strongRecOn with
  | _ i ih =>
    intro hi
    cases hl : listed.getD i false with
    | true => rfl
    | false =>
      exfalso
      have : i ∈ Region.ready .any ops listed := by
        unfold Region.ready
        refine List.mem_filter.2 ⟨List.mem_range.2 hi, ?_⟩
        simp only [Bool.and_eq_true, Bool.not_eq_true']
        have h3 : listed.getD i true = false := by
          simp only [Array.getD_eq_getD_getElem?] at hl ⊢
          rw [Array.getElem?_eq_getElem (by omega)] at hl ⊢
          exact hl
        refine ⟨h3, ?_⟩
        rw [Array.getElem?_eq_getElem hi]
        simp only [Option.map_some, Option.getD_some]
        refine Array.all_eq_true'.2 fun e he => ?_
        cases hb : Region.binds .any e with
        | false => rfl
        | true =>
          have hlt := (chk_op hc (Array.getElem?_eq_getElem hi)).2.1 e he hb
          rw [ih e.on hlt (by omega)]; rfl
      rw [h] at this; cases this
theorem opAt_some {i : Nat} {o : Oper} : opAt ops i = some o ↔ ops[i]? = some o := by rw [opAt_eq]

/-- One that was held back is done. -/
theorem pend_step (hc : chk ops qs = true) (hp : PendOK C ops qs vl pend m L) {listed : Array Bool} {a : Act} {w : World} (hr : Rel C ops qs vl pend m L listed a w) {i : Nat} (hi : i ∈ Region.ready .any ops listed) (hv : i ∈ vl)
    {K : Act → World → Prop} (hK : ∀ a' w', Rel C ops qs vl pend m L (listed.setIfInBounds i true) a' w' → K a' w') : wpOp C.P ops Q i K a w := by
  obtain ⟨hi1, hi2, o, ho, haft⟩ := ready_mem hr.size hi
  obtain ⟨v, hv'⟩ := hr.held i hv hi1 hi2
  obtain ⟨o', ho', hD⟩ := hp.does _ hv'
  rw [opAt_some] at ho'
  rw [ho] at ho'; cases ho'
  obtain ⟨hsel, _, hq⟩ := chk_op hc ho
  obtain ⟨_, d, e1, hd, _, _⟩ := hq i (hp.quiet _ hv')
  rw [ho] at e1; cases e1
  have hlook : ∀ q ∈ pend, listed.getD q.1 false = false → ∀ d, (ops[q.1]?).bind (·.dst) = some d → d ∉ o.looksAt ops := by
    intro q hqp hql dq hdq hmem
    obtain ⟨oj, dj, f1, f2, _, f4⟩ := hq q.1 (hp.quiet _ hqp)
    rw [f1] at hdq
    simp only [Option.bind_some, f2, Option.some.injEq] at hdq
    subst hdq
    have := haft _ (f4 hmem)
    rw [this] at hql; cases hql
  obtain ⟨ev1, ev2⟩ := comp_eval (listed := listed) hsel (pend := pend) (a := a) hlook
  have hdd : (ops[i]?).bind (·.dst) = some d := by rw [ho]; exact hd
  have hdist : ∀ q ∈ pend, q.1 ≠ i → (ops[q.1]?).bind (·.dst) ≠ some d := by
    intro q hqp hne
    obtain ⟨oj, dj, f1, f2, f3, _⟩ := hq q.1 (hp.quiet _ hqp)
    rw [f1]
    simp only [Option.bind_some, f2]
    intro e; cases e
    rcases f3 with f3 | f3
    · exact hne f3.symm
    · exact f3 hd
  have hfin : ∀ w', St C.W w' L → Rel C ops qs vl pend m L (listed.setIfInBounds i true) (a.put (some d) v) w' := by
    intro w' hs'
    refine ⟨by simp [hr.size], ?_, ?_, ?_, hs'⟩
    · intro j hj
      by_cases e : i = j
      · subst e; exact hv
      · refine hr.sub j ?_
        simpa only [Array.getD_eq_getD_getElem?, Array.getElem?_setIfInBounds, if_neg e] using hj
    · intro j hj hjs hjl
      by_cases e : i = j
      · subst e; exact ⟨v, hv'⟩
      · refine hr.held j hj hjs ?_
        simpa only [Array.getD_eq_getD_getElem?, Array.getElem?_setIfInBounds, if_neg e] using hjl
    · rw [comp_step (by rw [hr.size]; exact hi1) hi2 hdd hp.nodup hv' hdist]
      exact hr.env
  unfold wpOp
  simp only [ho]
  rcases hD _ w hr.env hr.st with ⟨hw, h1⟩ | ⟨hw, _, hvv, hs'⟩
  · rw [ev2] at hw
    rw [ev1] at h1
    rw [if_pos hw]
    left
    rcases h1 with ⟨_, w', h1, hs'⟩ | ⟨_, w', h1, hvv, hs'⟩ | ⟨f, args, h1, hcall⟩
    · simp only [Oper.wp, h1, Oper.upon, hd]; exact hK _ _ (hfin w' hs')
    · simp only [Oper.wp, h1, Oper.upon, hd]; rw [← hvv]; exact hK _ _ (hfin w' hs')
    · simp only [Oper.wp, h1, Oper.upon, hd]
      refine hcall.mono ?_
      rintro e w' ⟨_, rfl, hs'⟩
      exact hK _ _ (hfin w' hs')
  · rw [ev2] at hw
    simp only [hw, Bool.false_eq_true, if_false, hd]
    rw [← hvv]; exact hK _ _ (hfin w hs')

theorem RA.done (hc : chk ops qs = true) (hp : PendOK C ops qs vl pend m L) (hall : (List.range ops.size).all (fun i => vl.contains i) = true) (h : TQ C .normal Q m L) : RA C ops Q qs vl pend m L := by
  have hcov : ∀ i, i < ops.size → i ∈ vl := fun i hi => by
    have := List.all_eq_true.1 hall i (List.mem_range.2 hi)
    simpa using this
  have hend : ∀ listed a w, Rel C ops qs vl pend m L listed a w → (∀ i, i < ops.size → listed.getD i false = true) → Q .normal a w := by
    intro listed a w hr hal
    have := hr.env
    rw [comp_all (fun q hq => hal q.1 (by
      obtain ⟨o, ho, _⟩ := hp.does q hq
      rw [opAt_some] at ho
      rcases Nat.lt_or_ge q.1 ops.size with k | k
      · exact k
      · rw [Array.getElem?_eq_none k] at ho; cases ho))] at this
    exact h a w this hr.st
  intro fuel
  induction fuel with
  | zero =>
    intro listed a w hu hr
    have hal : ∀ i, i < ops.size → listed.getD i false = true := fun i hi => all_listed (by omega) hi
    refine ⟨?_, hend _ _ _ hr hal⟩
    cases hrd : Region.ready .any ops listed with
    | nil => rfl
    | cons x xs =>
      obtain ⟨h1, h2, _⟩ := ready_mem hr.size (i := x) (by rw [hrd]; exact List.mem_cons_self ..)
      rw [hal x h1] at h2; cases h2
  | succ fuel ih =>
    intro listed a w hu hr
    refine ⟨fun hrd => hend _ _ _ hr (ready_nil hc hr.size hrd), fun i hi => ?_⟩
    obtain ⟨h1, h2, _⟩ := ready_mem hr.size hi
    refine pend_step hc hp hr hi (hcov i h1) fun a' w' hr' => ih _ _ _ ?_ hr'
    have := unl_step hr.size h1 h2
    omega

theorem Does.more {X : Type} {o : Oper} {v : X → Value} {L' : X → List Assn} {d : Nat} {u : Value} (D : Does C ops m L o v L') (hf : look m d = none) : Does C ops ((d, u) :: m) L o v L' := fun a w ha hs =>
  D a w (ha.sub fun s z hz => by
    rw [look_cons, if_neg (by intro e; subst e; rw [hf] at hz; cases hz)]; exact hz) hs

/-- A quiet operation, held back from now on. -/
theorem RA.quiet {i d : Nat} {o : Oper} {v : Value} (hp : PendOK C ops qs vl pend m L) (ho : opAt ops i = some o) (hd : o.dst = some d) (hdn : Nat.blt d C.n = true) (hv : vl.contains i = false) (hq : qs.contains i = true)
    (hf : look m d = none) (D : Does C ops m L o (fun _ : Unit => v) (fun _ => L))
    (h : PendOK C ops qs (i :: vl) ((i, v) :: pend) ((d, v) :: m) L → RA C ops Q qs (i :: vl) ((i, v) :: pend) ((d, v) :: m) L) : RA C ops Q qs vl pend m L := by
  have ho' := opAt_some.1 ho
  have hvn : i ∉ vl := by simpa using hv
  have hpn : ∀ q ∈ pend, q.1 ≠ i := fun q hq e => hvn (e ▸ hp.inVl q hq)
  have hdn' : d < C.n := by simpa [Nat.blt_eq] using hdn
  have hp' : PendOK C ops qs (i :: vl) ((i, v) :: pend) ((d, v) :: m) L := by
    refine ⟨?_, ?_, ?_, ?_⟩
    · simp only [List.map_cons, List.nodup_cons]
      refine ⟨fun hm => ?_, hp.nodup⟩
      obtain ⟨q, hq, e⟩ := List.mem_map.1 hm
      exact hpn q hq e
    · intro q hq
      rcases List.mem_cons.1 hq with e | e
      · subst e; exact List.mem_cons_self ..
      · exact List.mem_cons_of_mem _ (hp.inVl q e)
    · intro q hq'
      rcases List.mem_cons.1 hq' with e | e
      · subst e; simpa using hq
      · exact hp.quiet q e
    · intro q hq
      rcases List.mem_cons.1 hq with e | e
      · subst e; exact ⟨o, ho, D.more hf⟩
      · obtain ⟨o', h1, h2⟩ := hp.does q e
        exact ⟨o', h1, h2.more hf⟩
  intro fuel listed a w hu hr
  have hli : listed.getD i false = false := by
    cases e : listed.getD i false with
    | false => rfl
    | true => exact absurd (hr.sub i e) hvn
  refine h hp' fuel listed a w hu ⟨hr.size, fun j hj => List.mem_cons_of_mem _ (hr.sub j hj), ?_, ?_, hr.st⟩
  · intro j hj hjs hjl
    rcases List.mem_cons.1 hj with e | e
    · subst e; exact ⟨v, List.mem_cons_self ..⟩
    · obtain ⟨u, hu'⟩ := hr.held j e hjs hjl
      exact ⟨u, List.mem_cons_of_mem _ hu'⟩
  · unfold comp
    rw [hli, ho']
    simp only [Bool.false_eq_true, if_false, Option.bind_some, hd]
    exact hr.env.put hdn' v

def afterIn (ops : Array Oper) (vl : List Nat) (i : Nat) : Bool := match opAt ops i with
  | some o => o.after.toList.all fun e => !Region.binds .any e || vl.contains e.on
  | none => false
def soleEff (ops : Array Oper) (vl : List Nat) (k : Nat) : Bool := (List.range ops.size).all fun i => vl.contains i || i == k || !afterIn ops vl i
theorem keep_filter {o : Oper} {pend : List (Nat × Value)} {listed : Array Bool} (haft : ∀ j, afterHas o j = true → listed.getD j false = true) {k : Nat} (hk : k < listed.size) (hpn : ∀ q ∈ pend, q.1 ≠ k) (a : Act) :
    comp ops (listed.setIfInBounds k true) (pend.filter fun q => !afterHas o q.1) a = comp ops listed pend a := by
  rw [comp_listed hk (fun q hq => hpn q (List.mem_filter.1 hq).1)]
  exact comp_filter (fun q _ hf => haft _ (by simpa using hf))
def soleEffs (ops : Array Oper) (vl ks : List Nat) : Bool := (List.range ops.size).all fun i => vl.contains i || ks.contains i || !afterIn ops vl i
/-- An effect that may come next, and what comes then. -/
def EffOK (C : Cx) (ops : Array Oper) (Q : Post) (qs vl : List Nat) (pend : List (Nat × Value)) (m : Env) (L : List Assn) (k : Nat) : Prop :=
  ∃ (o : Oper) (X : Type) (v : X → Value) (L' : X → List Assn) (m' : X → Env) (pend' : List (Nat × Value)), opAt ops k = some o ∧
    ((∃ d, o.dst = some d ∧ Nat.blt d C.n = true ∧ ∀ x, m' x = (d, v x) :: m) ∨ (o.dst = none ∧ ∀ x, m' x = m)) ∧ vl.contains k = false ∧ Does C ops m L o v L' ∧ (pend.filter fun q => !afterHas o q.1) = pend' ∧
    (∀ x, ∀ q ∈ pend', ∃ o, opAt ops q.1 = some o ∧ Does C ops (m' x) (L' x) o (fun _ : Unit => q.2) (fun _ => L' x)) ∧
    ∀ x, PendOK C ops qs (k :: vl) pend' (m' x) (L' x) → RA C ops Q qs (k :: vl) pend' (m' x) (L' x)
theorem RA.effs (ks : List Nat) (hc : chk ops qs = true) (hp : PendOK C ops qs vl pend m L) (hne : ks ≠ []) (hsole : soleEffs ops vl ks = true) (hE : ∀ k ∈ ks, EffOK C ops Q qs vl pend m L k) : RA C ops Q qs vl pend m L := by
  have hks : ∀ k ∈ ks, k < ops.size ∧ k ∉ vl := by
    intro k hk
    obtain ⟨o, X, v, L', m', pend', ho, _, hv, _⟩ := hE k hk
    have ho' := opAt_some.1 ho
    refine ⟨?_, by simpa using hv⟩
    rcases Nat.lt_or_ge k ops.size with q | q
    · exact q
    · rw [Array.getElem?_eq_none q] at ho'; cases ho'
  obtain ⟨k0, hk0⟩ := List.exists_mem_of_ne_nil ks hne
  intro fuel
  induction fuel with
  | zero =>
    intro listed a w hu hr
    exact absurd (hr.sub k0 (all_listed (by omega) (hks k0 hk0).1)) (hks k0 hk0).2
  | succ fuel ih =>
    intro listed a w hu hr
    refine ⟨fun hrd => ?_, fun i hi => ?_⟩
    · exact absurd (hr.sub k0 (ready_nil hc hr.size hrd k0 (hks k0 hk0).1)) (hks k0 hk0).2
    · obtain ⟨hi1, hi2, oi, hoi, haft⟩ := ready_mem hr.size hi
      have hun := unl_step hr.size hi1 hi2
      by_cases hiv : i ∈ vl
      · exact pend_step hc hp hr hi hiv fun a' w' hr' => ih _ _ _ (by omega) hr'
      · have hik : i ∈ ks := by
          have := List.all_eq_true.1 hsole i (List.mem_range.2 hi1)
          simp only [Bool.or_eq_true, Bool.not_eq_true', List.contains_eq_mem, decide_eq_true_eq] at this
          rcases this with (e | e) | e
          · exact absurd e hiv
          · exact e
          · exfalso
            unfold afterIn at e
            rw [opAt_some.2 hoi] at e
            rw [List.all_eq_false] at e
            obtain ⟨ed, he, hf⟩ := e
            simp only [Bool.or_eq_true, Bool.not_eq_true', List.contains_eq_mem, decide_eq_true_eq, not_or] at hf
            have hb : Region.binds .any ed = true := by simpa using hf.1
            have : afterHas oi ed.on = true := List.any_eq_true.2 ⟨ed, he, by simp [hb]⟩
            exact hf.2 (hr.sub _ (haft _ this))
        obtain ⟨o, X, v, L', m', pend', ho, hd, hv, D, hpe, hre, h⟩ := hE i hik
        have ho' := opAt_some.1 ho
        have hpn : ∀ q ∈ pend, q.1 ≠ i := fun q hq e => (hks i hik).2 (e ▸ hp.inVl q hq)
        subst hpe
        obtain ⟨hsel, _, hqs⟩ := chk_op hc ho'
        have eo : o = oi := by rw [ho'] at hoi; exact Option.some.inj hoi
        subst eo
        have hlook : ∀ q ∈ pend, listed.getD q.1 false = false → ∀ d, (ops[q.1]?).bind (·.dst) = some d → d ∉ o.looksAt ops := by
          intro q hqp hql dq hdq hmem
          obtain ⟨oj, dj, f1, f2, _, f4⟩ := hqs q.1 (hp.quiet _ hqp)
          rw [f1] at hdq
          simp only [Option.bind_some, f2, Option.some.injEq] at hdq
          subst hdq
          have := haft _ (f4 hmem)
          rw [this] at hql; cases hql
        obtain ⟨ev1, ev2⟩ := comp_eval (listed := listed) hsel (pend := pend) (a := a) hlook
        have hP : ∀ x, PendOK C ops qs (i :: vl) (pend.filter fun q => !afterHas o q.1) (m' x) (L' x) := fun x => by
          refine ⟨?_, ?_, ?_, hre x⟩
          · exact (List.filter_sublist.map _).nodup hp.nodup
          · intro q hq; exact List.mem_cons_of_mem _ (hp.inVl q (List.mem_filter.1 hq).1)
          · intro q hq; exact hp.quiet q (List.mem_filter.1 hq).1
        have hfin : ∀ x w', St C.W w' (L' x) → wpAny C.P .any ops Q fuel (listed.setIfInBounds i true) (a.put o.dst (v x)) w' := by
          intro x w' hs'
          refine h x (hP x) _ _ _ _ (by omega) ⟨by simp [hr.size], ?_, ?_, ?_, hs'⟩
          · intro j hj
            by_cases e : i = j
            · subst e; exact List.mem_cons_self ..
            · refine List.mem_cons_of_mem _ (hr.sub j ?_)
              simpa only [Array.getD_eq_getD_getElem?, Array.getElem?_setIfInBounds, if_neg e] using hj
          · intro j hj hjs hjl
            by_cases e : i = j
            · subst e
              simp [Array.getD_eq_getD_getElem?, hr.size, hi1] at hjl
            · have hjl' : listed.getD j false = false := by simpa only [Array.getD_eq_getD_getElem?, Array.getElem?_setIfInBounds, if_neg e] using hjl
              obtain ⟨u, hu'⟩ := hr.held j ((List.mem_cons.1 hj).resolve_left (fun e' => e e'.symm)) hjs hjl'
              refine ⟨u, List.mem_filter.2 ⟨hu', ?_⟩⟩
              cases haf : afterHas o j with
              | false => simp [haf]
              | true => rw [haft j haf] at hjl'; cases hjl'
          · rw [keep_filter haft (by rw [hr.size]; exact hi1) hpn]
            rcases hd with ⟨d, hd, hdn, hm⟩ | ⟨hd, hm⟩
            · rw [hd, comp_put, hm]
              · exact hr.env.put (by simpa [Nat.blt_eq] using hdn) _
              · intro q hqp _
                obtain ⟨oj, dj, f1, f2, f3, _⟩ := hqs q.1 (hp.quiet _ hqp)
                rw [f1]
                simp only [Option.bind_some, f2]
                intro e; cases e
                rcases f3 with f3 | f3
                · exact hpn q hqp f3.symm
                · exact f3 hd
            · rw [hd, hm]; exact hr.env
        unfold wpOp
        simp only [ho']
        rcases D _ w hr.env hr.st with ⟨hw, h1⟩ | ⟨hw, x, hvv, hs'⟩
        · rw [ev2] at hw
          rw [ev1] at h1
          rw [if_pos hw]
          left
          rcases h1 with ⟨x, w', h1, hs'⟩ | ⟨x, w', h1, hvv, hs'⟩ | ⟨f, args, h1, hcall⟩
          · simp only [Oper.wp, h1, Oper.upon]; exact hfin x w' hs'
          · simp only [Oper.wp, h1, Oper.upon]; rw [← hvv]; exact hfin x w' hs'
          · simp only [Oper.wp, h1, Oper.upon]
            refine hcall.mono ?_
            rintro e w' ⟨x, rfl, hs'⟩
            exact hfin x w' hs'
        · rw [ev2] at hw
          simp only [hw, Bool.false_eq_true, if_false]
          rw [← hvv]; exact hfin x w hs'
/-- The one effect that may come next. -/
theorem RA.eff {X : Type} {k : Nat} {o : Oper} {v : X → Value} {L' : X → List Assn} {pend' : List (Nat × Value)} {m' : X → Env} (hc : chk ops qs = true) (hp : PendOK C ops qs vl pend m L) (ho : opAt ops k = some o)
    (hd : (∃ d, o.dst = some d ∧ Nat.blt d C.n = true ∧ ∀ x, m' x = (d, v x) :: m) ∨ (o.dst = none ∧ ∀ x, m' x = m)) (hv : vl.contains k = false) (hsole : soleEffs ops vl [k] = true)
    (D : Does C ops m L o v L') (hpe : (pend.filter fun q => !afterHas o q.1) = pend')
    (hre : ∀ x, ∀ q ∈ pend', ∃ o, opAt ops q.1 = some o ∧ Does C ops (m' x) (L' x) o (fun _ : Unit => q.2) (fun _ => L' x))
    (h : ∀ x, PendOK C ops qs (k :: vl) pend' (m' x) (L' x) → RA C ops Q qs (k :: vl) pend' (m' x) (L' x)) : RA C ops Q qs vl pend m L :=
  RA.effs [k] hc hp (by simp) hsole fun k' hk' => by
    rcases List.mem_singleton.1 hk' with rfl
    exact ⟨o, X, v, L', m', pend', ho, hd, hv, D, hpe, hre, h⟩
theorem EffOK.mk {X : Type} {k : Nat} {o : Oper} {v : X → Value} {L' : X → List Assn} {pend' : List (Nat × Value)} {m' : X → Env} (ho : opAt ops k = some o)
    (hd : (∃ d, o.dst = some d ∧ Nat.blt d C.n = true ∧ ∀ x, m' x = (d, v x) :: m) ∨ (o.dst = none ∧ ∀ x, m' x = m)) (hv : vl.contains k = false)
    (D : Does C ops m L o v L') (hpe : (pend.filter fun q => !afterHas o q.1) = pend')
    (hre : ∀ x, ∀ q ∈ pend', ∃ o, opAt ops q.1 = some o ∧ Does C ops (m' x) (L' x) o (fun _ : Unit => q.2) (fun _ => L' x))
    (h : ∀ x, PendOK C ops qs (k :: vl) pend' (m' x) (L' x) → RA C ops Q qs (k :: vl) pend' (m' x) (L' x)) : EffOK C ops Q qs vl pend m L k :=
  ⟨o, X, v, L', m', pend', ho, hd, hv, D, hpe, hre, h⟩
theorem PendOK.nil : PendOK C ops qs vl [] m L := ⟨by simp, by simp, by simp, by simp⟩
theorem T.draw (qs : List Nat) (k : kd c = .draw) (hm : C.P.follows .mixedOrders = true) (h : RA C (cOps c) Q qs [] [] m L) : T C c Q m L := fun a w ha hs => by
  rw [kd_draw k]
  refine wp_region_any hm (h _ _ _ _ ?_ ⟨by simp, ?_, by simp, ha, hs.keep ⟨rfl, rfl, rfl⟩ (Le.refl _)⟩)
  · unfold unl
    exact Nat.le_trans (List.length_filter_le _ _) (by simp)
  · intro i hi
    simp [Array.getD_eq_getD_getElem?, Array.getElem?_replicate] at hi
    split at hi <;> simp at hi
end
end Go.Sym
