/- Rules for single operations over owned memory; no program in sight. -/
import Derived.Test.YtfonekhhbmlkbaaS2
import Derived.Laws.Strings
import Derived.Laws.Concat
set_option linter.unusedVariables false
set_option linter.unusedSimpArgs false
namespace Go.Sym
open Go

/-! ## Closed facts about types -/
def scalD : TypeDesc → Bool
  | .struct _ | .array .. => false
  | _ => true
def scal (P : Program) (t : TypeId) : Bool := match P.underlying t with
  | some d => scalD d
  | none => false
def aggN (P : Program) (t : TypeId) : Option Nat := match P.underlying t with
  | some (.struct _) | some (.array ..) => (P.info? t).map (·.size)
  | _ => none
def cellsN (P : Program) (t : TypeId) : Option Nat := (P.info? t).map (·.size)
def fldOff (P : Program) (s : TypeId) (f : Nat) : Option Nat := match P.underlying s with
  | some (.struct fs) => match fs[f]? with
    | some g => match P.info? g.type with
      | some i => if i.size = 0 then none else some g.offset
      | none => none
    | none => none
  | _ => none
/-- A slice type: its element, the element's cells and bytes. -/
def slN (P : Program) (t : TypeId) : Option (TypeId × Nat × Nat) := match P.underlying t with
  | some (.slice e) => (P.info? e).map fun i => (e, i.size, i.bytes)
  | _ => none
def arN (P : Program) (t : TypeId) : Option (Nat × TypeId × Nat) := match P.underlying t with
  | some (.array n e) => (P.info? e).map fun i => (n, e, i.size)
  | _ => none
def zeroN (P : Program) (t : TypeId) : Option (List Value) := match P.info? t with
  | some i => i.zero.map fun z => z.cells.toList
  | none => none
def isStr (P : Program) (t : TypeId) : Bool := match P.underlying t with
  | some .string => true
  | _ => false

theorem run_isAgg_false {P : Program} {t : TypeId} (h : scal P t = true) (w : World) : (isAgg t).run P w = .ok false w := by
  unfold scal at h
  split at h
  · rename_i d hd
    simp only [isAgg, Sem.run_bind, run_underlying hd, Result.andThen_ok]
    cases d <;> first | rfl | cases h
  · cases h
theorem run_isAgg_true {P : Program} {t : TypeId} {n : Nat} (h : aggN P t = some n) (w : World) : (isAgg t).run P w = .ok true w ∧ (sizeOf t).run P w = .ok n w := by
  unfold aggN at h
  split at h
  · rename_i fs hd
    cases hi : P.info? t with
    | none => rw [hi] at h; cases h
    | some i =>
      rw [hi] at h
      simp only [Option.map_some, Option.some.injEq] at h
      subst h
      exact ⟨by simp [isAgg, run_underlying hd], by simp [sizeOf, typeInfo, hi]⟩
  · rename_i k e hd
    cases hi : P.info? t with
    | none => rw [hi] at h; cases h
    | some i =>
      rw [hi] at h
      simp only [Option.map_some, Option.some.injEq] at h
      subst h
      exact ⟨by simp [isAgg, run_underlying hd], by simp [sizeOf, typeInfo, hi]⟩
  · cases h
theorem run_sizeOf {P : Program} {t : TypeId} {n : Nat} (h : cellsN P t = some n) (w : World) : (sizeOf t).run P w = .ok n w := by
  unfold cellsN at h
  cases hi : P.info? t with
  | none => rw [hi] at h; cases h
  | some i =>
    rw [hi] at h
    simp only [Option.map_some, Option.some.injEq] at h
    subst h
    simp [sizeOf, typeInfo, hi]
theorem slN_out {P : Program} {t e : TypeId} {n y : Nat} (h : slN P t = some (e, n, y)) : P.underlying t = some (.slice e) ∧ ∃ i, P.info? e = some i ∧ i.size = n ∧ i.bytes = y := by
  unfold slN at h
  split at h
  · rename_i e' hd
    cases hi : P.info? e' with
    | none => rw [hi] at h; cases h
    | some i =>
      rw [hi] at h
      simp only [Option.map_some, Option.some.injEq, Prod.mk.injEq] at h
      obtain ⟨rfl, h2, h3⟩ := h
      exact ⟨hd, i, hi, h2, h3⟩
  · cases h
theorem arN_out {P : Program} {t e : TypeId} {k n : Nat} (h : arN P t = some (k, e, n)) : P.underlying t = some (.array k e) ∧ ∃ i, P.info? e = some i ∧ i.size = n := by
  unfold arN at h
  split at h
  · rename_i k' e' hd
    cases hi : P.info? e' with
    | none => rw [hi] at h; cases h
    | some i =>
      rw [hi] at h
      simp only [Option.map_some, Option.some.injEq, Prod.mk.injEq] at h
      obtain ⟨rfl, rfl, h3⟩ := h
      exact ⟨hd, i, hi, h3⟩
  · cases h
theorem isStr_out {P : Program} {t : TypeId} (h : isStr P t = true) : P.underlying t = some .string := by
  unfold isStr at h
  split at h
  · assumption
  · cases h
theorem zeroN_out {P : Program} {t : TypeId} {vs : List Value} (h : zeroN P t = some vs) : ∃ i z, P.info? t = some i ∧ i.zero = some z ∧ z.cells = vs.toArray := by
  unfold zeroN at h
  split at h
  · rename_i i hi
    cases hz : i.zero with
    | none => rw [hz] at h; cases h
    | some z =>
      rw [hz] at h
      simp only [Option.map_some, Option.some.injEq] at h
      exact ⟨i, z, hi, hz, by rw [← h]⟩
  · cases h

/-! ## Plain operations -/
section
variable {C : Cx} {ops : Array Oper} {Q : Post} {i : Nat} {m : Env} {L : List Assn} {d : Nat} {t : TypeId} {p : String} {e : Array Edge} {g : Option (Nat × Bool)}

theorem Does.move {x : Operand} {v : Value} (hw : Want ops m ⟨some d, .move x, t, p, e, g⟩ true) (hx : ev m x = some v) : Does C ops m L ⟨some d, .move x, t, p, e, g⟩ (fun _ : Unit => v) (fun _ => L) :=
  Does.pure hw (fun a w ha _ => by simp only [execOp, ha.ev hx, Sem.run_pure])
theorem Does.assign {x : Operand} {v : Value} (hw : Want ops m ⟨some d, .assign x, t, p, e, g⟩ true) (hx : ev m x = some v) : Does C ops m L ⟨some d, .assign x, t, p, e, g⟩ (fun _ : Unit => v) (fun _ => L) :=
  Does.pure hw (fun a w ha _ => by simp only [execOp, ha.ev hx, Sem.run_pure])
theorem Does.pickT {c x y : Operand} {v : Value} {b : Bool} (hw : Want ops m ⟨some d, .pick c x y, t, p, e, g⟩ true) (hc : ev m c = some (.bool b)) (hb : b = true) (hx : ev m x = some v) : Does C ops m L ⟨some d, .pick c x y, t, p, e, g⟩ (fun _ : Unit => v) (fun _ => L) :=
  Does.pure hw (fun a w ha _ => by subst hb; simp [execOp, ha.ev hc, ha.ev hx, asBool])
theorem Does.pickF {c x y : Operand} {v : Value} {b : Bool} (hw : Want ops m ⟨some d, .pick c x y, t, p, e, g⟩ true) (hc : ev m c = some (.bool b)) (hb : b = false) (hx : ev m y = some v) : Does C ops m L ⟨some d, .pick c x y, t, p, e, g⟩ (fun _ : Unit => v) (fun _ => L) :=
  Does.pure hw (fun a w ha _ => by subst hb; simp [execOp, ha.ev hc, ha.ev hx, asBool])
theorem Does.extract {x : Operand} {k : Nat} {v : Value} {vs : Array Value} (hw : Want ops m ⟨some d, .extract x k, t, p, e, g⟩ true) (hx : ev m x = some (.tuple vs)) (hv : vs[k]? = some v) : Does C ops m L ⟨some d, .extract x k, t, p, e, g⟩ (fun _ : Unit => v) (fun _ => L) :=
  Does.pure hw (fun a w ha _ => by simp [execOp, ha.ev hx, Instr.extract, hv])
theorem Does.nilCheck {x : Operand} {q : Addr} (hw : Want ops m ⟨some d, .nilCheck x, t, p, e, g⟩ true) (hx : ev m x = some (.pointer (some q))) : Does C ops m L ⟨some d, .nilCheck x, t, p, e, g⟩ (fun _ : Unit => .pointer (some q)) (fun _ => L) :=
  Does.pure hw (fun a w ha _ => by simp [execOp, ha.ev hx])
/-- A binary operation, its run given. -/
theorem Does.bin {op : BinOp} {tx ty : TypeId} {x y : Operand} {vx vy v : Value} (hw : Want ops m ⟨some d, .binOp op tx x y ty, t, p, e, g⟩ true)
    (hx : ev m x = some vx) (hy : ev m y = some vy) (hg : ∀ w, (eqGuard op tx x y vx vy).run C.P w = .ok () w) (hr : ∀ w, (binOp op tx vx vy).run C.P w = .ok v w) : Does C ops m L ⟨some d, .binOp op tx x y ty, t, p, e, g⟩ (fun _ : Unit => v) (fun _ => L) :=
  Does.pure hw (fun a w ha _ => by simp [execOp, ha.ev hx, ha.ev hy, hg, hr])
theorem Does.un {op : UnOp} {tx : TypeId} {x : Operand} {vx v : Value} (hw : Want ops m ⟨some d, .unOp op tx x, t, p, e, g⟩ true)
    (hx : ev m x = some vx) (hr : ∀ w, (Op.unary op vx).run C.P w = .ok v w) : Does C ops m L ⟨some d, .unOp op tx x, t, p, e, g⟩ (fun _ : Unit => v) (fun _ => L) :=
  Does.pure hw (fun a w ha _ => by simp [execOp, ha.ev hx, hr])
theorem Does.conv {ts td : TypeId} {x : Operand} {vx v : Value} (hw : Want ops m ⟨some d, .convert ts td x, t, p, e, g⟩ true)
    (hx : ev m x = some vx) (hr : ∀ w, (convert ts td vx).run C.P w = .ok v w) : Does C ops m L ⟨some d, .convert ts td x, t, p, e, g⟩ (fun _ : Unit => v) (fun _ => L) :=
  Does.pure hw (fun a w ha _ => by simp [execOp, ha.ev hx, hr])
def evs (m : Env) : List (Nat × Operand) → Option (List (Nat × Value))
  | [] => some []
  | (k, x) :: r => match ev m x, evs m r with
    | some v, some l => some ((k, v) :: l)
    | _, _ => none
theorem evs_out {n : Nat} {ds : List Deferred} {a : Act} (ha : EnvOK n m ds a) : ∀ {l : List (Nat × Operand)} {r : List (Nat × Value)}, evs m l = some r → l.map (fun q => (q.1, a.eval q.2)) = r
  | [], r, h => by cases h; rfl
  | (k, x) :: l, r, h => by
    unfold evs at h
    split at h
    · rename_i v r' hx hr
      cases h
      simp only [List.map_cons, ha.ev hx, evs_out ha hr]
    · cases h
theorem Does.build {tx : TypeId} {ps : Array (Nat × Operand)} {vs : List (Nat × Value)} {v : Value} (hw : Want ops m ⟨some d, .build tx ps, t, p, e, g⟩ true)
    (hx : evs m ps.toList = some vs) (hr : ∀ w, (Instr.build tx vs.toArray).run C.P w = .ok v w) : Does C ops m L ⟨some d, .build tx ps, t, p, e, g⟩ (fun _ : Unit => v) (fun _ => L) :=
  Does.pure hw (fun a w ha _ => by
    have : (ps.map fun (k, x) => (k, a.eval x)) = vs.toArray := by
      rw [← evs_out ha hx]
      apply Array.ext'
      simp
    simp [execOp, this, hr])
theorem Does.fieldV {tx : TypeId} {x : Operand} {k : Nat} {vx v : Value} (hw : Want ops m ⟨some d, .field tx x k, t, p, e, g⟩ true)
    (hx : ev m x = some vx) (hr : ∀ w, (Instr.field tx vx k).run C.P w = .ok v w) : Does C ops m L ⟨some d, .field tx x k, t, p, e, g⟩ (fun _ : Unit => v) (fun _ => L) :=
  Does.pure hw (fun a w ha _ => by simp [execOp, ha.ev hx, hr])
theorem Does.fieldAddr {s : TypeId} {x : Operand} {f k o o' b : Nat} (hw : Want ops m ⟨some d, .fieldAddr s x f, t, p, e, g⟩ true)
    (hx : ev m x = some (.pointer (some ⟨b, o, none⟩))) (hk : fldOff C.P s f = some k) (ho' : o + k = o') : Does C ops m L ⟨some d, .fieldAddr s x f, t, p, e, g⟩ (fun _ : Unit => .pointer (some ⟨b, o', none⟩)) (fun _ => L) :=
  Does.pure hw (fun a w ha _ => by
    unfold fldOff at hk
    split at hk
    · rename_i fs hu
      split at hk
      · rename_i gf hf
        split at hk
        · rename_i ti hti
          split at hk
          · cases hk
          · rename_i hz
            cases hk
            subst ho'
            have hadd : (⟨b, o, none⟩ : Addr).add gf.offset = ⟨b, o + gf.offset, none⟩ := by unfold Addr.add; split <;> simp_all
            simp [execOp, ha.ev hx, Instr.fieldAt, run_underlying hu, hf, Instr.sureAddr, fieldPlace, sizeOf, typeInfo, hti, hz, hadd]
        · cases hk
      · cases hk
    · cases hk)

/-- The length of a string, of a slice. -/
theorem Does.lenStr {x : Operand} {tx : TypeId} {l : List UInt8} (hw : Want ops m ⟨some d, .call ⟨.builtin .len, #[x], #[tx]⟩, t, p, e, g⟩ true)
    (hx : ev m x = some (.string ⟨l.toArray⟩)) (ht : isStr C.P tx = true) : Does C ops m L ⟨some d, .call ⟨.builtin .len, #[x], #[tx]⟩, t, p, e, g⟩ (fun _ : Unit => .int .i64 l.length) (fun _ => L) :=
  Does.pure hw (fun a w ha _ => by
    have : (ByteArray.mk l.toArray).size = l.length := by simp [ByteArray.size]
    simp [execOp, resolve, invoke, builtin, ha.ev hx, Builtin.len_, run_underlying (isStr_out ht), goInt, this])
theorem Does.lenSl {x : Operand} {tx et : TypeId} {sz y : Nat} {a : Option Addr} {n cap : Nat} (hw : Want ops m ⟨some d, .call ⟨.builtin .len, #[x], #[tx]⟩, t, p, e, g⟩ true)
    (hx : ev m x = some (.slice a n cap)) (ht : slN C.P tx = some (et, sz, y)) : Does C ops m L ⟨some d, .call ⟨.builtin .len, #[x], #[tx]⟩, t, p, e, g⟩ (fun _ : Unit => .int .i64 n) (fun _ => L) :=
  Does.pure hw (fun a w ha _ => by
    simp [execOp, resolve, invoke, builtin, ha.ev hx, Builtin.len_, run_underlying (slN_out ht).1, goInt])
theorem Does.lenArr {x : Operand} {tx et : TypeId} {k sz : Nat} {v : Value} (hw : Want ops m ⟨some d, .call ⟨.builtin .len, #[x], #[tx]⟩, t, p, e, g⟩ true)
    (hx : ev m x = some v) (ht : arN C.P tx = some (k, et, sz)) : Does C ops m L ⟨some d, .call ⟨.builtin .len, #[x], #[tx]⟩, t, p, e, g⟩ (fun _ : Unit => .int .i64 k) (fun _ => L) :=
  Does.pure hw (fun a w ha _ => by
    simp [execOp, resolve, invoke, builtin, ha.ev hx, Builtin.len_, run_underlying (arN_out ht).1, goInt])
theorem Does.max2 {x y : Operand} {tys : Array TypeId} {k k' : IntKind} {a b : Int} (hw : Want ops m ⟨some d, .call ⟨.builtin .max, #[x, y], tys⟩, t, p, e, g⟩ true)
    (hx : ev m x = some (.int k a)) (hy : ev m y = some (.int k' b)) : Does C ops m L ⟨some d, .call ⟨.builtin .max, #[x, y], tys⟩, t, p, e, g⟩ (fun _ : Unit => .int k (if b > a then b else a)) (fun _ => L) :=
  Does.pure hw (fun a w ha _ => by
    simp [execOp, resolve, invoke, builtin, ha.ev hx, ha.ev hy, Builtin.max_, Builtin.max2])
theorem Does.min2 {x y : Operand} {tys : Array TypeId} {k k' : IntKind} {a b : Int} (hw : Want ops m ⟨some d, .call ⟨.builtin .min, #[x, y], tys⟩, t, p, e, g⟩ true)
    (hx : ev m x = some (.int k a)) (hy : ev m y = some (.int k' b)) : Does C ops m L ⟨some d, .call ⟨.builtin .min, #[x, y], tys⟩, t, p, e, g⟩ (fun _ : Unit => .int k (if b < a then b else a)) (fun _ => L) :=
  Does.pure hw (fun a w ha _ => by
    simp [execOp, resolve, invoke, builtin, ha.ev hx, ha.ev hy, Builtin.min_, Builtin.min2])
end

/-! ## The runs of binary operations -/
section
variable {P : Program}
theorem g_int {op : BinOp} {t : TypeId} {x y : Operand} {k k' : IntKind} {a b : Int} (w : World) : (eqGuard op t x y (.int k a) (.int k' b)).run P w = .ok () w := by unfold eqGuard; split <;> rfl
theorem g_str {op : BinOp} {t : TypeId} {x y : Operand} {a b : ByteArray} (w : World) : (eqGuard op t x y (.string a) (.string b)).run P w = .ok () w := by unfold eqGuard; split <;> rfl
theorem g_bool {op : BinOp} {t : TypeId} {x y : Operand} {a b : Bool} (w : World) : (eqGuard op t x y (.bool a) (.bool b)).run P w = .ok () w := by unfold eqGuard; split <;> rfl
theorem b_add {t : TypeId} {k : IntKind} {a b : Int} (w : World) : (binOp .add t (.int k a) (.int k b)).run P w = .ok (.int k (k.wrap (a + b))) w := by simp [binOp, Op.intArith]
theorem b_sub {t : TypeId} {k : IntKind} {a b : Int} (w : World) : (binOp .sub t (.int k a) (.int k b)).run P w = .ok (.int k (k.wrap (a - b))) w := by simp [binOp, Op.intArith]
theorem b_mul {t : TypeId} {k : IntKind} {a b : Int} (w : World) : (binOp .mul t (.int k a) (.int k b)).run P w = .ok (.int k (k.wrap (a * b))) w := by simp [binOp, Op.intArith]
theorem b_quo {t : TypeId} {k : IntKind} {a b : Int} (hb : b ≠ 0) (w : World) : (binOp .quo t (.int k a) (.int k b)).run P w = .ok (.int k (k.wrap (a.tdiv b))) w := by simp [binOp, Op.intDiv, hb]
theorem b_rem {t : TypeId} {k : IntKind} {a b : Int} (hb : b ≠ 0) (w : World) : (binOp .rem t (.int k a) (.int k b)).run P w = .ok (.int k (a.tmod b)) w := by simp [binOp, Op.intDiv, hb]
theorem b_and {t : TypeId} {k : IntKind} {a b : Int} (w : World) : (binOp .and t (.int k a) (.int k b)).run P w = .ok (.int k (k.wrap (BitVec.ofInt k.bits a &&& BitVec.ofInt k.bits b).toNat)) w := by simp [binOp, Op.intBits]
theorem b_or {t : TypeId} {k : IntKind} {a b : Int} (w : World) : (binOp .or t (.int k a) (.int k b)).run P w = .ok (.int k (k.wrap (BitVec.ofInt k.bits a ||| BitVec.ofInt k.bits b).toNat)) w := by simp [binOp, Op.intBits]
theorem b_xor {t : TypeId} {k : IntKind} {a b : Int} (w : World) : (binOp .xor t (.int k a) (.int k b)).run P w = .ok (.int k (k.wrap (BitVec.ofInt k.bits a ^^^ BitVec.ofInt k.bits b).toNat)) w := by simp [binOp, Op.intBits]
theorem b_shl {t : TypeId} {k k' : IntKind} {a b : Int} (hb : ¬ b < 0) (w : World) : (binOp .shl t (.int k a) (.int k' b)).run P w = .ok (.int k (k.wrap (a * 2 ^ (min b.toNat k.bits)))) w := by simp [binOp, Op.shift, hb]
theorem b_shr {t : TypeId} {k k' : IntKind} {a b : Int} (hb : ¬ b < 0) (w : World) : (binOp .shr t (.int k a) (.int k' b)).run P w = .ok (.int k (a.fdiv (2 ^ (min b.toNat k.bits)))) w := by simp [binOp, Op.shift, hb]
theorem b_eq {t : TypeId} {k : IntKind} {a b : Int} (w : World) : (binOp .eql t (.int k a) (.int k b)).run P w = .ok (.bool (a == b)) w := by simp [binOp, Op.intCmp]
theorem b_ne {t : TypeId} {k : IntKind} {a b : Int} (w : World) : (binOp .neq t (.int k a) (.int k b)).run P w = .ok (.bool (a != b)) w := by simp [binOp, Op.intCmp]
theorem b_lt {t : TypeId} {k : IntKind} {a b : Int} (w : World) : (binOp .lss t (.int k a) (.int k b)).run P w = .ok (.bool (decide (a < b))) w := by simp [binOp, Op.intCmp]
theorem b_le {t : TypeId} {k : IntKind} {a b : Int} (w : World) : (binOp .leq t (.int k a) (.int k b)).run P w = .ok (.bool (decide (a ≤ b))) w := by simp [binOp, Op.intCmp]
theorem b_gt {t : TypeId} {k : IntKind} {a b : Int} (w : World) : (binOp .gtr t (.int k a) (.int k b)).run P w = .ok (.bool (decide (b < a))) w := by simp [binOp, Op.intCmp]
theorem b_ge {t : TypeId} {k : IntKind} {a b : Int} (w : World) : (binOp .geq t (.int k a) (.int k b)).run P w = .ok (.bool (decide (b ≤ a))) w := by simp [binOp, Op.intCmp]
/-- bytes -/
theorem u8_beq (a b : UInt8) : ((a.toNat : Int) == (b.toNat : Int)) = (a == b) := by
  rw [Bool.eq_iff_iff]; simp [← UInt8.toNat_inj]; omega
theorem b8_eq {t : TypeId} {a b : UInt8} (w : World) : (binOp .eql t (.int .u8 a.toNat) (.int .u8 b.toNat)).run P w = .ok (.bool (a == b)) w := by rw [b_eq, u8_beq]
theorem b8_ne {t : TypeId} {a b : UInt8} (w : World) : (binOp .neq t (.int .u8 a.toNat) (.int .u8 b.toNat)).run P w = .ok (.bool (a != b)) w := by rw [b_ne, bne, bne, u8_beq]
theorem b8_lt {t : TypeId} {a b : UInt8} (w : World) : (binOp .lss t (.int .u8 a.toNat) (.int .u8 b.toNat)).run P w = .ok (.bool (decide (a < b))) w := by rw [b_lt]; simp [UInt8.lt_iff_toNat_lt]
theorem b8_le {t : TypeId} {a b : UInt8} (w : World) : (binOp .leq t (.int .u8 a.toNat) (.int .u8 b.toNat)).run P w = .ok (.bool (decide (a ≤ b))) w := by rw [b_le]; simp [UInt8.le_iff_toNat_le]
theorem b8_gt {t : TypeId} {a b : UInt8} (w : World) : (binOp .gtr t (.int .u8 a.toNat) (.int .u8 b.toNat)).run P w = .ok (.bool (decide (b < a))) w := by rw [b_gt]; simp [UInt8.lt_iff_toNat_lt]
theorem b8_ge {t : TypeId} {a b : UInt8} (w : World) : (binOp .geq t (.int .u8 a.toNat) (.int .u8 b.toNat)).run P w = .ok (.bool (decide (b ≤ a))) w := by rw [b_ge]; simp [UInt8.le_iff_toNat_le]
theorem wrap_u8 (x : Int) : IntKind.u8.wrap x = x % 256 := by simp [IntKind.wrap, IntKind.bits, IntKind.signed]
theorem b8_add {t : TypeId} {a b : UInt8} (w : World) : (binOp .add t (.int .u8 a.toNat) (.int .u8 b.toNat)).run P w = .ok (.int .u8 (a + b).toNat) w := by
  rw [b_add, wrap_u8, UInt8.toNat_add]; simp
theorem b8_sub {t : TypeId} {a b : UInt8} (w : World) : (binOp .sub t (.int .u8 a.toNat) (.int .u8 b.toNat)).run P w = .ok (.int .u8 (a - b).toNat) w := by
  have := a.toNat_lt; have := b.toNat_lt
  rw [b_sub, wrap_u8, UInt8.toNat_sub]; congr 2; omega
theorem b8_and {t : TypeId} {a b : UInt8} (w : World) : (binOp .and t (.int .u8 a.toNat) (.int .u8 b.toNat)).run P w = .ok (.int .u8 (a &&& b).toNat) w := by
  have h := (a &&& b).toNat_lt
  rw [b_and, wrap_u8]
  congr 2
  change ((((BitVec.ofInt 8 (a.toNat : Int)) &&& (BitVec.ofInt 8 (b.toNat : Int))).toNat : Int) % 256) = _
  rw [UInt8.toNat_and] at *
  simp only [BitVec.ofInt_natCast, BitVec.toNat_and, BitVec.toNat_ofNat]
  rw [Nat.mod_eq_of_lt a.toNat_lt, Nat.mod_eq_of_lt b.toNat_lt]
  omega
theorem b8_or {t : TypeId} {a b : UInt8} (w : World) : (binOp .or t (.int .u8 a.toNat) (.int .u8 b.toNat)).run P w = .ok (.int .u8 (a ||| b).toNat) w := by
  have h := (a ||| b).toNat_lt
  rw [b_or, wrap_u8]
  congr 2
  change ((((BitVec.ofInt 8 (a.toNat : Int)) ||| (BitVec.ofInt 8 (b.toNat : Int))).toNat : Int) % 256) = _
  rw [UInt8.toNat_or] at *
  simp only [BitVec.ofInt_natCast, BitVec.toNat_or, BitVec.toNat_ofNat]
  rw [Nat.mod_eq_of_lt a.toNat_lt, Nat.mod_eq_of_lt b.toNat_lt]
  omega
theorem str_beq (a b : List UInt8) : ((ByteArray.mk a.toArray).toList == (ByteArray.mk b.toArray).toList) = (a == b) := by
  rw [ByteArray.toList_mk, ByteArray.toList_mk]
theorem s_eq {t : TypeId} {a b : List UInt8} (w : World) : (binOp .eql t (.string ⟨a.toArray⟩) (.string ⟨b.toArray⟩)).run P w = .ok (.bool (a == b)) w := by simp [binOp, Op.stringOp, str_beq]
theorem s_ne {t : TypeId} {a b : List UInt8} (w : World) : (binOp .neq t (.string ⟨a.toArray⟩) (.string ⟨b.toArray⟩)).run P w = .ok (.bool (a != b)) w := by simp [binOp, Op.stringOp, str_beq, bne]
/-- Joined: as long as a length may be. -/
def cat (a b : List UInt8) : Option (List UInt8) := if a.length + b.length ≤ 4611686018427387904 then some (a ++ b) else none
theorem s_add {t : TypeId} {a b r : List UInt8} (h : cat a b = some r) (w : World) : (binOp .add t (.string ⟨a.toArray⟩) (.string ⟨b.toArray⟩)).run P w = .ok (.string ⟨r.toArray⟩) w := by
  unfold cat at h
  split at h
  · rename_i hl
    cases h
    have h1 : ¬ (IntKind.i64.max < (((ByteArray.mk a.toArray).size + (ByteArray.mk b.toArray).size : Nat) : Int)) := by
      simp only [ByteArray.size, List.size_toArray, show IntKind.i64.max = 9223372036854775807 from by decide]; omega
    have h2 : ByteArray.mk a.toArray ++ ByteArray.mk b.toArray = ByteArray.mk (a ++ b).toArray := ByteArray.mk_append_mk a b
    simp only [binOp, Op.stringOp, gt_iff_lt, h1, if_false, h2, Sem.run_pure]
  · cases h
end
end Go.Sym
