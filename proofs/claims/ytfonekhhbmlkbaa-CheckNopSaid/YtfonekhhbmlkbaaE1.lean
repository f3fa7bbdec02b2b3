/- The law CheckNop holds for every input, if its mirror says so for every value that an input may read as. -/
import Derived.Test.YtfonekhhbmlkbaaS9
import Derived.Test.YtfonekhhbmlkbaaG15
import Derived.Test.YtfonekhhbmlkbaaRows
import Derived.ProofKit
set_option linter.unusedVariables false
set_option linter.unusedSimpArgs false
namespace Go.Proofs.Ytfonekhhbmlkbaa
open Go Go.Sym Go.ChangeShapes Go.WideShapes Go.ChangeAt Go.RowKit

instance : Inhabited api_Local := ⟨⟨0, 0⟩⟩
instance : Inhabited api_Instr := ⟨⟨0, 0, 0, []⟩⟩
instance : Inhabited api_FuncType := ⟨⟨[], []⟩⟩
instance : Inhabited api_GlobalType := ⟨⟨0, false⟩⟩
instance : Inhabited check_Env := ⟨⟨[], [], [], false, false⟩⟩

theorem rd_u8 : Rd Try.prog rU8 5 tFit := Rd.u8 Try.underlying5 (by kernel_rfl)
theorem rd_bool : Rd Try.prog rB 4 tFit := Rd.bool Try.underlying4 (by kernel_rfl)
theorem rd_str : Rd Try.prog rS 9 sFit := Rd.str Try.underlying9 (by kernel_rfl)
theorem rd_u32 : Rd Try.prog (rI .u32) 48 (iFit .u32) := Rd.int Try.underlying48 (by kernel_rfl)
theorem rd_u64 : Rd Try.prog (rI .u64) 38 (iFit .u64) := Rd.int Try.underlying38 (by kernel_rfl)
theorem rd_u32s : Rd Try.prog (rRo (rI .u32)) 23 (slFit (iFit .u32)) := Rd.slice Try.underlying23 (by kernel_rfl) rd_u32 rfl
def api_Local.fit (x : api_Local) : Prop := iFit .u32 x.N ∧ tFit x.T ∧ tFit ()
theorem api_Local.rd : Rd Try.prog api_Local.rep 104 api_Local.fit :=
  Rd.map (Rd.struct Try.underlying104 (by kernel_rfl) (RdF.cons rd_u32 rfl (RdF.cons rd_u8 rfl RdF.nil))) _ (fun x => ⟨x.1, x.2.1⟩) (fun _ => rfl)
def api_Instr.fit (x : api_Instr) : Prop := tFit x.Op ∧ iFit .u64 x.A ∧ iFit .u64 x.B ∧ slFit (iFit .u32) x.L ∧ tFit ()
theorem api_Instr.rd : Rd Try.prog api_Instr.rep 40 api_Instr.fit :=
  Rd.map (Rd.struct Try.underlying40 (by kernel_rfl) (RdF.cons rd_u8 rfl (RdF.cons rd_u64 rfl (RdF.cons rd_u64 rfl (RdF.cons rd_u32s rfl RdF.nil))))) _ (fun x => ⟨x.1, x.2.1, x.2.2.1, x.2.2.2.1⟩) (fun _ => rfl)
def api_FuncType.fit (x : api_FuncType) : Prop := sFit x.Params ∧ sFit x.Results ∧ tFit ()
theorem api_FuncType.rd : Rd Try.prog api_FuncType.rep 28 api_FuncType.fit :=
  Rd.map (Rd.struct Try.underlying28 (by kernel_rfl) (RdF.cons rd_str rfl (RdF.cons rd_str rfl RdF.nil))) _ (fun x => ⟨x.1, x.2.1⟩) (fun _ => rfl)
def api_GlobalType.fit (x : api_GlobalType) : Prop := tFit x.T ∧ tFit x.Mut ∧ tFit ()
theorem api_GlobalType.rd : Rd Try.prog api_GlobalType.rep 62 api_GlobalType.fit :=
  Rd.map (Rd.struct Try.underlying62 (by kernel_rfl) (RdF.cons rd_u8 rfl (RdF.cons rd_bool rfl RdF.nil))) _ (fun x => ⟨x.1, x.2.1⟩) (fun _ => rfl)
def api_Code.fit (x : api_Code) : Prop := slFit api_Local.fit x.Locals ∧ slFit api_Instr.fit x.Body ∧ tFit ()
theorem api_Code.rd : Rd Try.prog api_Code.rep 32 api_Code.fit :=
  Rd.map (Rd.struct Try.underlying32 (by kernel_rfl) (RdF.cons (Rd.slice Try.underlying29 (by kernel_rfl) api_Local.rd rfl) rfl (RdF.cons (Rd.slice Try.underlying30 (by kernel_rfl) api_Instr.rd rfl) rfl RdF.nil))) _ (fun x => ⟨x.1, x.2.1⟩) (fun _ => rfl)
def check_Env.fit (x : check_Env) : Prop := slFit api_FuncType.fit x.Types ∧ slFit (iFit .u32) x.Funcs ∧ slFit api_GlobalType.fit x.Globals ∧ tFit x.Table ∧ tFit x.Mem ∧ tFit ()
theorem check_Env.rd : Rd Try.prog check_Env.rep 26 check_Env.fit :=
  Rd.map (Rd.struct Try.underlying26 (by kernel_rfl) (RdF.cons (Rd.slice Try.underlying22 (by kernel_rfl) api_FuncType.rd rfl) rfl (RdF.cons rd_u32s rfl (RdF.cons (Rd.slice Try.underlying24 (by kernel_rfl) api_GlobalType.rd rfl) rfl (RdF.cons rd_bool rfl (RdF.cons rd_bool rfl RdF.nil)))))) _ (fun x => ⟨x.1, x.2.1, x.2.2.1, x.2.2.2.1, x.2.2.2.2.1⟩) (fun _ => rfl)

theorem own : ownKnob Try.prog.godebug = Option.none := by kernel_rfl
theorem laidOut : laidOutB Try.prog = true := by kernel_rfl

def InOK (v0 : check_Env) (v1 : api_FuncType) (v2 : api_Code) : Prop := v0.fit ∧ v1.fit ∧ v2.fit

theorem walk {W : World} {H : Type} {enc : TypeId × Value → H} {a0 a1 a2 : Array Value} {d0 d1 d2 : DataW H} {p0 p1 p2 : List MemPlace}
    (hp : ∀ v0 v1 v2, InOK v0 v1 v2 → f3.f v0 v1 v2 = some true)
    (h0 : DataW.Trod enc Try.prog W 0 (fun _ => true) true 26 (.agg a0) d0 p0) (h1 : DataW.Trod enc Try.prog W 0 (fun _ => true) true 28 (.agg a1) d1 p1) (h2 : DataW.Trod enc Try.prog W 0 (fun _ => true) true 32 (.agg a2) d2 p2) :
    Calls Try.prog 3 #[.agg a0, .agg a1, .agg a2] W fun e W' => e = .returned (.bool true) ∧ Below W.heap.size W W' := by
  obtain ⟨n0, h0⟩ := h0
  obtain ⟨n1, h1⟩ := h1
  obtain ⟨n2, h2⟩ := h2
  obtain ⟨v0, q0, b0⟩ := check_Env.rd.rd h0
  obtain ⟨v1, q1, b1⟩ := api_FuncType.rd.rd h1
  obtain ⟨v2, q2, b2⟩ := api_Code.rd.rd h2
  have hs3 : St W W ([api_Code.rep.rel a2.toList v2, api_FuncType.rep.rel a1.toList v1, check_Env.rep.rel a0.toList v0] ++ [base W]) := St.enter W (by
    intro A hA
    rcases hA with _ | ⟨_, _ | ⟨_, _ | ⟨_, hA⟩⟩⟩
    · exact q2
    · exact q1
    · exact q0
    · cases hA)
  obtain ⟨y2, e2, k2⟩ := api_Code.open hs3
  obtain ⟨y1, e1, k1⟩ := api_FuncType.open ((k2.ent (Ent.take 2 rfl)))
  obtain ⟨y0, e0, k0⟩ := check_Env.open ((k1.ent (Ent.take 2 rfl)))
  have hm : f3.f v0 v1 v2 = some true := hp v0 v1 v2 ⟨b0, b1, b2⟩
  have c := f3.ok v0 _ _ _ _ _ _ v1 v2 _ _ _ _ (R := [base W]) hm k0
  have z0 : a0 = #[.slice y0.1 v0.Types.length y0.2.1, .slice y0.2.2.1 v0.Funcs.length y0.2.2.2.1, .slice y0.2.2.2.2.1 v0.Globals.length y0.2.2.2.2.2, .bool v0.Table, .bool v0.Mem] := Array.toList_inj.1 e0
  have z1 : a1 = #[.string ⟨v1.Params.toArray⟩, .string ⟨v1.Results.toArray⟩] := Array.toList_inj.1 e1
  have z2 : a2 = #[.slice y2.1 v2.Locals.length y2.2.1, .slice y2.2.2.1 v2.Body.length y2.2.2.2] := Array.toList_inj.1 e2
  rw [z0, z1, z2]
  exact c.mono fun e w ⟨_, he, hw⟩ => ⟨he, below_of hw⟩

set_option maxRecDepth 100000 in
theorem lifted (hp : ∀ v0 v1 v2, InOK v0 v1 v2 → f3.f v0 v1 v2 = some true) (os : Os) (started : os.Started) (H : Type) (enc : TypeId × Value → H) :
    ReturnsInHanded {} Try.checked os 3 .any (Rows.checkNopSpec.pre6 enc Try.prog Try.f3 Rows.checkNopRow.domain false) (Rows.checkNopSpec.post enc Try.prog Try.f3 false true false false) := by
  refine returnsInHanded_of_change (C := Try.checked) own started (by kernel_rfl) Try.func3
    (ChangeSpec.witness6 (enc := enc) (C := Try.checked) false ⟨#[], #[.agg #[.slice Option.none 0 0, .slice Option.none 0 0, .slice Option.none 0 0, .bool false, .bool false], .agg #[.string ⟨#[]⟩, .string ⟨#[]⟩], .agg #[.slice Option.none 0 0, .slice Option.none 0 0]], []⟩ 8 (by kernel_rfl) (by kernel_rfl) (by kernel_rfl) (by kernel_rfl)) ?_
  intro W base args ds gs before hval0 hW hcnd _
  have hval : ∀ (j : Nat) t v, Try.f3.params[j]? = some t → args[j]? = some v → Value.okWide Try.prog W .any base t v := hval0
  have hW' := hW
  obtain ⟨p, q, hA0, hV, rfl, hfz, hnd⟩ := hW
  have hA : DataW.TrodAll enc Try.prog W 0 (fun _ => true) true Try.f3.params.toList args.toList ds p := hA0
  rw [Try.params3] at hA hval
  obtain ⟨v0, v1, v2, d0, d1, d2, p0, p1, p2, rfl, rfl, rfl, h0, h1, h2⟩ := trodAll_three hA
  obtain ⟨rfl, rfl⟩ := trodVars_none hV
  have g0 := hval 0 26 v0 rfl rfl
  have g1 := hval 1 28 v1 rfl rfl
  have g2 := hval 2 32 v2 rfl rfl
  simp only [Value.okWide, Try.underlying26] at g0
  simp only [Value.okWide, Try.underlying28] at g1
  simp only [Value.okWide, Try.underlying32] at g2
  obtain ⟨c0, rfl, -, -⟩ := g0
  obtain ⟨c1, rfl, -, -⟩ := g1
  obtain ⟨c2, rfl, -, -⟩ := g2
  clear hA0 hval0
  simp only [List.append_nil] at hW'
  refine (walk hp h0 h1 h2).mono fun e W' ⟨he, hb⟩ => ?_
  subst he
  have hlt : ∀ x ∈ p0 ++ p1 ++ p2, x.block < W.heap.size := fun x hx => by simpa using hW'.lt x hx
  have lt0 : ∀ x ∈ p0, x.block < W.heap.size := fun x hx => hlt x (by simp [hx])
  have lt1 : ∀ x ∈ p1, x.block < W.heap.size := fun x hx => hlt x (by simp [hx])
  have lt2 : ∀ x ∈ p2, x.block < W.heap.size := fun x hx => hlt x (by simp [hx])
  have kept : ∀ {t : TypeId} {v : Value} {d : DataW H} {ps : List MemPlace} (sp : Nat → Bool), Try.prog.readableRec t = true → t < Try.prog.types.size → (∀ x ∈ ps, x.block < W.heap.size) → (∀ x ∈ ps, sp x.block = true) →
      DataW.Trod enc Try.prog W 0 (fun _ => true) true t v d ps → DataW.Trod enc Try.prog W' 0 sp true t v d ps := fun sp hr hrow hl hsp h =>
    WideElems.Trod_stays laidOut hr hrow h (fun x hx => hb.same (hl x hx)) hsp
  refine ⟨_, rfl, postBelow (pa := p0 ++ (p1 ++ p2)) (pv := []) hW' (fun _ _ _ => trodAll_mk1 (shut_bool Try.underlying4 true))
    (fun sp hsp => trodAll_mk3 (kept sp (by kernel_rfl) (of_decide_eq_true (by kernel_rfl)) lt0 (fun x hx => hsp x (by simp [hx])) h0) (kept sp (by kernel_rfl) (of_decide_eq_true (by kernel_rfl)) lt1 (fun x hx => hsp x (by simp [hx])) h1) (kept sp (by kernel_rfl) (of_decide_eq_true (by kernel_rfl)) lt2 (fun x hx => hsp x (by simp [hx])) h2))
    (fun _ _ => rfl) (by simp) hb (ok_one (t := 4) (by kernel_rfl) rfl ?_)⟩
  have hu : Try.checked.prog.underlying 4 = some .bool := Try.underlying4
  simp [Value.okWide, Cell.okWide, Cell.ok, hu]

theorem said (hp : ∀ v0 v1 v2, InOK v0 v1 v2 → f3.f v0 v1 v2 = some true) : Rows.CheckNopSaid :=
  OpenClaim.holds_of_wide 3 Try.f3 rfl rfl rfl rfl rfl rfl rfl ⟨rfl, rfl, rfl, rfl, rfl⟩ rfl rfl rfl rfl rfl (by kernel_rfl) Try.func3 (by kernel_rfl)
    (of_decide_eq_true (by kernel_rfl)) (by unfold Func.isWrapper; first | (rw [if_pos (by decide +kernel)]; kernel_rfl) | (rw [if_neg (by decide +kernel)]; exact ⟨rfl, rfl⟩))
    (fun os started H enc _ => lifted hp os started H enc)
end Go.Proofs.Ytfonekhhbmlkbaa
