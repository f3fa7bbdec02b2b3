/- Mirrors of functions, and that the Go functions compute them. Printed by gofun.py. -/
import Derived.Test.YtfonekhhbmlkbaaG12
set_option linter.unusedVariables false
set_option linter.unusedSimpArgs false
namespace Go.Proofs.Ytfonekhhbmlkbaa
open Go Go.Sym
def f8.l1 : Nat → check_Env → api_FuncType → api_Code → ((List UInt8) × Int) → ctrl_Control → Int → Option (Int × Int)
  | 0, _, _, _, _, _, _ => none
  | k + 1, v0, v1, v2, v133, v315, v316 => (if (decide (v316 < (v2.Body.length : Int))) = true then ((at? v2.Body v316).bind fun v336 => ((f16.f ({ env := v0, locals := v133.1, c := v315, result := v1.Results } : check_checker) v336).bind fun v348 => (if (v348.1 != 0) = true then some (v316, v348.1) else f8.l1 k v0 v1 v2 v133 v348.2.c (IntKind.i64.wrap (v316 + 1))))) else some ((v2.Body.length : Int), 0))
/-- creel/check.Body -/
def f8.f (v0 : check_Env) (v1 : api_FuncType) (v2 : api_Code) : Option (Int × Int) :=
  ((f13.f v2).bind fun v129 => (if (v129 != 0) = true then some ((-1), v129) else ((f14.f v1 v2.Locals).bind fun v133 => (if (v133.2 != 0) = true then some ((-1), v133.2) else ((f15.f v1.Results).bind fun v171 => f8.l1 rounds v0 v1 v2 v133 v171 0)))))
set_option maxRecDepth 20000 in
set_option maxHeartbeats 1000000 in
theorem f8.ok {W w : World} {R : List Assn} (v0 : check_Env) (a101 : Option Addr) (n102 : Nat) (a104 : Option Addr) (n105 : Nat) (a107 : Option Addr) (n108 : Nat) (v1 : api_FuncType) (v2 : api_Code) (a110 : Option Addr) (n111 : Nat) (a113 : Option Addr) (n114 : Nat) {r : Int × Int} (hm : f8.f v0 v1 v2 = some r) (hs : St W w (ro api_GlobalType.rep a107 n108 v0.Globals :: ro (rI .u32) a104 n105 v0.Funcs :: ro api_FuncType.rep a101 n102 v0.Types :: ro api_Instr.rep a113 n114 v2.Body :: ro api_Local.rep a110 n111 v2.Locals :: R)) :
    Calls Try.prog 8 #[.agg #[.slice a101 v0.Types.length n102, .slice a104 v0.Funcs.length n105, .slice a107 v0.Globals.length n108, .bool v0.Table, .bool v0.Mem], .agg #[.string ⟨v1.Params.toArray⟩, .string ⟨v1.Results.toArray⟩], .agg #[.slice a110 v2.Locals.length n111, .slice a113 v2.Body.length n114]] w (fun e w' => ∃ x : Unit, e = .returned (.tuple #[.int .i64 r.1, .int .i64 r.2]) ∧ St W w' (R)) := by
  unfold f8.f at hm
  refine calls_sym (vs := [.agg #[.slice a101 v0.Types.length n102, .slice a104 v0.Funcs.length n105, .slice a107 v0.Globals.length n108, .bool v0.Table, .bool v0.Mem], .agg #[.string ⟨v1.Params.toArray⟩, .string ⟨v1.Results.toArray⟩], .agg #[.slice a110 v2.Locals.length n111, .slice a113 v2.Body.length n114]]) Try.func8 rfl rfl hs ?_
  refine T.seq rfl ?_
  refine T.region rfl ?_
  refine TO.go rfl rfl rfl (Does.box (vs := [.slice a101 v0.Types.length n102, .slice a104 v0.Funcs.length n105, .slice a107 v0.Globals.length n108, .bool v0.Table, .bool v0.Mem]) rfl rfl rfl) fun b116 => ?_
  refine TO.ent (L' := pts b116 [.slice a101 v0.Types.length n102, .slice a104 v0.Funcs.length n105, .slice a107 v0.Globals.length n108, .bool v0.Table, .bool v0.Mem] :: ro api_GlobalType.rep a107 n108 v0.Globals :: ro (rI .u32) a104 n105 v0.Funcs :: ro api_FuncType.rep a101 n102 v0.Types :: ro api_Instr.rep a113 n114 v2.Body :: ro api_Local.rep a110 n111 v2.Locals :: R) (fun w h => h) ?_
  refine TO.go rfl rfl rfl (Does.box (vs := [.string ⟨v1.Params.toArray⟩, .string ⟨v1.Results.toArray⟩]) rfl rfl rfl) fun b118 => ?_
  refine TO.ent (L' := pts b118 [.string ⟨v1.Params.toArray⟩, .string ⟨v1.Results.toArray⟩] :: pts b116 [.slice a101 v0.Types.length n102, .slice a104 v0.Funcs.length n105, .slice a107 v0.Globals.length n108, .bool v0.Table, .bool v0.Mem] :: ro api_GlobalType.rep a107 n108 v0.Globals :: ro (rI .u32) a104 n105 v0.Funcs :: ro api_FuncType.rep a101 n102 v0.Types :: ro api_Instr.rep a113 n114 v2.Body :: ro api_Local.rep a110 n111 v2.Locals :: R) (fun w h => h) ?_
  refine TO.go rfl rfl rfl (Does.box (vs := [.slice a110 v2.Locals.length n111, .slice a113 v2.Body.length n114]) rfl rfl rfl) fun b120 => ?_
  refine TO.ent (L' := pts b120 [.slice a110 v2.Locals.length n111, .slice a113 v2.Body.length n114] :: pts b118 [.string ⟨v1.Params.toArray⟩, .string ⟨v1.Results.toArray⟩] :: pts b116 [.slice a101 v0.Types.length n102, .slice a104 v0.Funcs.length n105, .slice a107 v0.Globals.length n108, .bool v0.Table, .bool v0.Mem] :: ro api_GlobalType.rep a107 n108 v0.Globals :: ro (rI .u32) a104 n105 v0.Funcs :: ro api_FuncType.rep a101 n102 v0.Types :: ro api_Instr.rep a113 n114 v2.Body :: ro api_Local.rep a110 n111 v2.Locals :: R) (fun w h => h) ?_
  refine TO.go rfl rfl rfl (Does.assign (v := .int .i64 0) rfl rfl) fun _ => ?_
  refine TO.go rfl rfl rfl (Does.assign (v := .int .i64 0) rfl rfl) fun _ => ?_
  refine TO.end rfl ?_
  refine TQ.then ?_
  refine T.seq rfl ?_
  refine T.seq rfl ?_
  refine T.region rfl ?_
  refine TO.go rfl rfl rfl (Does.loadPtsN (k := 0) (vs := [.slice a110 v2.Locals.length n111, .slice a113 v2.Body.length n114]) rfl rfl ag_32 rfl rfl rfl) fun _ => ?_
  obtain ⟨v129, h130, hm⟩ := bind_o hm
  refine TO.go rfl rfl rfl (Does.conseq (Does.call (vs := [.agg #[.slice a110 v2.Locals.length n111, .slice a113 v2.Body.length n114]]) rfl co_13 rfl (fun w h => f13.ok v2 a110 n111 a113 n114 h130 ((((h).ent (Ent.copy 6 rfl)).ent (Ent.copy 8 rfl)).ent (Ent.take 1 rfl)))) (fun w h => h) (fun x w h => ((((((((h).ent (Ent.take 7 rfl)).ent (Ent.take 7 rfl)).ent (Ent.take 7 rfl)).ent (Ent.take 7 rfl)).ent (Ent.take 7 rfl)).ent (Ent.take 7 rfl)).ent (Ent.take 7 rfl)).ent (Ent.take 7 rfl))) fun _ => ?_
  refine TO.go rfl rfl rfl (Does.assign rfl rfl) fun _ => ?_
  refine TO.end rfl ?_
  refine TQ.then ?_
  refine T.seq rfl ?_
  refine T.region rfl ?_
  refine TO.go rfl rfl rfl (Does.move rfl rfl) fun _ => ?_
  refine TO.go rfl rfl rfl (Does.bin (v := .bool (v129 != 0)) (vy := .int .i64 0) rfl rfl rfl g_int b_ne) fun _ => ?_
  refine TO.end rfl ?_
  refine TQ.then ?_
  refine T.cond rfl (b := (v129 != 0)) rfl (fun h131 => ?_) (fun h131 => ?_)
  · replace hm := ite_t hm h131
    refine T.seq rfl ?_
    refine T.region rfl ?_
    refine TO.go rfl rfl rfl (Does.move rfl rfl) fun _ => ?_
    refine TO.go rfl rfl rfl (Does.assign (v := .int .i64 (-1)) rfl rfl) fun _ => ?_
    refine TO.go rfl rfl rfl (Does.assign rfl rfl) fun _ => ?_
    refine TO.end rfl ?_
    refine TQ.then ?_
    refine T.ret rfl ?_
    refine TQ.passThenRet ?_
    refine TQ.result (.inl rfl) rfl (Res.tmp rfl (Res.tmp rfl Res.nil)) rfl (fun w h => ?_)
    cases hm
    exact ⟨(), rfl, ((((((((h).ent (Ent.drop _ _)).ent (Ent.drop _ _)).ent (Ent.drop _ _)).ent (Ent.drop _ _)).ent (Ent.drop _ _)).ent (Ent.drop _ _)).ent (Ent.drop _ _)).ent (Ent.drop _ _)⟩
  · replace hm := ite_f hm h131
    refine T.skip rfl ?_
    refine TQ.then ?_
    refine T.seq rfl ?_
    refine T.region rfl ?_
    refine TO.go rfl rfl rfl (Does.loadPtsN (k := 1) (vs := [.string ⟨v1.Params.toArray⟩, .string ⟨v1.Results.toArray⟩]) rfl rfl ag_28 rfl rfl rfl) fun _ => ?_
    refine TO.go rfl rfl rfl (Does.fieldAddr (o' := 0) rfl rfl fo_32_0 rfl) fun _ => ?_
    refine TO.go rfl rfl rfl (Does.loadPts (k := 0) (v := .slice a110 v2.Locals.length n111) rfl rfl sc_29 rfl rfl) fun _ => ?_
    obtain ⟨v133, h134, hm⟩ := bind_o hm
    refine TO.go rfl rfl rfl (Does.conseq (Does.call (vs := [.agg #[.string ⟨v1.Params.toArray⟩, .string ⟨v1.Results.toArray⟩], .slice a110 v2.Locals.length n111]) rfl co_14 rfl (fun w h => f14.ok v1 v2.Locals a110 n111 h134 ((h).ent (Ent.copy 7 rfl)))) (fun w h => h) (fun x w h => ((((((((h).ent (Ent.take 7 rfl)).ent (Ent.take 7 rfl)).ent (Ent.take 7 rfl)).ent (Ent.take 7 rfl)).ent (Ent.take 7 rfl)).ent (Ent.take 7 rfl)).ent (Ent.take 7 rfl)).ent (Ent.take 7 rfl))) fun _ => ?_
    refine TO.go rfl rfl rfl (Does.move rfl rfl) fun _ => ?_
    refine TO.go rfl rfl rfl (Does.extract rfl rfl rfl) fun _ => ?_
    refine TO.go rfl rfl rfl (Does.extract rfl rfl rfl) fun _ => ?_
    refine TO.go rfl rfl rfl (Does.assign rfl rfl) fun _ => ?_
    refine TO.go rfl rfl rfl (Does.assign rfl rfl) fun _ => ?_
    refine TO.end rfl ?_
    refine TQ.then ?_
    refine T.seq rfl ?_
    refine T.seq rfl ?_
    refine T.region rfl ?_
    refine TO.go rfl rfl rfl (Does.move rfl rfl) fun _ => ?_
    refine TO.go rfl rfl rfl (Does.bin (v := .bool (v133.2 != 0)) (vy := .int .i64 0) rfl rfl rfl g_int b_ne) fun _ => ?_
    refine TO.end rfl ?_
    refine TQ.then ?_
    refine T.cond rfl (b := (v133.2 != 0)) rfl (fun h136 => ?_) (fun h136 => ?_)
    · replace hm := ite_t hm h136
      refine T.seq rfl ?_
      refine T.region rfl ?_
      refine TO.go rfl rfl rfl (Does.move rfl rfl) fun _ => ?_
      refine TO.go rfl rfl rfl (Does.assign (v := .int .i64 (-1)) rfl rfl) fun _ => ?_
      refine TO.go rfl rfl rfl (Does.assign rfl rfl) fun _ => ?_
      refine TO.end rfl ?_
      refine TQ.then ?_
      refine T.ret rfl ?_
      refine TQ.passThenRet ?_
      refine TQ.result (.inl rfl) rfl (Res.tmp rfl (Res.tmp rfl Res.nil)) rfl (fun w h => ?_)
      cases hm
      exact ⟨(), rfl, ((((((((h).ent (Ent.drop _ _)).ent (Ent.drop _ _)).ent (Ent.drop _ _)).ent (Ent.drop _ _)).ent (Ent.drop _ _)).ent (Ent.drop _ _)).ent (Ent.drop _ _)).ent (Ent.drop _ _)⟩
    · replace hm := ite_f hm h136
      refine T.skip rfl ?_
      refine TQ.then ?_
      refine T.seq rfl ?_
      refine T.draw [0, 1, 2, 3, 5, 6, 7] rfl mixed ?_
      refine RA.quiet (i := 0) (v := .agg #[.slice a101 v0.Types.length n102, .slice a104 v0.Funcs.length n105, .slice a107 v0.Globals.length n108, .bool v0.Table, .bool v0.Mem]) PendOK.nil rfl rfl rfl rfl rfl rfl (Does.loadPtsN (k := 2) (vs := [.slice a101 v0.Types.length n102, .slice a104 v0.Funcs.length n105, .slice a107 v0.Globals.length n108, .bool v0.Table, .bool v0.Mem]) rfl rfl ag_26 rfl rfl rfl) fun h165 => ?_
      refine RA.quiet (i := 1) (v := .string ⟨v133.1.toArray⟩) h165 rfl rfl rfl rfl rfl rfl (Does.move rfl rfl) fun h166 => ?_
      refine RA.quiet (i := 2) (v := .pointer (some ⟨b118, 1, none⟩)) h166 rfl rfl rfl rfl rfl rfl (Does.fieldAddr (o' := 1) rfl rfl fo_28_1 rfl) fun h167 => ?_
      refine RA.quiet (i := 3) (v := .string ⟨v1.Results.toArray⟩) h167 rfl rfl rfl rfl rfl rfl (Does.loadPts (k := 1) (v := .string ⟨v1.Results.toArray⟩) rfl rfl sc_9 rfl rfl) fun h168 => ?_
      refine RA.quiet (i := 5) (v := .pointer (some ⟨b118, 1, none⟩)) h168 rfl rfl rfl rfl rfl rfl (Does.fieldAddr (o' := 1) rfl rfl fo_28_1 rfl) fun h169 => ?_
      refine RA.quiet (i := 6) (v := .string ⟨v1.Results.toArray⟩) h169 rfl rfl rfl rfl rfl rfl (Does.loadPts (k := 1) (v := .string ⟨v1.Results.toArray⟩) rfl rfl sc_9 rfl rfl) fun h170 => ?_
      obtain ⟨v171, h172, hm⟩ := bind_o hm
      refine RA.eff (k := 4) (pend' := [(6, .string ⟨v1.Results.toArray⟩), (5, .pointer (some ⟨b118, 1, none⟩)), (2, .pointer (some ⟨b118, 1, none⟩)), (1, .string ⟨v133.1.toArray⟩), (0, .agg #[.slice a101 v0.Types.length n102, .slice a104 v0.Funcs.length n105, .slice a107 v0.Globals.length n108, .bool v0.Table, .bool v0.Mem])]) (by kernel_rfl) h170 rfl (.inl ⟨_, rfl, rfl, fun _ => rfl⟩) rfl (by kernel_rfl) (Does.call (vs := [.string ⟨v1.Results.toArray⟩]) rfl co_15 rfl (fun w h => f15.ok v1.Results h172 (h))) rfl (fun b173 => (List.forall_mem_cons.2 ⟨⟨_, rfl, Does.loadPts (k := 2) (v := .string ⟨v1.Results.toArray⟩) rfl rfl sc_9 rfl rfl⟩, (List.forall_mem_cons.2 ⟨⟨_, rfl, Does.fieldAddr (o' := 1) rfl rfl fo_28_1 rfl⟩, (List.forall_mem_cons.2 ⟨⟨_, rfl, Does.fieldAddr (o' := 1) rfl rfl fo_28_1 rfl⟩, (List.forall_mem_cons.2 ⟨⟨_, rfl, Does.move rfl rfl⟩, (List.forall_mem_cons.2 ⟨⟨_, rfl, Does.loadPtsN (k := 3) (vs := [.slice a101 v0.Types.length n102, .slice a104 v0.Funcs.length n105, .slice a107 v0.Globals.length n108, .bool v0.Table, .bool v0.Mem]) rfl rfl ag_26 rfl rfl rfl⟩, (fun _ h => by cases h)⟩)⟩)⟩)⟩)⟩)) (fun b173 h175 => ?_)
      refine RA.quiet (i := 7) (v := .agg #[.slice a101 v0.Types.length n102, .slice a104 v0.Funcs.length n105, .slice a107 v0.Globals.length n108, .bool v0.Table, .bool v0.Mem, .string ⟨v133.1.toArray⟩, .pointer (some ⟨b173, 0, none⟩), .string ⟨v1.Results.toArray⟩]) h175 rfl rfl rfl rfl rfl rfl (Does.build (v := .agg #[.slice a101 v0.Types.length n102, .slice a104 v0.Funcs.length n105, .slice a107 v0.Globals.length n108, .bool v0.Table, .bool v0.Mem, .string ⟨v133.1.toArray⟩, .pointer (some ⟨b173, 0, none⟩), .string ⟨v1.Results.toArray⟩]) (vs := [(0, .agg #[.slice a101 v0.Types.length n102, .slice a104 v0.Funcs.length n105, .slice a107 v0.Globals.length n108, .bool v0.Table, .bool v0.Mem]), (1, .string ⟨v133.1.toArray⟩), (2, .pointer (some ⟨b173, 0, none⟩)), (3, .string ⟨v1.Results.toArray⟩)]) rfl rfl (fun w => by kernel_rfl)) fun h176 => ?_
      refine RA.eff (k := 8) (pend' := [(6, .string ⟨v1.Results.toArray⟩), (5, .pointer (some ⟨b118, 1, none⟩)), (2, .pointer (some ⟨b118, 1, none⟩)), (1, .string ⟨v133.1.toArray⟩), (0, .agg #[.slice a101 v0.Types.length n102, .slice a104 v0.Funcs.length n105, .slice a107 v0.Globals.length n108, .bool v0.Table, .bool v0.Mem])]) (by kernel_rfl) h176 rfl (.inl ⟨_, rfl, rfl, fun _ => rfl⟩) rfl (by kernel_rfl) (Does.box (vs := [.slice a101 v0.Types.length n102, .slice a104 v0.Funcs.length n105, .slice a107 v0.Globals.length n108, .bool v0.Table, .bool v0.Mem, .string ⟨v133.1.toArray⟩, .pointer (some ⟨b173, 0, none⟩), .string ⟨v1.Results.toArray⟩]) rfl rfl rfl) rfl (fun b177 => (List.forall_mem_cons.2 ⟨⟨_, rfl, Does.loadPts (k := 3) (v := .string ⟨v1.Results.toArray⟩) rfl rfl sc_9 rfl rfl⟩, (List.forall_mem_cons.2 ⟨⟨_, rfl, Does.fieldAddr (o' := 1) rfl rfl fo_28_1 rfl⟩, (List.forall_mem_cons.2 ⟨⟨_, rfl, Does.fieldAddr (o' := 1) rfl rfl fo_28_1 rfl⟩, (List.forall_mem_cons.2 ⟨⟨_, rfl, Does.move rfl rfl⟩, (List.forall_mem_cons.2 ⟨⟨_, rfl, Does.loadPtsN (k := 4) (vs := [.slice a101 v0.Types.length n102, .slice a104 v0.Funcs.length n105, .slice a107 v0.Globals.length n108, .bool v0.Table, .bool v0.Mem]) rfl rfl ag_26 rfl rfl rfl⟩, (fun _ h => by cases h)⟩)⟩)⟩)⟩)⟩)) (fun b177 h178 => ?_)
      refine RA.eff (k := 9) (pend' := []) (by kernel_rfl) h178 rfl (.inl ⟨_, rfl, rfl, fun _ => rfl⟩) rfl (by kernel_rfl) (Does.assign rfl rfl) rfl (fun _ => (fun _ h => by cases h)) (fun _ h180 => ?_)
      refine RA.done (by kernel_rfl) h180 rfl ?_
      refine TQ.then ?_
      refine T.seq rfl ?_
      refine T.seq rfl ?_
      refine T.region rfl ?_
      refine TO.go rfl rfl rfl (Does.fieldAddr (o' := 1) rfl rfl fo_32_1 rfl) fun _ => ?_
      refine TO.go rfl rfl rfl (Does.loadPts (k := 2) (v := .slice a113 v2.Body.length n114) rfl rfl sc_30 rfl rfl) fun _ => ?_
      refine TO.go rfl rfl rfl (Does.lenSl rfl rfl sl_30) fun _ => ?_
      refine TO.go rfl rfl rfl (Does.move (v := .int .i64 0) rfl rfl) fun _ => ?_
      refine TO.end rfl ?_
      refine TQ.then ?_
      refine T.block rfl ?_
      refine T.loopJ (X := ctrl_Control × Int) rfl rounds (fun x => [(42, .int .i64 x.2), (41, .int .i64 (v2.Body.length : Int)), (40, .slice a113 v2.Body.length n114), (11, .pointer (some ⟨b177, 0, none⟩)), (5, .pointer (some ⟨b120, 0, none⟩))]) (fun x => ro api_Local.rep a110 n111 v2.Locals :: ro api_Instr.rep a113 n114 v2.Body :: pts b120 [.slice a110 v2.Locals.length n111, .slice a113 v2.Body.length n114] :: ro api_FuncType.rep a101 n102 v0.Types :: ro (rI .u32) a104 n105 v0.Funcs :: ro api_GlobalType.rep a107 n108 v0.Globals :: ptr ctrl_Control.rep b173 x.1 :: pts b177 [.slice a101 v0.Types.length n102, .slice a104 v0.Funcs.length n105, .slice a107 v0.Globals.length n108, .bool v0.Table, .bool v0.Mem, .string ⟨v133.1.toArray⟩, .pointer (some ⟨b173, 0, none⟩), .string ⟨v1.Results.toArray⟩] :: R) (fun n x => f8.l1 n v0 v1 v2 v133 x.1 x.2 = some r) (fun x h => by simp [f8.l1] at h) ?_ (v171, 0) hm (Sub.cons rfl (Sub.cons rfl (Sub.cons rfl (Sub.cons rfl (Sub.cons rfl (Sub.nil _)))))) (fun w h => (((((((((((((((((((((((((((h).ent (Ent.copy 9 rfl)).ent (Ent.copy 9 rfl)).ent (Ent.copy 9 rfl)).ent (Ent.copy 9 rfl)).ent (Ent.copy 9 rfl)).ent (Ent.take 8 rfl)).ent (Ent.drop _ _)).ent (Ent.take 8 rfl)).ent (Ent.drop _ _)).ent (Ent.take 8 rfl)).ent (Ent.drop _ _)).ent (Ent.take 8 rfl)).ent (Ent.drop _ _)).ent (Ent.take 8 rfl)).ent (Ent.drop _ _)).ent (Ent.take 8 rfl)).ent (Ent.drop _ _)).ent (Ent.take 8 rfl)).ent (Ent.drop _ _)).ent (Ent.take 5 rfl)).ent (Ent.take 6 rfl)).ent (Ent.take 2 rfl)).ent (Ent.take 3 rfl)).ent (Ent.take 4 rfl)).ent (Ent.take 7 rfl)).ent (Ent.take 6 rfl)).ent (Ent.take 7 rfl))
      intro k317 h318
      rintro ⟨v315, v316⟩ hm
      try dsimp only
      rw [f8.l1.eq_2] at hm
      refine T.seq rfl ?_
      refine T.region rfl ?_
      refine TO.go rfl rfl rfl (Does.bin (v := .bool (decide (v316 < (v2.Body.length : Int)))) rfl rfl rfl g_int b_lt) fun _ => ?_
      refine TO.end rfl ?_
      refine TQ.then ?_
      refine T.seq rfl ?_
      refine T.cond rfl (b := (decide (v316 < (v2.Body.length : Int)))) rfl (fun h320 => ?_) (fun h320 => ?_)
      · replace hm := ite_t hm h320
        refine T.skip rfl ?_
        refine TQ.then ?_
        refine T.seq rfl ?_
        refine T.block rfl ?_
        refine T.seq rfl ?_
        refine T.region rfl ?_
        refine TO.go rfl rfl rfl (Does.move rfl rfl) fun _ => ?_
        obtain ⟨v336, h337, hm⟩ := bind_o hm
        refine TO.go rfl rfl rfl (Does.indexSl (r := api_Instr.rep) (k := 1) rfl rfl rfl sl_30 rfl Arrd.ro h337) fun _ => ?_
        refine TO.go rfl rfl rfl (Does.loadElemN (r := api_Instr.rep) (k := 1) rfl rfl ag_40 rfl Arrd.ro (at?_out h337).2.2) fun cs338 => ?_
        refine TO.st (fun w h => api_Instr.open h) ?_
        rintro ⟨a339, n340⟩ rfl
        refine TO.ent (L' := ro (rI .u32) a339 n340 v336.L :: ro api_Local.rep a110 n111 v2.Locals :: ro api_Instr.rep a113 n114 v2.Body :: pts b120 [.slice a110 v2.Locals.length n111, .slice a113 v2.Body.length n114] :: ro api_FuncType.rep a101 n102 v0.Types :: ro (rI .u32) a104 n105 v0.Funcs :: ro api_GlobalType.rep a107 n108 v0.Globals :: ptr ctrl_Control.rep b173 v315 :: pts b177 [.slice a101 v0.Types.length n102, .slice a104 v0.Funcs.length n105, .slice a107 v0.Globals.length n108, .bool v0.Table, .bool v0.Mem, .string ⟨v133.1.toArray⟩, .pointer (some ⟨b173, 0, none⟩), .string ⟨v1.Results.toArray⟩] :: R) (fun w h => h) ?_
        refine TO.go rfl rfl rfl (Does.alloc rfl zn_40) fun b342 => ?_
        refine TO.ent (L' := pts b342 [.int .u8 (0 : UInt8).toNat, .int .u64 0, .int .u64 0, .slice none 0 0] :: ro (rI .u32) a339 n340 v336.L :: ro api_Local.rep a110 n111 v2.Locals :: ro api_Instr.rep a113 n114 v2.Body :: pts b120 [.slice a110 v2.Locals.length n111, .slice a113 v2.Body.length n114] :: ro api_FuncType.rep a101 n102 v0.Types :: ro (rI .u32) a104 n105 v0.Funcs :: ro api_GlobalType.rep a107 n108 v0.Globals :: ptr ctrl_Control.rep b173 v315 :: pts b177 [.slice a101 v0.Types.length n102, .slice a104 v0.Funcs.length n105, .slice a107 v0.Globals.length n108, .bool v0.Table, .bool v0.Mem, .string ⟨v133.1.toArray⟩, .pointer (some ⟨b173, 0, none⟩), .string ⟨v1.Results.toArray⟩] :: R) (fun w h => h) ?_
        refine TO.go rfl rfl rfl (Does.assign rfl rfl) fun _ => ?_
        refine TO.go0 rfl rfl (Does.storePts (k := 0) (vs := [.int .u8 v336.Op.toNat, .int .u64 v336.A, .int .u64 v336.B, .slice a339 v336.L.length n340]) (cs' := [.int .u8 v336.Op.toNat, .int .u64 v336.A, .int .u64 v336.B, .slice a339 v336.L.length n340]) rfl rfl rfl rfl rfl cn_40 rfl rfl rfl rfl) fun _ => ?_
        refine TO.ent (L' := pts b342 [.int .u8 v336.Op.toNat, .int .u64 v336.A, .int .u64 v336.B, .slice a339 v336.L.length n340] :: ro (rI .u32) a339 n340 v336.L :: ro api_Local.rep a110 n111 v2.Locals :: ro api_Instr.rep a113 n114 v2.Body :: pts b120 [.slice a110 v2.Locals.length n111, .slice a113 v2.Body.length n114] :: ro api_FuncType.rep a101 n102 v0.Types :: ro (rI .u32) a104 n105 v0.Funcs :: ro api_GlobalType.rep a107 n108 v0.Globals :: ptr ctrl_Control.rep b173 v315 :: pts b177 [.slice a101 v0.Types.length n102, .slice a104 v0.Funcs.length n105, .slice a107 v0.Globals.length n108, .bool v0.Table, .bool v0.Mem, .string ⟨v133.1.toArray⟩, .pointer (some ⟨b173, 0, none⟩), .string ⟨v1.Results.toArray⟩] :: R) (fun w h => h) ?_
        refine TO.end rfl ?_
        refine TQ.then ?_
        refine T.seq rfl ?_
        refine T.region rfl ?_
        refine TO.go rfl rfl rfl (Does.move rfl rfl) fun _ => ?_
        refine TO.go rfl rfl rfl (Does.loadPtsN (k := 0) (vs := [.int .u8 v336.Op.toNat, .int .u64 v336.A, .int .u64 v336.B, .slice a339 v336.L.length n340]) rfl rfl ag_40 rfl rfl rfl) fun _ => ?_
        obtain ⟨v348, h349, hm⟩ := bind_o hm
        refine TO.go rfl rfl rfl (Does.call (vs := [.pointer (some ⟨b177, 0, none⟩), .agg #[.int .u8 v336.Op.toNat, .int .u64 v336.A, .int .u64 v336.B, .slice a339 v336.L.length n340]]) rfl co_16 rfl (fun w h => f16.ok ({ env := v0, locals := v133.1, c := v315, result := v1.Results } : check_checker) b177 a101 n102 a104 n105 a107 n108 b173 v336 a339 n340 h349 ((((((((((h).ent (Ent.copy 7 rfl)).ent (Ent.copy 7 rfl)).ent (Ent.copy 7 rfl)).ent (Ent.copy 4 rfl)).ent (Ent.take 1 rfl)).ent (Ent.take 2 rfl)).ent (Ent.take 3 rfl)).ent (Ent.take 12 rfl)).ent (Ent.take 13 rfl)))) fun _ => ?_
        refine TO.ent (L' := pts b177 [.slice a101 v0.Types.length n102, .slice a104 v0.Funcs.length n105, .slice a107 v0.Globals.length n108, .bool v0.Table, .bool v0.Mem, .string ⟨v133.1.toArray⟩, .pointer (some ⟨b173, 0, none⟩), .string ⟨v1.Results.toArray⟩] :: ptr ctrl_Control.rep b173 v348.2.c :: pts b342 [.int .u8 v336.Op.toNat, .int .u64 v336.A, .int .u64 v336.B, .slice a339 v336.L.length n340] :: ro (rI .u32) a339 n340 v336.L :: ro api_Local.rep a110 n111 v2.Locals :: ro api_Instr.rep a113 n114 v2.Body :: pts b120 [.slice a110 v2.Locals.length n111, .slice a113 v2.Body.length n114] :: ro api_FuncType.rep a101 n102 v0.Types :: ro (rI .u32) a104 n105 v0.Funcs :: ro api_GlobalType.rep a107 n108 v0.Globals :: R) (fun w h => h) ?_
        refine TO.go rfl rfl rfl (Does.assign rfl rfl) fun _ => ?_
        refine TO.end rfl ?_
        refine TQ.then ?_
        refine T.seq rfl ?_
        refine T.region rfl ?_
        refine TO.go rfl rfl rfl (Does.move rfl rfl) fun _ => ?_
        refine TO.go rfl rfl rfl (Does.bin (v := .bool (v348.1 != 0)) (vy := .int .i64 0) rfl rfl rfl g_int b_ne) fun _ => ?_
        refine TO.end rfl ?_
        refine TQ.then ?_
        refine T.cond rfl (b := (v348.1 != 0)) rfl (fun h350 => ?_) (fun h350 => ?_)
        · replace hm := ite_t hm h350
          refine T.seq rfl ?_
          refine T.region rfl ?_
          refine TO.go rfl rfl rfl (Does.move rfl rfl) fun _ => ?_
          refine TO.go rfl rfl rfl (Does.move rfl rfl) fun _ => ?_
          refine TO.go rfl rfl rfl (Does.assign rfl rfl) fun _ => ?_
          refine TO.go rfl rfl rfl (Does.assign rfl rfl) fun _ => ?_
          refine TO.end rfl ?_
          refine TQ.then ?_
          refine T.ret rfl ?_
          refine TQ.passBlockRet ?_
          refine TQ.passThenRet ?_
          refine TQ.passThenRet ?_
          refine TQ.passBlockRet ?_
          refine TQ.passThenRet ?_
          refine TQ.result (.inl rfl) rfl (Res.tmp rfl (Res.tmp rfl Res.nil)) rfl (fun w h => ?_)
          cases hm
          exact ⟨(), rfl, ((((((((((h).ent (Ent.drop _ _)).ent (Ent.drop _ _)).ent (Ent.drop _ _)).ent (Ent.drop _ _)).ent (Ent.drop _ _)).ent (Ent.drop _ _)).ent (Ent.drop _ _)).ent (Ent.drop _ _)).ent (Ent.drop _ _)).ent (Ent.drop _ _)⟩
        · replace hm := ite_f hm h350
          refine T.skip rfl ?_
          refine TQ.passBlockNormal ?_
          refine TQ.then ?_
          refine T.region rfl ?_
          refine TO.go rfl rfl rfl (Does.bin (v := .int .i64 (IntKind.i64.wrap (v316 + 1))) (vy := .int .i64 1) rfl rfl rfl g_int b_add) fun _ => ?_
          refine TO.go rfl rfl rfl (Does.move rfl rfl) fun _ => ?_
          refine TO.end rfl ?_
          exact TQ.again (TR.sub (h318 (v348.2.c, (IntKind.i64.wrap (v316 + 1))) hm) (Sub.cons rfl (Sub.cons rfl (Sub.cons rfl (Sub.cons rfl (Sub.cons rfl (Sub.nil _)))))) (fun w h => (((((((((((((((((((((((((((h).ent (Ent.copy 4 rfl)).ent (Ent.copy 6 rfl)).ent (Ent.copy 9 rfl)).ent (Ent.copy 11 rfl)).ent (Ent.copy 13 rfl)).ent (Ent.take 7 rfl)).ent (Ent.drop _ _)).ent (Ent.take 7 rfl)).ent (Ent.drop _ _)).ent (Ent.take 7 rfl)).ent (Ent.drop _ _)).ent (Ent.take 7 rfl)).ent (Ent.drop _ _)).ent (Ent.take 8 rfl)).ent (Ent.drop _ _)).ent (Ent.take 8 rfl)).ent (Ent.drop _ _)).ent (Ent.take 8 rfl)).ent (Ent.drop _ _)).ent (Ent.take 5 rfl)).ent (Ent.take 6 rfl)).ent (Ent.take 2 rfl)).ent (Ent.take 3 rfl)).ent (Ent.take 4 rfl)).ent (Ent.take 7 rfl)).ent (Ent.take 6 rfl)).ent (Ent.take 7 rfl)))
      · replace hm := ite_f hm h320
        refine T.exit rfl ?_
        refine TQ.passThenExit ?_
        refine TQ.passThenExit ?_
        refine TQ.exitHere ?_
        refine TQ.then ?_
        refine T.seq rfl ?_
        refine T.region rfl ?_
        refine TO.go rfl rfl rfl (Does.fieldAddr (o' := 1) rfl rfl fo_32_1 rfl) fun _ => ?_
        refine TO.go rfl rfl rfl (Does.loadPts (k := 2) (v := .slice a113 v2.Body.length n114) rfl rfl sc_30 rfl rfl) fun _ => ?_
        refine TO.go rfl rfl rfl (Does.lenSl rfl rfl sl_30) fun _ => ?_
        refine TO.go rfl rfl rfl (Does.assign rfl rfl) fun _ => ?_
        refine TO.go rfl rfl rfl (Does.assign (v := .int .i64 0) rfl rfl) fun _ => ?_
        refine TO.end rfl ?_
        refine TQ.then ?_
        refine T.ret rfl ?_
        refine TQ.result (.inl rfl) rfl (Res.tmp rfl (Res.tmp rfl Res.nil)) rfl (fun w h => ?_)
        cases hm
        exact ⟨(), rfl, ((((((((h).ent (Ent.drop _ _)).ent (Ent.drop _ _)).ent (Ent.drop _ _)).ent (Ent.drop _ _)).ent (Ent.drop _ _)).ent (Ent.drop _ _)).ent (Ent.drop _ _)).ent (Ent.drop _ _)⟩

/-- creel/creellaw24.awake -/
def f6.f : Option Bool :=
  ((f8.f ({ Types := [], Funcs := [], Globals := [], Table := false, Mem := false } : check_Env) ({ Params := ([] : List UInt8), Results := ([] : List UInt8) } : api_FuncType) ({ Locals := [], Body := [({ Op := (65 : UInt8), A := 1, B := 0, L := [] } : api_Instr), ({ Op := (11 : UInt8), A := 0, B := 0, L := [] } : api_Instr)] } : api_Code)).bind fun v112 => (if (v112.1 == 1) = true then some (v112.2 == 21) else some false))
set_option maxRecDepth 20000 in
set_option maxHeartbeats 1000000 in
theorem f6.ok {W w : World} {R : List Assn} {r : Bool} (hm : f6.f = some r) (hs : St W w (R)) :
    Calls Try.prog 6 #[] w (fun e w' => ∃ x : Unit, e = .returned (.bool r) ∧ St W w' (R)) := by
  unfold f6.f at hm
  refine calls_sym (vs := []) Try.func6 rfl rfl hs ?_
  refine T.seq rfl ?_
  refine T.region rfl ?_
  refine TO.go rfl rfl rfl (Does.assign (v := .bool false) rfl rfl) fun _ => ?_
  refine TO.end rfl ?_
  refine TQ.then ?_
  refine T.seq rfl ?_
  refine T.region rfl ?_
  refine TO.go rfl rfl rfl (Does.build (v := .agg #[.slice none 0 0, .slice none 0 0, .slice none 0 0, .bool false, .bool false]) (vs := []) rfl rfl (fun w => by kernel_rfl)) fun _ => ?_
  refine TO.go rfl rfl rfl (Does.build (v := .agg #[.string ⟨([] : List UInt8).toArray⟩, .string ⟨([] : List UInt8).toArray⟩]) (vs := []) rfl rfl (fun w => by kernel_rfl)) fun _ => ?_
  refine TO.go rfl rfl rfl (Does.build (v := .agg #[.int .u8 (65 : UInt8).toNat, .int .u64 1, .int .u64 0, .slice none 0 0]) (vs := [(0, .int .u8 (65 : UInt8).toNat), (1, .int .u64 1)]) rfl rfl (fun w => by kernel_rfl)) fun _ => ?_
  refine TO.go rfl rfl rfl (Does.build (v := .agg #[.int .u8 (11 : UInt8).toNat, .int .u64 0, .int .u64 0, .slice none 0 0]) (vs := [(0, .int .u8 (11 : UInt8).toNat)]) rfl rfl (fun w => by kernel_rfl)) fun _ => ?_
  refine TO.go rfl rfl rfl (Does.buildSlice (r := api_Instr.rep) (l := [({ Op := (65 : UInt8), A := 1, B := 0, L := [] } : api_Instr), ({ Op := (11 : UInt8), A := 0, B := 0, L := [] } : api_Instr)]) (cs := [.int .u8 (65 : UInt8).toNat, .int .u64 1, .int .u64 0, .slice none 0 0, .int .u8 (11 : UInt8).toNat, .int .u64 0, .int .u64 0, .slice none 0 0]) (vs := [(0, .agg #[.int .u8 (65 : UInt8).toNat, .int .u64 1, .int .u64 0, .slice none 0 0]), (1, .agg #[.int .u8 (11 : UInt8).toNat, .int .u64 0, .int .u64 0, .slice none 0 0])]) rfl rfl sl_30 (fun w => by kernel_rfl) rfl rfl (fun w h => (api_Instr.shut (x := ({ Op := (65 : UInt8), A := 1, B := 0, L := [] } : api_Instr)) (none, 0) ((api_Instr.shut (x := ({ Op := (11 : UInt8), A := 0, B := 0, L := [] } : api_Instr)) (none, 0) ((h).ent (Ent.add (ro_nil (rI .u32) none 0)))).ent (Ent.add (ro_nil (rI .u32) none 0)))).ent (Ent.unstar (L := [_, _])))) fun a105 => ?_
  refine TO.ent (L' := own api_Instr.rep a105 2 ([({ Op := (65 : UInt8), A := 1, B := 0, L := [] } : api_Instr), ({ Op := (11 : UInt8), A := 0, B := 0, L := [] } : api_Instr)]) :: R) (fun w h => h) ?_
  refine TO.go rfl rfl rfl (Does.build (v := .agg #[.slice none 0 0, .slice a105 ([({ Op := (65 : UInt8), A := 1, B := 0, L := [] } : api_Instr), ({ Op := (11 : UInt8), A := 0, B := 0, L := [] } : api_Instr)]).length 2]) (vs := [(1, .slice a105 ([({ Op := (65 : UInt8), A := 1, B := 0, L := [] } : api_Instr), ({ Op := (11 : UInt8), A := 0, B := 0, L := [] } : api_Instr)]).length 2)]) rfl rfl (fun w => by kernel_rfl)) fun _ => ?_
  obtain ⟨v112, h113, hm⟩ := bind_o hm
  refine TO.go rfl rfl rfl (Does.call (vs := [.agg #[.slice none 0 0, .slice none 0 0, .slice none 0 0, .bool false, .bool false], .agg #[.string ⟨([] : List UInt8).toArray⟩, .string ⟨([] : List UInt8).toArray⟩], .agg #[.slice none 0 0, .slice a105 ([({ Op := (65 : UInt8), A := 1, B := 0, L := [] } : api_Instr), ({ Op := (11 : UInt8), A := 0, B := 0, L := [] } : api_Instr)]).length 2]]) rfl co_8 rfl (fun w h => f8.ok ({ Types := [], Funcs := [], Globals := [], Table := false, Mem := false } : check_Env) none 0 none 0 none 0 ({ Params := ([] : List UInt8), Results := ([] : List UInt8) } : api_FuncType) ({ Locals := [], Body := [({ Op := (65 : UInt8), A := 1, B := 0, L := [] } : api_Instr), ({ Op := (11 : UInt8), A := 0, B := 0, L := [] } : api_Instr)] } : api_Code) none 0 a105 2 h113 (((((((Go.Sym.freeze (((((h).ent (Ent.add (ro_nil api_GlobalType.rep none 0))).ent (Ent.add (ro_nil (rI .u32) none 0))).ent (Ent.add (ro_nil api_FuncType.rep none 0))).ent (Ent.take 3 rfl))).ent (Ent.copy 0 rfl)).ent (Ent.add (ro_nil api_Local.rep none 0))).ent (Ent.take 1 rfl)).ent (Ent.take 3 rfl)).ent (Ent.take 4 rfl)).ent (Ent.take 5 rfl)))) fun _ => ?_
  refine TO.ent (L' := ro api_Instr.rep a105 2 ([({ Op := (65 : UInt8), A := 1, B := 0, L := [] } : api_Instr), ({ Op := (11 : UInt8), A := 0, B := 0, L := [] } : api_Instr)]) :: R) (fun w h => h) ?_
  refine TO.go rfl rfl rfl (Does.move rfl rfl) fun _ => ?_
  refine TO.go rfl rfl rfl (Does.extract rfl rfl rfl) fun _ => ?_
  refine TO.go rfl rfl rfl (Does.extract rfl rfl rfl) fun _ => ?_
  refine TO.go rfl rfl rfl (Does.assign rfl rfl) fun _ => ?_
  refine TO.go rfl rfl rfl (Does.assign rfl rfl) fun _ => ?_
  refine TO.end rfl ?_
  refine TQ.then ?_
  refine T.seq rfl ?_
  refine T.region rfl ?_
  refine TO.go rfl rfl rfl (Does.move rfl rfl) fun _ => ?_
  refine TO.go rfl rfl rfl (Does.bin (v := .bool (v112.1 == 1)) (vy := .int .i64 1) rfl rfl rfl g_int b_eq) fun _ => ?_
  refine TO.go rfl rfl rfl (Does.move rfl rfl) fun _ => ?_
  by_cases h115 : (v112.1 == 1) = true
  · replace hm := ite_t hm h115
    refine TO.go rfl rfl rfl (Does.move (.inl ⟨_, _, rfl, rfl, by rw [h115]; rfl⟩) rfl) fun _ => ?_
    refine TO.go rfl rfl rfl (Does.bin (v := .bool (v112.2 == 21)) (vy := .int .i64 21) (.inl ⟨_, _, rfl, rfl, by rw [h115]; rfl⟩) rfl rfl g_int b_eq) fun _ => ?_
    refine TO.go rfl rfl rfl (Does.pickT rfl rfl h115 rfl) fun _ => ?_
    refine TO.go rfl rfl rfl (Does.assign rfl rfl) fun _ => ?_
    refine TO.end rfl ?_
    refine TQ.then ?_
    refine T.ret rfl ?_
    refine TQ.result (.inl rfl) rfl (Res.tmp rfl Res.nil) rfl (fun w h => ?_)
    cases hm
    exact ⟨(), rfl, (h).ent (Ent.drop _ _)⟩
  · replace h115 := bool_f h115
    replace hm := ite_f hm h115
    refine TO.go rfl rfl rfl (Does.not (.inl ⟨_, _, rfl, rfl, by rw [h115]; rfl⟩)) fun _ => ?_
    refine TO.go rfl rfl rfl (Does.not (.inl ⟨_, _, rfl, rfl, by rw [h115]; rfl⟩)) fun _ => ?_
    refine TO.go rfl rfl rfl (Does.pickF (v := .bool false) rfl rfl h115 rfl) fun _ => ?_
    refine TO.go rfl rfl rfl (Does.assign rfl rfl) fun _ => ?_
    refine TO.end rfl ?_
    refine TQ.then ?_
    refine T.ret rfl ?_
    refine TQ.result (.inl rfl) rfl (Res.tmp rfl Res.nil) rfl (fun w h => ?_)
    cases hm
    exact ⟨(), rfl, (h).ent (Ent.drop _ _)⟩

def f12.l1 : Nat → api_Code → Int → Option Bool
  | 0, _, _ => none
  | k + 1, v0, v170 => (if (decide (v170 < (v0.Body.length : Int))) = true then ((at? v0.Body v170).bind fun v182 => (if (decide (50 < (v182.L.length : Int))) = true then some true else f12.l1 k v0 (IntKind.i64.wrap (v170 + 1)))) else some false)
/-- creel/creelref14.Much -/
def f12.f (v0 : api_Code) : Option Bool :=
  f12.l1 rounds v0 0
set_option maxRecDepth 20000 in
set_option maxHeartbeats 1000000 in
theorem f12.ok {W w : World} {R : List Assn} (v0 : api_Code) (a101 : Option Addr) (n102 : Nat) (a104 : Option Addr) (n105 : Nat) {r : Bool} (hm : f12.f v0 = some r) (hs : St W w (ro api_Instr.rep a104 n105 v0.Body :: ro api_Local.rep a101 n102 v0.Locals :: R)) :
    Calls Try.prog 12 #[.agg #[.slice a101 v0.Locals.length n102, .slice a104 v0.Body.length n105]] w (fun e w' => ∃ x : Unit, e = .returned (.bool r) ∧ St W w' (R)) := by
  unfold f12.f at hm
  refine calls_sym (vs := [.agg #[.slice a101 v0.Locals.length n102, .slice a104 v0.Body.length n105]]) Try.func12 rfl rfl hs ?_
  refine T.seq rfl ?_
  refine T.region rfl ?_
  refine TO.go rfl rfl rfl (Does.box (vs := [.slice a101 v0.Locals.length n102, .slice a104 v0.Body.length n105]) rfl rfl rfl) fun b107 => ?_
  refine TO.ent (L' := pts b107 [.slice a101 v0.Locals.length n102, .slice a104 v0.Body.length n105] :: ro api_Instr.rep a104 n105 v0.Body :: ro api_Local.rep a101 n102 v0.Locals :: R) (fun w h => h) ?_
  refine TO.go rfl rfl rfl (Does.assign (v := .bool false) rfl rfl) fun _ => ?_
  refine TO.end rfl ?_
  refine TQ.then ?_
  refine T.seq rfl ?_
  refine T.seq rfl ?_
  refine T.region rfl ?_
  refine TO.go rfl rfl rfl (Does.assign (v := .int .i64 0) rfl rfl) fun _ => ?_
  refine TO.end rfl ?_
  refine TQ.then ?_
  refine T.block rfl ?_
  refine T.loopJ (X := Int) rfl rounds (fun x => [(3, .int .i64 x), (1, .pointer (some ⟨b107, 0, none⟩))]) (fun x => ro api_Local.rep a101 n102 v0.Locals :: ro api_Instr.rep a104 n105 v0.Body :: pts b107 [.slice a101 v0.Locals.length n102, .slice a104 v0.Body.length n105] :: R) (fun n x => f12.l1 n v0 x = some r) (fun x h => by simp [f12.l1] at h) ?_ 0 hm (Sub.cons rfl (Sub.cons rfl (Sub.nil _))) (fun w h => (((((((((h).ent (Ent.copy 2 rfl)).ent (Ent.copy 2 rfl)).ent (Ent.take 3 rfl)).ent (Ent.drop _ _)).ent (Ent.take 3 rfl)).ent (Ent.drop _ _)).ent (Ent.take 2 rfl)).ent (Ent.take 1 rfl)).ent (Ent.take 2 rfl))
  intro k171 h172
  rintro v170 hm
  try dsimp only
  rw [f12.l1.eq_2] at hm
  refine T.seq rfl ?_
  refine T.seq rfl ?_
  refine T.region rfl ?_
  refine TO.go rfl rfl rfl (Does.move rfl rfl) fun _ => ?_
  refine TO.go rfl rfl rfl (Does.fieldAddr (o' := 1) rfl rfl fo_32_1 rfl) fun _ => ?_
  refine TO.go rfl rfl rfl (Does.loadPts (k := 2) (v := .slice a104 v0.Body.length n105) rfl rfl sc_30 rfl rfl) fun _ => ?_
  refine TO.go rfl rfl rfl (Does.lenSl rfl rfl sl_30) fun _ => ?_
  refine TO.go rfl rfl rfl (Does.bin (v := .bool (decide (v170 < (v0.Body.length : Int)))) rfl rfl rfl g_int b_lt) fun _ => ?_
  refine TO.end rfl ?_
  refine TQ.then ?_
  refine T.cond rfl (b := (decide (v170 < (v0.Body.length : Int)))) rfl (fun h174 => ?_) (fun h174 => ?_)
  · replace hm := ite_t hm h174
    refine T.skip rfl ?_
    refine TQ.then ?_
    refine T.seq rfl ?_
    refine T.block rfl ?_
    refine T.seq rfl ?_
    refine T.region rfl ?_
    refine TO.go rfl rfl rfl (Does.fieldAddr (o' := 1) rfl rfl fo_32_1 rfl) fun _ => ?_
    refine TO.go rfl rfl rfl (Does.loadPts (k := 2) (v := .slice a104 v0.Body.length n105) rfl rfl sc_30 rfl rfl) fun _ => ?_
    refine TO.go rfl rfl rfl (Does.move rfl rfl) fun _ => ?_
    obtain ⟨v182, h183, hm⟩ := bind_o hm
    refine TO.go rfl rfl rfl (Does.indexSl (r := api_Instr.rep) (k := 1) rfl rfl rfl sl_30 rfl Arrd.ro h183) fun _ => ?_
    refine TO.go rfl rfl rfl (Does.fieldAddrA (f' := 3) rfl rfl fo_40_3 rfl) fun _ => ?_
    refine TO.go rfl rfl rfl (Does.loadElem (r := api_Instr.rep) (k := 1) (f := 3) rfl rfl sc_23 rfl Arrd.ro (at?_out h183).2.2 rfl) fun cs184 => ?_
    refine TO.st (fun w h => api_Instr.open h) ?_
    rintro ⟨a185, n186⟩ rfl
    refine TO.ent (L' := ro (rI .u32) a185 n186 v182.L :: ro api_Local.rep a101 n102 v0.Locals :: ro api_Instr.rep a104 n105 v0.Body :: pts b107 [.slice a101 v0.Locals.length n102, .slice a104 v0.Body.length n105] :: R) (fun w h => h) ?_
    refine TO.go rfl rfl rfl (Does.lenSl rfl rfl sl_23) fun _ => ?_
    refine TO.go rfl rfl rfl (Does.bin (v := .bool (decide (50 < (v182.L.length : Int)))) (vy := .int .i64 50) rfl rfl rfl g_int b_gt) fun _ => ?_
    refine TO.end rfl ?_
    refine TQ.then ?_
    refine T.cond rfl (b := (decide (50 < (v182.L.length : Int)))) rfl (fun h188 => ?_) (fun h188 => ?_)
    · replace hm := ite_t hm h188
      refine T.seq rfl ?_
      refine T.region rfl ?_
      refine TO.go rfl rfl rfl (Does.assign (v := .bool true) rfl rfl) fun _ => ?_
      refine TO.end rfl ?_
      refine TQ.then ?_
      refine T.ret rfl ?_
      refine TQ.passBlockRet ?_
      refine TQ.passThenRet ?_
      refine TQ.passThenRet ?_
      refine TQ.passBlockRet ?_
      refine TQ.passThenRet ?_
      refine TQ.result (.inl rfl) rfl (Res.tmp rfl Res.nil) rfl (fun w h => ?_)
      cases hm
      exact ⟨(), rfl, ((((h).ent (Ent.drop _ _)).ent (Ent.drop _ _)).ent (Ent.drop _ _)).ent (Ent.drop _ _)⟩
    · replace hm := ite_f hm h188
      refine T.skip rfl ?_
      refine TQ.passBlockNormal ?_
      refine TQ.then ?_
      refine T.region rfl ?_
      refine TO.go rfl rfl rfl (Does.move rfl rfl) fun _ => ?_
      refine TO.go rfl rfl rfl (Does.bin (v := .int .i64 (IntKind.i64.wrap (v170 + 1))) (vy := .int .i64 1) rfl rfl rfl g_int b_add) fun _ => ?_
      refine TO.go rfl rfl rfl (Does.assign rfl rfl) fun _ => ?_
      refine TO.end rfl ?_
      exact TQ.again (TR.sub (h172 (IntKind.i64.wrap (v170 + 1)) hm) (Sub.cons rfl (Sub.cons rfl (Sub.nil _))) (fun w h => (((((((((((h).ent (Ent.copy 1 rfl)).ent (Ent.copy 3 rfl)).ent (Ent.take 2 rfl)).ent (Ent.drop _ _)).ent (Ent.take 2 rfl)).ent (Ent.drop _ _)).ent (Ent.take 2 rfl)).ent (Ent.drop _ _)).ent (Ent.take 2 rfl)).ent (Ent.take 1 rfl)).ent (Ent.take 2 rfl)))
  · replace hm := ite_f hm h174
    refine T.exit rfl ?_
    refine TQ.passThenExit ?_
    refine TQ.passThenExit ?_
    refine TQ.exitHere ?_
    refine TQ.then ?_
    refine T.seq rfl ?_
    refine T.region rfl ?_
    refine TO.go rfl rfl rfl (Does.assign (v := .bool false) rfl rfl) fun _ => ?_
    refine TO.end rfl ?_
    refine TQ.then ?_
    refine T.ret rfl ?_
    refine TQ.result (.inl rfl) rfl (Res.tmp rfl Res.nil) rfl (fun w h => ?_)
    cases hm
    exact ⟨(), rfl, (((h).ent (Ent.drop _ _)).ent (Ent.drop _ _)).ent (Ent.drop _ _)⟩

end Go.Proofs.Ytfonekhhbmlkbaa
