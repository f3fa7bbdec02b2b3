/- Mirrors of functions, and that the Go functions compute them. Printed by gofun.py. -/
import Derived.Test.YtfonekhhbmlkbaaG14
set_option linter.unusedVariables false
set_option linter.unusedSimpArgs false
namespace Go.Proofs.Ytfonekhhbmlkbaa
open Go Go.Sym
def f3.j1 (v0 : check_Env) (v1 : api_FuncType) (v2 : api_Code) (v149 : Int × Int) (v214 : List api_Instr) : Option Bool :=
  ((f8.f v0 v1 ({ Locals := v2.Locals, Body := v214 } : api_Code)).bind fun v224 => (if (decide (v149.1 < 0)) = true then (if (v224.1 == v149.1) = true then some (v224.2 == v149.2) else some false) else (if (v224.1 == (IntKind.i64.wrap (v149.1 + 1))) = true then some (v224.2 == v149.2) else some false)))
/-- creel/creellaw24.CheckNop -/
def f3.f (v0 : check_Env) (v1 : api_FuncType) (v2 : api_Code) : Option Bool :=
  ((f6.f).bind fun v125 => (if (!v125) = true then some false else ((f7.f v0 v1 v2).bind fun v141 => (if (!v141) = true then some true else ((f8.f v0 v1 v2).bind fun v149 => ((ap 48 ([({ Op := (1 : UInt8), A := 0, B := 0, L := [] } : api_Instr)]) v2.Body).bind fun v253 => f3.j1 v0 v1 v2 v149 v253))))))
set_option maxRecDepth 20000 in
set_option maxHeartbeats 1000000 in
theorem f3.ok {W w : World} {R : List Assn} (v0 : check_Env) (a101 : Option Addr) (n102 : Nat) (a104 : Option Addr) (n105 : Nat) (a107 : Option Addr) (n108 : Nat) (v1 : api_FuncType) (v2 : api_Code) (a110 : Option Addr) (n111 : Nat) (a113 : Option Addr) (n114 : Nat) {r : Bool} (hm : f3.f v0 v1 v2 = some r) (hs : St W w (ro api_GlobalType.rep a107 n108 v0.Globals :: ro (rI .u32) a104 n105 v0.Funcs :: ro api_FuncType.rep a101 n102 v0.Types :: ro api_Instr.rep a113 n114 v2.Body :: ro api_Local.rep a110 n111 v2.Locals :: R)) :
    Calls Try.prog 3 #[.agg #[.slice a101 v0.Types.length n102, .slice a104 v0.Funcs.length n105, .slice a107 v0.Globals.length n108, .bool v0.Table, .bool v0.Mem], .agg #[.string ⟨v1.Params.toArray⟩, .string ⟨v1.Results.toArray⟩], .agg #[.slice a110 v2.Locals.length n111, .slice a113 v2.Body.length n114]] w (fun e w' => ∃ x : Unit, e = .returned (.bool r) ∧ St W w' (R)) := by
  unfold f3.f at hm
  refine calls_sym (vs := [.agg #[.slice a101 v0.Types.length n102, .slice a104 v0.Funcs.length n105, .slice a107 v0.Globals.length n108, .bool v0.Table, .bool v0.Mem], .agg #[.string ⟨v1.Params.toArray⟩, .string ⟨v1.Results.toArray⟩], .agg #[.slice a110 v2.Locals.length n111, .slice a113 v2.Body.length n114]]) Try.func3 rfl rfl hs ?_
  refine T.seq rfl ?_
  refine T.region rfl ?_
  refine TO.go rfl rfl rfl (Does.box (vs := [.slice a101 v0.Types.length n102, .slice a104 v0.Funcs.length n105, .slice a107 v0.Globals.length n108, .bool v0.Table, .bool v0.Mem]) rfl rfl rfl) fun b116 => ?_
  refine TO.ent (L' := pts b116 [.slice a101 v0.Types.length n102, .slice a104 v0.Funcs.length n105, .slice a107 v0.Globals.length n108, .bool v0.Table, .bool v0.Mem] :: ro api_GlobalType.rep a107 n108 v0.Globals :: ro (rI .u32) a104 n105 v0.Funcs :: ro api_FuncType.rep a101 n102 v0.Types :: ro api_Instr.rep a113 n114 v2.Body :: ro api_Local.rep a110 n111 v2.Locals :: R) (fun w h => h) ?_
  refine TO.go rfl rfl rfl (Does.box (vs := [.string ⟨v1.Params.toArray⟩, .string ⟨v1.Results.toArray⟩]) rfl rfl rfl) fun b118 => ?_
  refine TO.ent (L' := pts b118 [.string ⟨v1.Params.toArray⟩, .string ⟨v1.Results.toArray⟩] :: pts b116 [.slice a101 v0.Types.length n102, .slice a104 v0.Funcs.length n105, .slice a107 v0.Globals.length n108, .bool v0.Table, .bool v0.Mem] :: ro api_GlobalType.rep a107 n108 v0.Globals :: ro (rI .u32) a104 n105 v0.Funcs :: ro api_FuncType.rep a101 n102 v0.Types :: ro api_Instr.rep a113 n114 v2.Body :: ro api_Local.rep a110 n111 v2.Locals :: R) (fun w h => h) ?_
  refine TO.go rfl rfl rfl (Does.box (vs := [.slice a110 v2.Locals.length n111, .slice a113 v2.Body.length n114]) rfl rfl rfl) fun b120 => ?_
  refine TO.ent (L' := pts b120 [.slice a110 v2.Locals.length n111, .slice a113 v2.Body.length n114] :: pts b118 [.string ⟨v1.Params.toArray⟩, .string ⟨v1.Results.toArray⟩] :: pts b116 [.slice a101 v0.Types.length n102, .slice a104 v0.Funcs.length n105, .slice a107 v0.Globals.length n108, .bool v0.Table, .bool v0.Mem] :: ro api_GlobalType.rep a107 n108 v0.Globals :: ro (rI .u32) a104 n105 v0.Funcs :: ro api_FuncType.rep a101 n102 v0.Types :: ro api_Instr.rep a113 n114 v2.Body :: ro api_Local.rep a110 n111 v2.Locals :: R) (fun w h => h) ?_
  refine TO.go rfl rfl rfl (Does.assign (v := .bool false) rfl rfl) fun _ => ?_
  refine TO.end rfl ?_
  refine TQ.then ?_
  refine T.seq rfl ?_
  refine T.seq rfl ?_
  refine T.region rfl ?_
  obtain ⟨v125, h126, hm⟩ := bind_o hm
  refine TO.go rfl rfl rfl (Does.conseq (Does.call (vs := []) rfl co_6 rfl (fun w h => f6.ok h126 (h))) (fun w h => h) (fun x w h => ((((((((h).ent (Ent.take 7 rfl)).ent (Ent.take 7 rfl)).ent (Ent.take 7 rfl)).ent (Ent.take 7 rfl)).ent (Ent.take 7 rfl)).ent (Ent.take 7 rfl)).ent (Ent.take 7 rfl)).ent (Ent.take 7 rfl))) fun _ => ?_
  refine TO.go rfl rfl rfl (Does.un (v := .bool (!v125)) rfl rfl (fun w => rfl)) fun _ => ?_
  refine TO.end rfl ?_
  refine TQ.then ?_
  refine T.cond rfl (b := (!v125)) rfl (fun h127 => ?_) (fun h127 => ?_)
  · replace hm := ite_t hm h127
    refine T.seq rfl ?_
    refine T.region rfl ?_
    refine TO.go rfl rfl rfl (Does.assign (v := .bool false) rfl rfl) fun _ => ?_
    refine TO.end rfl ?_
    refine TQ.then ?_
    refine T.ret rfl ?_
    refine TQ.passThenRet ?_
    refine TQ.result (.inl rfl) rfl (Res.tmp rfl Res.nil) rfl (fun w h => ?_)
    cases hm
    exact ⟨(), rfl, ((((((((h).ent (Ent.drop _ _)).ent (Ent.drop _ _)).ent (Ent.drop _ _)).ent (Ent.drop _ _)).ent (Ent.drop _ _)).ent (Ent.drop _ _)).ent (Ent.drop _ _)).ent (Ent.drop _ _)⟩
  · replace hm := ite_f hm h127
    refine T.skip rfl ?_
    refine TQ.then ?_
    refine T.seq rfl ?_
    refine T.seq rfl ?_
    refine T.region rfl ?_
    refine TO.go rfl rfl rfl (Does.loadPtsN (k := 2) (vs := [.slice a101 v0.Types.length n102, .slice a104 v0.Funcs.length n105, .slice a107 v0.Globals.length n108, .bool v0.Table, .bool v0.Mem]) rfl rfl ag_26 rfl rfl rfl) fun _ => ?_
    refine TO.go rfl rfl rfl (Does.loadPtsN (k := 1) (vs := [.string ⟨v1.Params.toArray⟩, .string ⟨v1.Results.toArray⟩]) rfl rfl ag_28 rfl rfl rfl) fun _ => ?_
    refine TO.go rfl rfl rfl (Does.loadPtsN (k := 0) (vs := [.slice a110 v2.Locals.length n111, .slice a113 v2.Body.length n114]) rfl rfl ag_32 rfl rfl rfl) fun _ => ?_
    obtain ⟨v141, h142, hm⟩ := bind_o hm
    refine TO.go rfl rfl rfl (Does.conseq (Does.call (vs := [.agg #[.slice a101 v0.Types.length n102, .slice a104 v0.Funcs.length n105, .slice a107 v0.Globals.length n108, .bool v0.Table, .bool v0.Mem], .agg #[.string ⟨v1.Params.toArray⟩, .string ⟨v1.Results.toArray⟩], .agg #[.slice a110 v2.Locals.length n111, .slice a113 v2.Body.length n114]]) rfl co_7 rfl (fun w h => f7.ok v0 a101 n102 a104 n105 a107 n108 v1 v2 a110 n111 a113 n114 h142 ((((((((((h).ent (Ent.copy 3 rfl)).ent (Ent.copy 5 rfl)).ent (Ent.copy 7 rfl)).ent (Ent.copy 9 rfl)).ent (Ent.copy 11 rfl)).ent (Ent.take 1 rfl)).ent (Ent.take 2 rfl)).ent (Ent.take 3 rfl)).ent (Ent.take 4 rfl)))) (fun w h => h) (fun x w h => ((((((((h).ent (Ent.take 7 rfl)).ent (Ent.take 7 rfl)).ent (Ent.take 7 rfl)).ent (Ent.take 7 rfl)).ent (Ent.take 7 rfl)).ent (Ent.take 7 rfl)).ent (Ent.take 7 rfl)).ent (Ent.take 7 rfl))) fun _ => ?_
    refine TO.go rfl rfl rfl (Does.un (v := .bool (!v141)) rfl rfl (fun w => rfl)) fun _ => ?_
    refine TO.end rfl ?_
    refine TQ.then ?_
    refine T.cond rfl (b := (!v141)) rfl (fun h143 => ?_) (fun h143 => ?_)
    · replace hm := ite_t hm h143
      refine T.seq rfl ?_
      refine T.region rfl ?_
      refine TO.go rfl rfl rfl (Does.assign (v := .bool true) rfl rfl) fun _ => ?_
      refine TO.end rfl ?_
      refine TQ.then ?_
      refine T.ret rfl ?_
      refine TQ.passThenRet ?_
      refine TQ.result (.inl rfl) rfl (Res.tmp rfl Res.nil) rfl (fun w h => ?_)
      cases hm
      exact ⟨(), rfl, ((((((((h).ent (Ent.drop _ _)).ent (Ent.drop _ _)).ent (Ent.drop _ _)).ent (Ent.drop _ _)).ent (Ent.drop _ _)).ent (Ent.drop _ _)).ent (Ent.drop _ _)).ent (Ent.drop _ _)⟩
    · replace hm := ite_f hm h143
      refine T.skip rfl ?_
      refine TQ.then ?_
      refine T.seq rfl ?_
      refine T.region rfl ?_
      refine TO.go rfl rfl rfl (Does.loadPtsN (k := 2) (vs := [.slice a101 v0.Types.length n102, .slice a104 v0.Funcs.length n105, .slice a107 v0.Globals.length n108, .bool v0.Table, .bool v0.Mem]) rfl rfl ag_26 rfl rfl rfl) fun _ => ?_
      refine TO.go rfl rfl rfl (Does.loadPtsN (k := 1) (vs := [.string ⟨v1.Params.toArray⟩, .string ⟨v1.Results.toArray⟩]) rfl rfl ag_28 rfl rfl rfl) fun _ => ?_
      refine TO.go rfl rfl rfl (Does.loadPtsN (k := 0) (vs := [.slice a110 v2.Locals.length n111, .slice a113 v2.Body.length n114]) rfl rfl ag_32 rfl rfl rfl) fun _ => ?_
      obtain ⟨v149, h150, hm⟩ := bind_o hm
      refine TO.go rfl rfl rfl (Does.conseq (Does.call (vs := [.agg #[.slice a101 v0.Types.length n102, .slice a104 v0.Funcs.length n105, .slice a107 v0.Globals.length n108, .bool v0.Table, .bool v0.Mem], .agg #[.string ⟨v1.Params.toArray⟩, .string ⟨v1.Results.toArray⟩], .agg #[.slice a110 v2.Locals.length n111, .slice a113 v2.Body.length n114]]) rfl co_8 rfl (fun w h => f8.ok v0 a101 n102 a104 n105 a107 n108 v1 v2 a110 n111 a113 n114 h150 ((((((((((h).ent (Ent.copy 3 rfl)).ent (Ent.copy 5 rfl)).ent (Ent.copy 7 rfl)).ent (Ent.copy 9 rfl)).ent (Ent.copy 11 rfl)).ent (Ent.take 1 rfl)).ent (Ent.take 2 rfl)).ent (Ent.take 3 rfl)).ent (Ent.take 4 rfl)))) (fun w h => h) (fun x w h => ((((((((h).ent (Ent.take 7 rfl)).ent (Ent.take 7 rfl)).ent (Ent.take 7 rfl)).ent (Ent.take 7 rfl)).ent (Ent.take 7 rfl)).ent (Ent.take 7 rfl)).ent (Ent.take 7 rfl)).ent (Ent.take 7 rfl))) fun _ => ?_
      refine TO.go rfl rfl rfl (Does.move rfl rfl) fun _ => ?_
      refine TO.go rfl rfl rfl (Does.extract rfl rfl rfl) fun _ => ?_
      refine TO.go rfl rfl rfl (Does.extract rfl rfl rfl) fun _ => ?_
      refine TO.go rfl rfl rfl (Does.assign rfl rfl) fun _ => ?_
      refine TO.go rfl rfl rfl (Does.assign rfl rfl) fun _ => ?_
      refine TO.end rfl ?_
      refine TQ.then ?_
      refine T.seqJ (X := Nat × (List api_Instr) × (Option Addr) × Nat) rfl (fun x => [(9, .pointer (some ⟨x.1, 0, none⟩)), (8, .int .i64 v149.2), (7, .int .i64 v149.1), (4, .pointer (some ⟨b118, 0, none⟩)), (3, .pointer (some ⟨b116, 0, none⟩))]) (fun x => ro api_FuncType.rep a101 n102 v0.Types :: ro (rI .u32) a104 n105 v0.Funcs :: ro api_GlobalType.rep a107 n108 v0.Globals :: pts b116 [.slice a101 v0.Types.length n102, .slice a104 v0.Funcs.length n105, .slice a107 v0.Globals.length n108, .bool v0.Table, .bool v0.Mem] :: pts b118 [.string ⟨v1.Params.toArray⟩, .string ⟨v1.Results.toArray⟩] :: ro api_Local.rep a110 n111 v2.Locals :: own api_Instr.rep x.2.2.1 x.2.2.2 x.2.1 :: pts x.1 [.slice a110 v2.Locals.length n111, .slice x.2.2.1 x.2.1.length x.2.2.2] :: R) (fun x => f3.j1 v0 v1 v2 v149 x.2.1 = some r) ?_ ?_
      · rintro ⟨b211, v214, a215, n216⟩ hm
        try dsimp only
        unfold f3.j1 at hm
        refine T.seq rfl ?_
        refine T.region rfl ?_
        refine TO.go rfl rfl rfl (Does.loadPtsN (k := 3) (vs := [.slice a101 v0.Types.length n102, .slice a104 v0.Funcs.length n105, .slice a107 v0.Globals.length n108, .bool v0.Table, .bool v0.Mem]) rfl rfl ag_26 rfl rfl rfl) fun _ => ?_
        refine TO.go rfl rfl rfl (Does.loadPtsN (k := 4) (vs := [.string ⟨v1.Params.toArray⟩, .string ⟨v1.Results.toArray⟩]) rfl rfl ag_28 rfl rfl rfl) fun _ => ?_
        refine TO.go rfl rfl rfl (Does.loadPtsN (k := 7) (vs := [.slice a110 v2.Locals.length n111, .slice a215 v214.length n216]) rfl rfl ag_32 rfl rfl rfl) fun _ => ?_
        obtain ⟨v224, h225, hm⟩ := bind_o hm
        refine TO.go rfl rfl rfl (Does.call (vs := [.agg #[.slice a101 v0.Types.length n102, .slice a104 v0.Funcs.length n105, .slice a107 v0.Globals.length n108, .bool v0.Table, .bool v0.Mem], .agg #[.string ⟨v1.Params.toArray⟩, .string ⟨v1.Results.toArray⟩], .agg #[.slice a110 v2.Locals.length n111, .slice a215 v214.length n216]]) rfl co_8 rfl (fun w h => f8.ok v0 a101 n102 a104 n105 a107 n108 v1 ({ Locals := v2.Locals, Body := v214 } : api_Code) a110 n111 a215 n216 h225 (((((((Go.Sym.freeze (((((h).ent (Ent.copy 2 rfl)).ent (Ent.copy 2 rfl)).ent (Ent.copy 2 rfl)).ent (Ent.take 9 rfl))).ent (Ent.copy 0 rfl)).ent (Ent.copy 10 rfl)).ent (Ent.take 1 rfl)).ent (Ent.take 3 rfl)).ent (Ent.take 4 rfl)).ent (Ent.take 5 rfl)))) fun _ => ?_
        refine TO.ent (L' := ro api_Instr.rep a215 n216 v214 :: ro api_FuncType.rep a101 n102 v0.Types :: ro (rI .u32) a104 n105 v0.Funcs :: ro api_GlobalType.rep a107 n108 v0.Globals :: pts b116 [.slice a101 v0.Types.length n102, .slice a104 v0.Funcs.length n105, .slice a107 v0.Globals.length n108, .bool v0.Table, .bool v0.Mem] :: pts b118 [.string ⟨v1.Params.toArray⟩, .string ⟨v1.Results.toArray⟩] :: ro api_Local.rep a110 n111 v2.Locals :: pts b211 [.slice a110 v2.Locals.length n111, .slice a215 v214.length n216] :: R) (fun w h => h) ?_
        refine TO.go rfl rfl rfl (Does.move rfl rfl) fun _ => ?_
        refine TO.go rfl rfl rfl (Does.extract rfl rfl rfl) fun _ => ?_
        refine TO.go rfl rfl rfl (Does.extract rfl rfl rfl) fun _ => ?_
        refine TO.go rfl rfl rfl (Does.assign rfl rfl) fun _ => ?_
        refine TO.go rfl rfl rfl (Does.assign rfl rfl) fun _ => ?_
        refine TO.end rfl ?_
        refine TQ.then ?_
        refine T.seq rfl ?_
        refine T.seq rfl ?_
        refine T.region rfl ?_
        refine TO.go rfl rfl rfl (Does.move rfl rfl) fun _ => ?_
        refine TO.go rfl rfl rfl (Does.bin (v := .bool (decide (v149.1 < 0))) (vy := .int .i64 0) rfl rfl rfl g_int b_lt) fun _ => ?_
        refine TO.end rfl ?_
        refine TQ.then ?_
        refine T.cond rfl (b := (decide (v149.1 < 0))) rfl (fun h228 => ?_) (fun h228 => ?_)
        · replace hm := ite_t hm h228
          refine T.seq rfl ?_
          refine T.region rfl ?_
          refine TO.go rfl rfl rfl (Does.move rfl rfl) fun _ => ?_
          refine TO.go rfl rfl rfl (Does.move rfl rfl) fun _ => ?_
          refine TO.go rfl rfl rfl (Does.bin (v := .bool (v224.1 == v149.1)) rfl rfl rfl g_int b_eq) fun _ => ?_
          refine TO.go rfl rfl rfl (Does.move rfl rfl) fun _ => ?_
          by_cases h230 : (v224.1 == v149.1) = true
          · replace hm := ite_t hm h230
            refine TO.go rfl rfl rfl (Does.move (.inl ⟨_, _, rfl, rfl, by rw [h230]; rfl⟩) rfl) fun _ => ?_
            refine TO.go rfl rfl rfl (Does.move (.inl ⟨_, _, rfl, rfl, by rw [h230]; rfl⟩) rfl) fun _ => ?_
            refine TO.go rfl rfl rfl (Does.bin (v := .bool (v224.2 == v149.2)) (.inl ⟨_, _, rfl, rfl, by rw [h230]; rfl⟩) rfl rfl g_int b_eq) fun _ => ?_
            refine TO.go rfl rfl rfl (Does.pickT rfl rfl h230 rfl) fun _ => ?_
            refine TO.go rfl rfl rfl (Does.assign rfl rfl) fun _ => ?_
            refine TO.end rfl ?_
            refine TQ.then ?_
            refine T.ret rfl ?_
            refine TQ.passThenRet ?_
            refine TQ.result (.inl rfl) rfl (Res.tmp rfl Res.nil) rfl (fun w h => ?_)
            cases hm
            exact ⟨(), rfl, ((((((((h).ent (Ent.drop _ _)).ent (Ent.drop _ _)).ent (Ent.drop _ _)).ent (Ent.drop _ _)).ent (Ent.drop _ _)).ent (Ent.drop _ _)).ent (Ent.drop _ _)).ent (Ent.drop _ _)⟩
          · replace h230 := bool_f h230
            replace hm := ite_f hm h230
            refine TO.go rfl rfl rfl (Does.not (.inl ⟨_, _, rfl, rfl, by rw [h230]; rfl⟩)) fun _ => ?_
            refine TO.go rfl rfl rfl (Does.not (.inl ⟨_, _, rfl, rfl, by rw [h230]; rfl⟩)) fun _ => ?_
            refine TO.go rfl rfl rfl (Does.not (.inl ⟨_, _, rfl, rfl, by rw [h230]; rfl⟩)) fun _ => ?_
            refine TO.go rfl rfl rfl (Does.pickF (v := .bool false) rfl rfl h230 rfl) fun _ => ?_
            refine TO.go rfl rfl rfl (Does.assign rfl rfl) fun _ => ?_
            refine TO.end rfl ?_
            refine TQ.then ?_
            refine T.ret rfl ?_
            refine TQ.passThenRet ?_
            refine TQ.result (.inl rfl) rfl (Res.tmp rfl Res.nil) rfl (fun w h => ?_)
            cases hm
            exact ⟨(), rfl, ((((((((h).ent (Ent.drop _ _)).ent (Ent.drop _ _)).ent (Ent.drop _ _)).ent (Ent.drop _ _)).ent (Ent.drop _ _)).ent (Ent.drop _ _)).ent (Ent.drop _ _)).ent (Ent.drop _ _)⟩
        · replace hm := ite_f hm h228
          refine T.skip rfl ?_
          refine TQ.then ?_
          refine T.seq rfl ?_
          refine T.region rfl ?_
          refine TO.go rfl rfl rfl (Does.move rfl rfl) fun _ => ?_
          refine TO.go rfl rfl rfl (Does.move rfl rfl) fun _ => ?_
          refine TO.go rfl rfl rfl (Does.bin (v := .int .i64 (IntKind.i64.wrap (v149.1 + 1))) (vy := .int .i64 1) rfl rfl rfl g_int b_add) fun _ => ?_
          refine TO.go rfl rfl rfl (Does.bin (v := .bool (v224.1 == (IntKind.i64.wrap (v149.1 + 1)))) rfl rfl rfl g_int b_eq) fun _ => ?_
          refine TO.go rfl rfl rfl (Does.move rfl rfl) fun _ => ?_
          by_cases h232 : (v224.1 == (IntKind.i64.wrap (v149.1 + 1))) = true
          · replace hm := ite_t hm h232
            refine TO.go rfl rfl rfl (Does.move (.inl ⟨_, _, rfl, rfl, by rw [h232]; rfl⟩) rfl) fun _ => ?_
            refine TO.go rfl rfl rfl (Does.move (.inl ⟨_, _, rfl, rfl, by rw [h232]; rfl⟩) rfl) fun _ => ?_
            refine TO.go rfl rfl rfl (Does.bin (v := .bool (v224.2 == v149.2)) (.inl ⟨_, _, rfl, rfl, by rw [h232]; rfl⟩) rfl rfl g_int b_eq) fun _ => ?_
            refine TO.go rfl rfl rfl (Does.pickT rfl rfl h232 rfl) fun _ => ?_
            refine TO.go rfl rfl rfl (Does.assign rfl rfl) fun _ => ?_
            refine TO.end rfl ?_
            refine TQ.then ?_
            refine T.ret rfl ?_
            refine TQ.result (.inl rfl) rfl (Res.tmp rfl Res.nil) rfl (fun w h => ?_)
            cases hm
            exact ⟨(), rfl, ((((((((h).ent (Ent.drop _ _)).ent (Ent.drop _ _)).ent (Ent.drop _ _)).ent (Ent.drop _ _)).ent (Ent.drop _ _)).ent (Ent.drop _ _)).ent (Ent.drop _ _)).ent (Ent.drop _ _)⟩
          · replace h232 := bool_f h232
            replace hm := ite_f hm h232
            refine TO.go rfl rfl rfl (Does.not (.inl ⟨_, _, rfl, rfl, by rw [h232]; rfl⟩)) fun _ => ?_
            refine TO.go rfl rfl rfl (Does.not (.inl ⟨_, _, rfl, rfl, by rw [h232]; rfl⟩)) fun _ => ?_
            refine TO.go rfl rfl rfl (Does.not (.inl ⟨_, _, rfl, rfl, by rw [h232]; rfl⟩)) fun _ => ?_
            refine TO.go rfl rfl rfl (Does.pickF (v := .bool false) rfl rfl h232 rfl) fun _ => ?_
            refine TO.go rfl rfl rfl (Does.assign rfl rfl) fun _ => ?_
            refine TO.end rfl ?_
            refine TQ.then ?_
            refine T.ret rfl ?_
            refine TQ.result (.inl rfl) rfl (Res.tmp rfl Res.nil) rfl (fun w h => ?_)
            cases hm
            exact ⟨(), rfl, ((((((((h).ent (Ent.drop _ _)).ent (Ent.drop _ _)).ent (Ent.drop _ _)).ent (Ent.drop _ _)).ent (Ent.drop _ _)).ent (Ent.drop _ _)).ent (Ent.drop _ _)).ent (Ent.drop _ _)⟩
      · intro h218
        refine T.draw [0, 1, 2, 4, 5, 7] rfl mixed ?_
        refine RA.quiet (i := 0) (v := .pointer (some ⟨b120, 0, none⟩)) PendOK.nil rfl rfl rfl rfl rfl rfl (Does.fieldAddr (o' := 0) rfl rfl fo_32_0 rfl) fun h243 => ?_
        refine RA.quiet (i := 1) (v := .slice a110 v2.Locals.length n111) h243 rfl rfl rfl rfl rfl rfl (Does.loadPts (k := 0) (v := .slice a110 v2.Locals.length n111) rfl rfl sc_29 rfl rfl) fun h244 => ?_
        refine RA.quiet (i := 2) (v := .agg #[.int .u8 (1 : UInt8).toNat, .int .u64 0, .int .u64 0, .slice none 0 0]) h244 rfl rfl rfl rfl rfl rfl (Does.build (v := .agg #[.int .u8 (1 : UInt8).toNat, .int .u64 0, .int .u64 0, .slice none 0 0]) (vs := [(0, .int .u8 (1 : UInt8).toNat)]) rfl rfl (fun w => by kernel_rfl)) fun h245 => ?_
        refine RA.quiet (i := 4) (v := .pointer (some ⟨b120, 1, none⟩)) h245 rfl rfl rfl rfl rfl rfl (Does.fieldAddr (o' := 1) rfl rfl fo_32_1 rfl) fun h246 => ?_
        refine RA.quiet (i := 5) (v := .slice a113 v2.Body.length n114) h246 rfl rfl rfl rfl rfl rfl (Does.loadPts (k := 0) (v := .slice a113 v2.Body.length n114) rfl rfl sc_30 rfl rfl) fun h247 => ?_
        refine RA.effs [3, 8] (by kernel_rfl) h247 (by simp) (by kernel_rfl) (List.forall_mem_cons.2 ⟨?_, (List.forall_mem_cons.2 ⟨?_, (fun _ h => by cases h)⟩)⟩)
        · refine EffOK.mk (k := 3) (pend' := [(5, .slice a113 v2.Body.length n114), (4, .pointer (some ⟨b120, 1, none⟩)), (1, .slice a110 v2.Locals.length n111), (0, .pointer (some ⟨b120, 0, none⟩))]) rfl (.inl ⟨_, rfl, rfl, fun _ => rfl⟩) rfl (Does.buildSlice (r := api_Instr.rep) (l := [({ Op := (1 : UInt8), A := 0, B := 0, L := [] } : api_Instr)]) (cs := [.int .u8 (1 : UInt8).toNat, .int .u64 0, .int .u64 0, .slice none 0 0]) (vs := [(0, .agg #[.int .u8 (1 : UInt8).toNat, .int .u64 0, .int .u64 0, .slice none 0 0])]) rfl rfl sl_30 (fun w => by kernel_rfl) rfl rfl (fun w h => (api_Instr.shut (x := ({ Op := (1 : UInt8), A := 0, B := 0, L := [] } : api_Instr)) (none, 0) ((h).ent (Ent.add (ro_nil (rI .u32) none 0)))).ent (Ent.unstar (L := [_])))) rfl (fun a250 => (List.forall_mem_cons.2 ⟨⟨_, rfl, Does.loadPts (k := 1) (v := .slice a113 v2.Body.length n114) rfl rfl sc_30 rfl rfl⟩, (List.forall_mem_cons.2 ⟨⟨_, rfl, Does.fieldAddr (o' := 1) rfl rfl fo_32_1 rfl⟩, (List.forall_mem_cons.2 ⟨⟨_, rfl, Does.loadPts (k := 1) (v := .slice a110 v2.Locals.length n111) rfl rfl sc_29 rfl rfl⟩, (List.forall_mem_cons.2 ⟨⟨_, rfl, Does.fieldAddr (o' := 0) rfl rfl fo_32_0 rfl⟩, (fun _ h => by cases h)⟩)⟩)⟩)⟩)) (fun a250 h251 => ?_)
          refine RA.effs [6, 8] (by kernel_rfl) h251 (by simp) (by kernel_rfl) (List.forall_mem_cons.2 ⟨?_, (List.forall_mem_cons.2 ⟨?_, (fun _ h => by cases h)⟩)⟩)
          · obtain ⟨v253, h254, hm⟩ := bind_o hm
            refine EffOK.mk (k := 6) (pend' := [(4, .pointer (some ⟨b120, 1, none⟩)), (1, .slice a110 v2.Locals.length n111), (0, .pointer (some ⟨b120, 0, none⟩))]) rfl (.inl ⟨_, rfl, rfl, fun _ => rfl⟩) rfl (Does.append (r := api_Instr.rep) (k := 0) (l := [({ Op := (1 : UInt8), A := 0, B := 0, L := [] } : api_Instr)]) (l2 := v2.Body) rfl rfl rfl sl_30 zn_40 rfl rfl (Srcs.sl sl_30 (k := 6) rfl Arrd.ro) h254) rfl (fun ⟨a255, n256⟩ => (List.forall_mem_cons.2 ⟨⟨_, rfl, Does.fieldAddr (o' := 1) rfl rfl fo_32_1 rfl⟩, (List.forall_mem_cons.2 ⟨⟨_, rfl, Does.loadPts (k := 1) (v := .slice a110 v2.Locals.length n111) rfl rfl sc_29 rfl rfl⟩, (List.forall_mem_cons.2 ⟨⟨_, rfl, Does.fieldAddr (o' := 0) rfl rfl fo_32_0 rfl⟩, (fun _ h => by cases h)⟩)⟩)⟩)) (fun ⟨a255, n256⟩ h257 => ?_)
            refine RA.quiet (i := 7) (v := .agg #[.slice a110 v2.Locals.length n111, .slice a255 v253.length n256]) h257 rfl rfl rfl rfl rfl rfl (Does.build (v := .agg #[.slice a110 v2.Locals.length n111, .slice a255 v253.length n256]) (vs := [(0, .slice a110 v2.Locals.length n111), (1, .slice a255 v253.length n256)]) rfl rfl (fun w => by kernel_rfl)) fun h258 => ?_
            refine RA.eff (k := 8) (pend' := [(7, .agg #[.slice a110 v2.Locals.length n111, .slice a255 v253.length n256]), (4, .pointer (some ⟨b120, 1, none⟩)), (1, .slice a110 v2.Locals.length n111), (0, .pointer (some ⟨b120, 0, none⟩))]) (by kernel_rfl) h258 rfl (.inl ⟨_, rfl, rfl, fun _ => rfl⟩) rfl (by kernel_rfl) (Does.alloc rfl zn_32) rfl (fun b259 => (List.forall_mem_cons.2 ⟨⟨_, rfl, Does.build (v := .agg #[.slice a110 v2.Locals.length n111, .slice a255 v253.length n256]) (vs := [(0, .slice a110 v2.Locals.length n111), (1, .slice a255 v253.length n256)]) rfl rfl (fun w => by kernel_rfl)⟩, (List.forall_mem_cons.2 ⟨⟨_, rfl, Does.fieldAddr (o' := 1) rfl rfl fo_32_1 rfl⟩, (List.forall_mem_cons.2 ⟨⟨_, rfl, Does.loadPts (k := 2) (v := .slice a110 v2.Locals.length n111) rfl rfl sc_29 rfl rfl⟩, (List.forall_mem_cons.2 ⟨⟨_, rfl, Does.fieldAddr (o' := 0) rfl rfl fo_32_0 rfl⟩, (fun _ h => by cases h)⟩)⟩)⟩)⟩)) (fun b259 h260 => ?_)
            refine RA.eff (k := 9) (pend' := []) (by kernel_rfl) h260 rfl (.inr ⟨rfl, fun _ => rfl⟩) rfl (by kernel_rfl) (Does.storePts (k := 0) (vs := [.slice a110 v2.Locals.length n111, .slice a255 v253.length n256]) (cs' := [.slice a110 v2.Locals.length n111, .slice a255 v253.length n256]) rfl rfl rfl rfl rfl cn_32 rfl rfl rfl rfl) rfl (fun _ => (fun _ h => by cases h)) (fun _ h262 => ?_)
            refine RA.done (by kernel_rfl) h262 rfl ?_
            exact TQ.then (T.sub (h218 (b259, v253, a255, n256) hm) (Sub.cons rfl (Sub.cons rfl (Sub.cons rfl (Sub.cons rfl (Sub.cons rfl (Sub.nil _)))))) (fun w h => ((((((((((((((((((((((((h).ent (Ent.copy 7 rfl)).ent (Ent.copy 7 rfl)).ent (Ent.copy 7 rfl)).ent (Ent.copy 12 rfl)).ent (Ent.take 6 rfl)).ent (Ent.drop _ _)).ent (Ent.take 8 rfl)).ent (Ent.drop _ _)).ent (Ent.take 8 rfl)).ent (Ent.drop _ _)).ent (Ent.take 8 rfl)).ent (Ent.drop _ _)).ent (Ent.take 8 rfl)).ent (Ent.drop _ _)).ent (Ent.take 8 rfl)).ent (Ent.drop _ _)).ent (Ent.take 4 rfl)).ent (Ent.take 5 rfl)).ent (Ent.take 2 rfl)).ent (Ent.take 6 rfl)).ent (Ent.take 7 rfl)).ent (Ent.take 5 rfl)).ent (Ent.take 6 rfl)).ent (Ent.take 7 rfl)))
          · refine EffOK.mk (k := 8) (pend' := [(5, .slice a113 v2.Body.length n114), (4, .pointer (some ⟨b120, 1, none⟩)), (1, .slice a110 v2.Locals.length n111), (0, .pointer (some ⟨b120, 0, none⟩))]) rfl (.inl ⟨_, rfl, rfl, fun _ => rfl⟩) rfl (Does.alloc rfl zn_32) rfl (fun b267 => (List.forall_mem_cons.2 ⟨⟨_, rfl, Does.loadPts (k := 2) (v := .slice a113 v2.Body.length n114) rfl rfl sc_30 rfl rfl⟩, (List.forall_mem_cons.2 ⟨⟨_, rfl, Does.fieldAddr (o' := 1) rfl rfl fo_32_1 rfl⟩, (List.forall_mem_cons.2 ⟨⟨_, rfl, Does.loadPts (k := 2) (v := .slice a110 v2.Locals.length n111) rfl rfl sc_29 rfl rfl⟩, (List.forall_mem_cons.2 ⟨⟨_, rfl, Does.fieldAddr (o' := 0) rfl rfl fo_32_0 rfl⟩, (fun _ h => by cases h)⟩)⟩)⟩)⟩)) (fun b267 h268 => ?_)
            obtain ⟨v270, h271, hm⟩ := bind_o hm
            refine RA.eff (k := 6) (pend' := [(4, .pointer (some ⟨b120, 1, none⟩)), (1, .slice a110 v2.Locals.length n111), (0, .pointer (some ⟨b120, 0, none⟩))]) (by kernel_rfl) h268 rfl (.inl ⟨_, rfl, rfl, fun _ => rfl⟩) rfl (by kernel_rfl) (Does.append (r := api_Instr.rep) (k := 1) (l := [({ Op := (1 : UInt8), A := 0, B := 0, L := [] } : api_Instr)]) (l2 := v2.Body) rfl rfl rfl sl_30 zn_40 rfl rfl (Srcs.sl sl_30 (k := 7) rfl Arrd.ro) h271) rfl (fun ⟨a272, n273⟩ => (List.forall_mem_cons.2 ⟨⟨_, rfl, Does.fieldAddr (o' := 1) rfl rfl fo_32_1 rfl⟩, (List.forall_mem_cons.2 ⟨⟨_, rfl, Does.loadPts (k := 2) (v := .slice a110 v2.Locals.length n111) rfl rfl sc_29 rfl rfl⟩, (List.forall_mem_cons.2 ⟨⟨_, rfl, Does.fieldAddr (o' := 0) rfl rfl fo_32_0 rfl⟩, (fun _ h => by cases h)⟩)⟩)⟩)) (fun ⟨a272, n273⟩ h274 => ?_)
            refine RA.quiet (i := 7) (v := .agg #[.slice a110 v2.Locals.length n111, .slice a272 v270.length n273]) h274 rfl rfl rfl rfl rfl rfl (Does.build (v := .agg #[.slice a110 v2.Locals.length n111, .slice a272 v270.length n273]) (vs := [(0, .slice a110 v2.Locals.length n111), (1, .slice a272 v270.length n273)]) rfl rfl (fun w => by kernel_rfl)) fun h275 => ?_
            refine RA.eff (k := 9) (pend' := []) (by kernel_rfl) h275 rfl (.inr ⟨rfl, fun _ => rfl⟩) rfl (by kernel_rfl) (Does.storePts (k := 0) (vs := [.slice a110 v2.Locals.length n111, .slice a272 v270.length n273]) (cs' := [.slice a110 v2.Locals.length n111, .slice a272 v270.length n273]) rfl rfl rfl rfl rfl cn_32 rfl rfl rfl rfl) rfl (fun _ => (fun _ h => by cases h)) (fun _ h276 => ?_)
            refine RA.done (by kernel_rfl) h276 rfl ?_
            exact TQ.then (T.sub (h218 (b267, v270, a272, n273) hm) (Sub.cons rfl (Sub.cons rfl (Sub.cons rfl (Sub.cons rfl (Sub.cons rfl (Sub.nil _)))))) (fun w h => ((((((((((((((((((((((((h).ent (Ent.copy 7 rfl)).ent (Ent.copy 7 rfl)).ent (Ent.copy 7 rfl)).ent (Ent.copy 12 rfl)).ent (Ent.take 6 rfl)).ent (Ent.drop _ _)).ent (Ent.take 8 rfl)).ent (Ent.drop _ _)).ent (Ent.take 8 rfl)).ent (Ent.drop _ _)).ent (Ent.take 8 rfl)).ent (Ent.drop _ _)).ent (Ent.take 8 rfl)).ent (Ent.drop _ _)).ent (Ent.take 8 rfl)).ent (Ent.drop _ _)).ent (Ent.take 4 rfl)).ent (Ent.take 5 rfl)).ent (Ent.take 2 rfl)).ent (Ent.take 6 rfl)).ent (Ent.take 7 rfl)).ent (Ent.take 5 rfl)).ent (Ent.take 6 rfl)).ent (Ent.take 7 rfl)))
        · refine EffOK.mk (k := 8) (pend' := [(5, .slice a113 v2.Body.length n114), (4, .pointer (some ⟨b120, 1, none⟩)), (2, .agg #[.int .u8 (1 : UInt8).toNat, .int .u64 0, .int .u64 0, .slice none 0 0]), (1, .slice a110 v2.Locals.length n111), (0, .pointer (some ⟨b120, 0, none⟩))]) rfl (.inl ⟨_, rfl, rfl, fun _ => rfl⟩) rfl (Does.alloc rfl zn_32) rfl (fun b281 => (List.forall_mem_cons.2 ⟨⟨_, rfl, Does.loadPts (k := 1) (v := .slice a113 v2.Body.length n114) rfl rfl sc_30 rfl rfl⟩, (List.forall_mem_cons.2 ⟨⟨_, rfl, Does.fieldAddr (o' := 1) rfl rfl fo_32_1 rfl⟩, (List.forall_mem_cons.2 ⟨⟨_, rfl, Does.build (v := .agg #[.int .u8 (1 : UInt8).toNat, .int .u64 0, .int .u64 0, .slice none 0 0]) (vs := [(0, .int .u8 (1 : UInt8).toNat)]) rfl rfl (fun w => by kernel_rfl)⟩, (List.forall_mem_cons.2 ⟨⟨_, rfl, Does.loadPts (k := 1) (v := .slice a110 v2.Locals.length n111) rfl rfl sc_29 rfl rfl⟩, (List.forall_mem_cons.2 ⟨⟨_, rfl, Does.fieldAddr (o' := 0) rfl rfl fo_32_0 rfl⟩, (fun _ h => by cases h)⟩)⟩)⟩)⟩)⟩)) (fun b281 h282 => ?_)
          refine RA.eff (k := 3) (pend' := [(5, .slice a113 v2.Body.length n114), (4, .pointer (some ⟨b120, 1, none⟩)), (1, .slice a110 v2.Locals.length n111), (0, .pointer (some ⟨b120, 0, none⟩))]) (by kernel_rfl) h282 rfl (.inl ⟨_, rfl, rfl, fun _ => rfl⟩) rfl (by kernel_rfl) (Does.buildSlice (r := api_Instr.rep) (l := [({ Op := (1 : UInt8), A := 0, B := 0, L := [] } : api_Instr)]) (cs := [.int .u8 (1 : UInt8).toNat, .int .u64 0, .int .u64 0, .slice none 0 0]) (vs := [(0, .agg #[.int .u8 (1 : UInt8).toNat, .int .u64 0, .int .u64 0, .slice none 0 0])]) rfl rfl sl_30 (fun w => by kernel_rfl) rfl rfl (fun w h => (api_Instr.shut (x := ({ Op := (1 : UInt8), A := 0, B := 0, L := [] } : api_Instr)) (none, 0) ((h).ent (Ent.add (ro_nil (rI .u32) none 0)))).ent (Ent.unstar (L := [_])))) rfl (fun a286 => (List.forall_mem_cons.2 ⟨⟨_, rfl, Does.loadPts (k := 2) (v := .slice a113 v2.Body.length n114) rfl rfl sc_30 rfl rfl⟩, (List.forall_mem_cons.2 ⟨⟨_, rfl, Does.fieldAddr (o' := 1) rfl rfl fo_32_1 rfl⟩, (List.forall_mem_cons.2 ⟨⟨_, rfl, Does.loadPts (k := 2) (v := .slice a110 v2.Locals.length n111) rfl rfl sc_29 rfl rfl⟩, (List.forall_mem_cons.2 ⟨⟨_, rfl, Does.fieldAddr (o' := 0) rfl rfl fo_32_0 rfl⟩, (fun _ h => by cases h)⟩)⟩)⟩)⟩)) (fun a286 h287 => ?_)
          obtain ⟨v289, h290, hm⟩ := bind_o hm
          refine RA.eff (k := 6) (pend' := [(4, .pointer (some ⟨b120, 1, none⟩)), (1, .slice a110 v2.Locals.length n111), (0, .pointer (some ⟨b120, 0, none⟩))]) (by kernel_rfl) h287 rfl (.inl ⟨_, rfl, rfl, fun _ => rfl⟩) rfl (by kernel_rfl) (Does.append (r := api_Instr.rep) (k := 0) (l := [({ Op := (1 : UInt8), A := 0, B := 0, L := [] } : api_Instr)]) (l2 := v2.Body) rfl rfl rfl sl_30 zn_40 rfl rfl (Srcs.sl sl_30 (k := 7) rfl Arrd.ro) h290) rfl (fun ⟨a291, n292⟩ => (List.forall_mem_cons.2 ⟨⟨_, rfl, Does.fieldAddr (o' := 1) rfl rfl fo_32_1 rfl⟩, (List.forall_mem_cons.2 ⟨⟨_, rfl, Does.loadPts (k := 2) (v := .slice a110 v2.Locals.length n111) rfl rfl sc_29 rfl rfl⟩, (List.forall_mem_cons.2 ⟨⟨_, rfl, Does.fieldAddr (o' := 0) rfl rfl fo_32_0 rfl⟩, (fun _ h => by cases h)⟩)⟩)⟩)) (fun ⟨a291, n292⟩ h293 => ?_)
          refine RA.quiet (i := 7) (v := .agg #[.slice a110 v2.Locals.length n111, .slice a291 v289.length n292]) h293 rfl rfl rfl rfl rfl rfl (Does.build (v := .agg #[.slice a110 v2.Locals.length n111, .slice a291 v289.length n292]) (vs := [(0, .slice a110 v2.Locals.length n111), (1, .slice a291 v289.length n292)]) rfl rfl (fun w => by kernel_rfl)) fun h294 => ?_
          refine RA.eff (k := 9) (pend' := []) (by kernel_rfl) h294 rfl (.inr ⟨rfl, fun _ => rfl⟩) rfl (by kernel_rfl) (Does.storePts (k := 1) (vs := [.slice a110 v2.Locals.length n111, .slice a291 v289.length n292]) (cs' := [.slice a110 v2.Locals.length n111, .slice a291 v289.length n292]) rfl rfl rfl rfl rfl cn_32 rfl rfl rfl rfl) rfl (fun _ => (fun _ h => by cases h)) (fun _ h295 => ?_)
          refine RA.done (by kernel_rfl) h295 rfl ?_
          exact TQ.then (T.sub (h218 (b281, v289, a291, n292) hm) (Sub.cons rfl (Sub.cons rfl (Sub.cons rfl (Sub.cons rfl (Sub.cons rfl (Sub.nil _)))))) (fun w h => ((((((((((((((((((((((((h).ent (Ent.copy 7 rfl)).ent (Ent.copy 7 rfl)).ent (Ent.copy 7 rfl)).ent (Ent.copy 12 rfl)).ent (Ent.take 6 rfl)).ent (Ent.drop _ _)).ent (Ent.take 8 rfl)).ent (Ent.drop _ _)).ent (Ent.take 8 rfl)).ent (Ent.drop _ _)).ent (Ent.take 8 rfl)).ent (Ent.drop _ _)).ent (Ent.take 8 rfl)).ent (Ent.drop _ _)).ent (Ent.take 8 rfl)).ent (Ent.drop _ _)).ent (Ent.take 5 rfl)).ent (Ent.take 5 rfl)).ent (Ent.take 2 rfl)).ent (Ent.take 6 rfl)).ent (Ent.take 7 rfl)).ent (Ent.take 5 rfl)).ent (Ent.take 6 rfl)).ent (Ent.take 7 rfl)))

end Go.Proofs.Ytfonekhhbmlkbaa
