/- Mirrors of functions, and that the Go functions compute them. Printed by gofun.py. -/
import Derived.Test.YtfonekhhbmlkbaaG13
set_option linter.unusedVariables false
set_option linter.unusedSimpArgs false
namespace Go.Proofs.Ytfonekhhbmlkbaa
open Go Go.Sym
def f7.j3 (K_l2 : Int → Option Bool) (v234 : Int) (v255 : Bool) : Option Bool :=
  (if v255 = true then some false else K_l2 (IntKind.i64.wrap (v234 + 1)))
def f7.l2 : Nat → check_Env → Int → Option Bool
  | 0, _, _ => none
  | k + 1, v0, v234 => (if (decide (v234 < (v0.Types.length : Int))) = true then ((at? v0.Types v234).bind fun v261 => (if (decide (50 < (v261.Params.length : Int))) = true then f7.j3 (f7.l2 k v0) v234 true else f7.j3 (f7.l2 k v0) v234 (decide (5 < (v261.Results.length : Int))))) else some true)
def f7.j1 (v0 : check_Env) (v154 : Bool) : Option Bool :=
  (if v154 = true then some false else f7.l2 rounds v0 0)
/-- creel/creellaw24.Small -/
def f7.f (v0 : check_Env) (v1 : api_FuncType) (v2 : api_Code) : Option Bool :=
  (if (decide (20 < (v0.Types.length : Int))) = true then f7.j1 v0 true else (if (decide (50 < (v0.Funcs.length : Int))) = true then f7.j1 v0 true else (if (decide (50 < (v0.Globals.length : Int))) = true then f7.j1 v0 true else (if (decide (50 < (v1.Params.length : Int))) = true then f7.j1 v0 true else (if (decide (5 < (v1.Results.length : Int))) = true then f7.j1 v0 true else (if (decide (100 < (v2.Body.length : Int))) = true then f7.j1 v0 true else (if (decide (20 < (v2.Locals.length : Int))) = true then f7.j1 v0 true else ((f12.f v2).bind fun v303 => f7.j1 v0 v303))))))))
set_option maxRecDepth 20000 in
set_option maxHeartbeats 1000000 in
theorem f7.ok {W w : World} {R : List Assn} (v0 : check_Env) (a101 : Option Addr) (n102 : Nat) (a104 : Option Addr) (n105 : Nat) (a107 : Option Addr) (n108 : Nat) (v1 : api_FuncType) (v2 : api_Code) (a110 : Option Addr) (n111 : Nat) (a113 : Option Addr) (n114 : Nat) {r : Bool} (hm : f7.f v0 v1 v2 = some r) (hs : St W w (ro api_GlobalType.rep a107 n108 v0.Globals :: ro (rI .u32) a104 n105 v0.Funcs :: ro api_FuncType.rep a101 n102 v0.Types :: ro api_Instr.rep a113 n114 v2.Body :: ro api_Local.rep a110 n111 v2.Locals :: R)) :
    Calls Try.prog 7 #[.agg #[.slice a101 v0.Types.length n102, .slice a104 v0.Funcs.length n105, .slice a107 v0.Globals.length n108, .bool v0.Table, .bool v0.Mem], .agg #[.string ⟨v1.Params.toArray⟩, .string ⟨v1.Results.toArray⟩], .agg #[.slice a110 v2.Locals.length n111, .slice a113 v2.Body.length n114]] w (fun e w' => ∃ x : Unit, e = .returned (.bool r) ∧ St W w' (R)) := by
  unfold f7.f at hm
  refine calls_sym (vs := [.agg #[.slice a101 v0.Types.length n102, .slice a104 v0.Funcs.length n105, .slice a107 v0.Globals.length n108, .bool v0.Table, .bool v0.Mem], .agg #[.string ⟨v1.Params.toArray⟩, .string ⟨v1.Results.toArray⟩], .agg #[.slice a110 v2.Locals.length n111, .slice a113 v2.Body.length n114]]) Try.func7 rfl rfl hs ?_
  refine T.seq rfl ?_
  refine T.region rfl ?_
  refine TO.go rfl rfl rfl (Does.box (vs := [.slice a101 v0.Types.length n102, .slice a104 v0.Funcs.length n105, .slice a107 v0.Globals.length n108, .bool v0.Table, .bool v0.Mem]) rfl rfl rfl) fun b116 => ?_
  refine TO.ent (L' := pts b116 [.slice a101 v0.Types.length n102, .slice a104 v0.Funcs.length n105, .slice a107 v0.Globals.length n108, .bool v0.Table, .bool v0.Mem] :: ro api_GlobalType.rep a107 n108 v0.Globals :: ro (rI .u32) a104 n105 v0.Funcs :: ro api_FuncType.rep a101 n102 v0.Types :: ro api_Instr.rep a113 n114 v2.Body :: ro api_Local.rep a110 n111 v2.Locals :: R) (fun w h => h) ?_
  refine TO.go rfl rfl rfl (Does.box (vs := [.string ⟨v1.Params.toArray⟩, .string ⟨v1.Results.toArray⟩]) rfl rfl rfl) fun b118 => ?_
  refine TO.ent (L' := pts b118 [.string ⟨v1.Params.toArray⟩, .string ⟨v1.Results.toArray⟩] :: pts b116 [.slice a101 v0.Types.length n102, .slice a104 v0.Funcs.length n105, .slice a107 v0.Globals.length n108, .bool v0.Table, .bool v0.Mem] :: ro api_GlobalType.rep a107 n108 v0.Globals :: ro (rI .u32) a104 n105 v0.Funcs :: ro api_FuncType.rep a101 n102 v0.Types :: ro api_Instr.rep a113 n114 v2.Body :: ro api_Local.rep a110 n111 v2.Locals :: R) (fun w h => h) ?_
  refine TO.go rfl rfl rfl (Does.box (vs := [.slice a110 v2.Locals.length n111, .slice a113 v2.Body.length n114]) rfl rfl rfl) fun b120 => ?_
  refine TO.ent (L' := pts b120 [.slice a110 v2.Locals.length n111, .slice a113 v2.Body.length n114] :: pts b118 [.string ⟨v1.Params.toArray⟩, .string ⟨v1.Results.toArray⟩] :: pts b116 [.slice a101 v0.Types.length n102, .slice a104 v0.Funcs.length n105, .slice a107 v0.Globals.length n108, .bool v0.Table, .bool v0.Mem] :: ro api_GlobalType.rep a107 n108 v0.Globals :: ro (rI .u32) a104 n105 v0.Funcs :: ro api_FuncType.rep a101 n102 v0.Types :: ro api_Instr.rep a113 n114 v2.Body :: ro api_Local.rep a110 n111 v2.Locals :: R) (fun w h => h) ?_
  refine TO.go rfl rfl rfl (Does.assign (v := .bool false) rfl rfl) fun _ => ?_
  refine TO.end rfl ?_
  refine TQ.then ?_
  refine T.seq rfl ?_
  refine T.seqJ (X := Bool) rfl (fun x => [(51, .bool x), (3, .pointer (some ⟨b116, 0, none⟩))]) (fun x => ro api_FuncType.rep a101 n102 v0.Types :: ro (rI .u32) a104 n105 v0.Funcs :: ro api_GlobalType.rep a107 n108 v0.Globals :: pts b116 [.slice a101 v0.Types.length n102, .slice a104 v0.Funcs.length n105, .slice a107 v0.Globals.length n108, .bool v0.Table, .bool v0.Mem] :: R) (fun x => f7.j1 v0 x = some r) ?_ ?_
  · rintro v154 hm
    try dsimp only
    unfold f7.j1 at hm
    refine T.cond rfl (b := v154) rfl (fun h156 => ?_) (fun h156 => ?_)
    · replace hm := ite_t hm h156
      refine T.seq rfl ?_
      refine T.region rfl ?_
      refine TO.go rfl rfl rfl (Does.assign (v := .bool false) rfl rfl) fun _ => ?_
      refine TO.end rfl ?_
      refine TQ.then ?_
      refine T.ret rfl ?_
      refine TQ.passThenRet ?_
      refine TQ.result (.inl rfl) rfl (Res.tmp rfl Res.nil) rfl (fun w h => ?_)
      cases hm
      exact ⟨(), rfl, ((((h).ent (Ent.drop _ _)).ent (Ent.drop _ _)).ent (Ent.drop _ _)).ent (Ent.drop _ _)⟩
    · replace hm := ite_f hm h156
      refine T.skip rfl ?_
      refine TQ.then ?_
      refine T.seq rfl ?_
      refine T.seq rfl ?_
      refine T.region rfl ?_
      refine TO.go rfl rfl rfl (Does.assign (v := .int .i64 0) rfl rfl) fun _ => ?_
      refine TO.end rfl ?_
      refine TQ.then ?_
      refine T.block rfl ?_
      refine T.loopJ (X := Int) rfl rounds (fun x => [(7, .int .i64 x), (3, .pointer (some ⟨b116, 0, none⟩))]) (fun x => ro api_FuncType.rep a101 n102 v0.Types :: ro (rI .u32) a104 n105 v0.Funcs :: ro api_GlobalType.rep a107 n108 v0.Globals :: pts b116 [.slice a101 v0.Types.length n102, .slice a104 v0.Funcs.length n105, .slice a107 v0.Globals.length n108, .bool v0.Table, .bool v0.Mem] :: R) (fun n x => f7.l2 n v0 x = some r) (fun x h => by simp [f7.l2] at h) ?_ 0 hm (Sub.cons rfl (Sub.cons rfl (Sub.nil _))) (fun w h => (((((((((((((h).ent (Ent.copy 0 rfl)).ent (Ent.copy 2 rfl)).ent (Ent.copy 4 rfl)).ent (Ent.take 3 rfl)).ent (Ent.drop _ _)).ent (Ent.take 3 rfl)).ent (Ent.drop _ _)).ent (Ent.take 3 rfl)).ent (Ent.drop _ _)).ent (Ent.take 3 rfl)).ent (Ent.take 1 rfl)).ent (Ent.take 2 rfl)).ent (Ent.take 3 rfl))
      intro k235 h236
      rintro v234 hm
      try dsimp only
      rw [f7.l2.eq_2] at hm
      refine T.seq rfl ?_
      refine T.seq rfl ?_
      refine T.region rfl ?_
      refine TO.go rfl rfl rfl (Does.move rfl rfl) fun _ => ?_
      refine TO.go rfl rfl rfl (Does.fieldAddr (o' := 0) rfl rfl fo_26_0 rfl) fun _ => ?_
      refine TO.go rfl rfl rfl (Does.loadPts (k := 3) (v := .slice a101 v0.Types.length n102) rfl rfl sc_22 rfl rfl) fun _ => ?_
      refine TO.go rfl rfl rfl (Does.lenSl rfl rfl sl_22) fun _ => ?_
      refine TO.go rfl rfl rfl (Does.bin (v := .bool (decide (v234 < (v0.Types.length : Int)))) rfl rfl rfl g_int b_lt) fun _ => ?_
      refine TO.end rfl ?_
      refine TQ.then ?_
      refine T.cond rfl (b := (decide (v234 < (v0.Types.length : Int)))) rfl (fun h238 => ?_) (fun h238 => ?_)
      · replace hm := ite_t hm h238
        refine T.skip rfl ?_
        refine TQ.then ?_
        refine T.seq rfl ?_
        refine T.block rfl ?_
        refine T.seqJ (X := Bool) rfl (fun x => [(76, .bool x), (7, .int .i64 v234), (3, .pointer (some ⟨b116, 0, none⟩))]) (fun x => ro api_FuncType.rep a101 n102 v0.Types :: ro (rI .u32) a104 n105 v0.Funcs :: ro api_GlobalType.rep a107 n108 v0.Globals :: pts b116 [.slice a101 v0.Types.length n102, .slice a104 v0.Funcs.length n105, .slice a107 v0.Globals.length n108, .bool v0.Table, .bool v0.Mem] :: R) (fun x => f7.j3 (f7.l2 k235 v0) v234 x = some r) ?_ ?_
        · rintro v255 hm
          try dsimp only
          unfold f7.j3 at hm
          refine T.cond rfl (b := v255) rfl (fun h257 => ?_) (fun h257 => ?_)
          · replace hm := ite_t hm h257
            refine T.seq rfl ?_
            refine T.region rfl ?_
            refine TO.go rfl rfl rfl (Does.assign (v := .bool false) rfl rfl) fun _ => ?_
            refine TO.end rfl ?_
            refine TQ.then ?_
            refine T.ret rfl ?_
            refine TQ.passBlockRet ?_
            refine TQ.passThenRet ?_
            refine TQ.passThenRet ?_
            refine TQ.passBlockRet ?_
            refine TQ.passThenRet ?_
            refine TQ.result (.inl rfl) rfl (Res.tmp rfl Res.nil) rfl (fun w h => ?_)
            cases hm
            exact ⟨(), rfl, ((((h).ent (Ent.drop _ _)).ent (Ent.drop _ _)).ent (Ent.drop _ _)).ent (Ent.drop _ _)⟩
          · replace hm := ite_f hm h257
            refine T.skip rfl ?_
            refine TQ.passBlockNormal ?_
            refine TQ.then ?_
            refine T.region rfl ?_
            refine TO.go rfl rfl rfl (Does.move rfl rfl) fun _ => ?_
            refine TO.go rfl rfl rfl (Does.bin (v := .int .i64 (IntKind.i64.wrap (v234 + 1))) (vy := .int .i64 1) rfl rfl rfl g_int b_add) fun _ => ?_
            refine TO.go rfl rfl rfl (Does.assign rfl rfl) fun _ => ?_
            refine TO.end rfl ?_
            exact TQ.again (TR.sub (h236 (IntKind.i64.wrap (v234 + 1)) hm) (Sub.cons rfl (Sub.cons rfl (Sub.nil _))) (fun w h => (((((((((((((h).ent (Ent.copy 0 rfl)).ent (Ent.copy 2 rfl)).ent (Ent.copy 4 rfl)).ent (Ent.take 3 rfl)).ent (Ent.drop _ _)).ent (Ent.take 3 rfl)).ent (Ent.drop _ _)).ent (Ent.take 3 rfl)).ent (Ent.drop _ _)).ent (Ent.take 3 rfl)).ent (Ent.take 1 rfl)).ent (Ent.take 2 rfl)).ent (Ent.take 3 rfl)))
        · intro h256
          refine T.region rfl ?_
          refine TO.go rfl rfl rfl (Does.fieldAddr (o' := 0) rfl rfl fo_26_0 rfl) fun _ => ?_
          refine TO.go rfl rfl rfl (Does.loadPts (k := 3) (v := .slice a101 v0.Types.length n102) rfl rfl sc_22 rfl rfl) fun _ => ?_
          refine TO.go rfl rfl rfl (Does.move rfl rfl) fun _ => ?_
          obtain ⟨v261, h262, hm⟩ := bind_o hm
          refine TO.go rfl rfl rfl (Does.indexSl (r := api_FuncType.rep) (k := 0) rfl rfl rfl sl_22 rfl Arrd.ro h262) fun _ => ?_
          refine TO.go rfl rfl rfl (Does.fieldAddrA (f' := 0) rfl rfl fo_28_0 rfl) fun _ => ?_
          refine TO.go rfl rfl rfl (Does.loadFlat (r := api_FuncType.rep) (k := 0) (f := 0) (v := .string ⟨v261.Params.toArray⟩) rfl rfl sc_9 rfl Arrd.ro (at?_out h262).2.2 rfl) fun _ => ?_
          refine TO.go rfl rfl rfl (Does.lenStr (l := v261.Params) rfl rfl ss_9) fun _ => ?_
          refine TO.go rfl rfl rfl (Does.bin (v := .bool (decide (50 < (v261.Params.length : Int)))) (vy := .int .i64 50) rfl rfl rfl g_int b_gt) fun _ => ?_
          refine TO.go rfl rfl rfl (Does.move rfl rfl) fun _ => ?_
          by_cases h263 : (decide (50 < (v261.Params.length : Int))) = true
          · replace hm := ite_t hm h263
            refine TO.go rfl rfl rfl (Does.not (.inl ⟨_, _, rfl, rfl, by rw [h263]; rfl⟩)) fun _ => ?_
            refine TO.go rfl rfl rfl (Does.not (.inl ⟨_, _, rfl, rfl, by rw [h263]; rfl⟩)) fun _ => ?_
            refine TO.go rfl rfl rfl (Does.not (.inl ⟨_, _, rfl, rfl, by rw [h263]; rfl⟩)) fun _ => ?_
            refine TO.go rfl rfl rfl (Does.not (.inl ⟨_, _, rfl, rfl, by rw [h263]; rfl⟩)) fun _ => ?_
            refine TO.go rfl rfl rfl (Does.not (.inl ⟨_, _, rfl, rfl, by rw [h263]; rfl⟩)) fun _ => ?_
            refine TO.go rfl rfl rfl (Does.not (.inl ⟨_, _, rfl, rfl, by rw [h263]; rfl⟩)) fun _ => ?_
            refine TO.go rfl rfl rfl (Does.not (.inl ⟨_, _, rfl, rfl, by rw [h263]; rfl⟩)) fun _ => ?_
            refine TO.go rfl rfl rfl (Does.not (.inl ⟨_, _, rfl, rfl, by rw [h263]; rfl⟩)) fun _ => ?_
            refine TO.go rfl rfl rfl (Does.pickT (v := .bool true) rfl rfl h263 rfl) fun _ => ?_
            refine TO.end rfl ?_
            exact TQ.then (T.sub (h256 true hm) (Sub.cons rfl (Sub.cons rfl (Sub.cons rfl (Sub.nil _)))) (fun w h => (((((((((((((h).ent (Ent.copy 0 rfl)).ent (Ent.copy 2 rfl)).ent (Ent.copy 4 rfl)).ent (Ent.take 3 rfl)).ent (Ent.drop _ _)).ent (Ent.take 3 rfl)).ent (Ent.drop _ _)).ent (Ent.take 3 rfl)).ent (Ent.drop _ _)).ent (Ent.take 3 rfl)).ent (Ent.take 1 rfl)).ent (Ent.take 2 rfl)).ent (Ent.take 3 rfl)))
          · replace h263 := bool_f h263
            replace hm := ite_f hm h263
            refine TO.go rfl rfl rfl (Does.fieldAddr (o' := 0) (.inl ⟨_, _, rfl, rfl, by rw [h263]; rfl⟩) rfl fo_26_0 rfl) fun _ => ?_
            refine TO.go rfl rfl rfl (Does.loadPts (k := 3) (v := .slice a101 v0.Types.length n102) (.inl ⟨_, _, rfl, rfl, by rw [h263]; rfl⟩) rfl sc_22 rfl rfl) fun _ => ?_
            refine TO.go rfl rfl rfl (Does.move (.inl ⟨_, _, rfl, rfl, by rw [h263]; rfl⟩) rfl) fun _ => ?_
            refine TO.go rfl rfl rfl (Does.indexSl (r := api_FuncType.rep) (k := 0) (.inl ⟨_, _, rfl, rfl, by rw [h263]; rfl⟩) rfl rfl sl_22 rfl Arrd.ro h262) fun _ => ?_
            refine TO.go rfl rfl rfl (Does.fieldAddrA (f' := 1) (.inl ⟨_, _, rfl, rfl, by rw [h263]; rfl⟩) rfl fo_28_1 rfl) fun _ => ?_
            refine TO.go rfl rfl rfl (Does.loadFlat (r := api_FuncType.rep) (k := 0) (f := 1) (v := .string ⟨v261.Results.toArray⟩) (.inl ⟨_, _, rfl, rfl, by rw [h263]; rfl⟩) rfl sc_9 rfl Arrd.ro (at?_out h262).2.2 rfl) fun _ => ?_
            refine TO.go rfl rfl rfl (Does.lenStr (l := v261.Results) (.inl ⟨_, _, rfl, rfl, by rw [h263]; rfl⟩) rfl ss_9) fun _ => ?_
            refine TO.go rfl rfl rfl (Does.bin (v := .bool (decide (5 < (v261.Results.length : Int)))) (vy := .int .i64 5) (.inl ⟨_, _, rfl, rfl, by rw [h263]; rfl⟩) rfl rfl g_int b_gt) fun _ => ?_
            refine TO.go rfl rfl rfl (Does.pickF rfl rfl h263 rfl) fun _ => ?_
            refine TO.end rfl ?_
            exact TQ.then (T.sub (h256 (decide (5 < (v261.Results.length : Int))) hm) (Sub.cons rfl (Sub.cons rfl (Sub.cons rfl (Sub.nil _)))) (fun w h => (((((((((((((h).ent (Ent.copy 0 rfl)).ent (Ent.copy 2 rfl)).ent (Ent.copy 4 rfl)).ent (Ent.take 3 rfl)).ent (Ent.drop _ _)).ent (Ent.take 3 rfl)).ent (Ent.drop _ _)).ent (Ent.take 3 rfl)).ent (Ent.drop _ _)).ent (Ent.take 3 rfl)).ent (Ent.take 1 rfl)).ent (Ent.take 2 rfl)).ent (Ent.take 3 rfl)))
      · replace hm := ite_f hm h238
        refine T.exit rfl ?_
        refine TQ.passThenExit ?_
        refine TQ.passThenExit ?_
        refine TQ.exitHere ?_
        refine TQ.then ?_
        refine T.seq rfl ?_
        refine T.region rfl ?_
        refine TO.go rfl rfl rfl (Does.assign (v := .bool true) rfl rfl) fun _ => ?_
        refine TO.end rfl ?_
        refine TQ.then ?_
        refine T.ret rfl ?_
        refine TQ.result (.inl rfl) rfl (Res.tmp rfl Res.nil) rfl (fun w h => ?_)
        cases hm
        exact ⟨(), rfl, ((((h).ent (Ent.drop _ _)).ent (Ent.drop _ _)).ent (Ent.drop _ _)).ent (Ent.drop _ _)⟩
  · intro h155
    refine T.region rfl ?_
    refine TO.go rfl rfl rfl (Does.fieldAddr (o' := 0) rfl rfl fo_26_0 rfl) fun _ => ?_
    refine TO.go rfl rfl rfl (Does.loadPts (k := 2) (v := .slice a101 v0.Types.length n102) rfl rfl sc_22 rfl rfl) fun _ => ?_
    refine TO.go rfl rfl rfl (Does.lenSl rfl rfl sl_22) fun _ => ?_
    refine TO.go rfl rfl rfl (Does.bin (v := .bool (decide (20 < (v0.Types.length : Int)))) (vy := .int .i64 20) rfl rfl rfl g_int b_gt) fun _ => ?_
    refine TO.go rfl rfl rfl (Does.move rfl rfl) fun _ => ?_
    by_cases h273 : (decide (20 < (v0.Types.length : Int))) = true
    · replace hm := ite_t hm h273
      refine TO.go rfl rfl rfl (Does.not (.inl ⟨_, _, rfl, rfl, by rw [h273]; rfl⟩)) fun _ => ?_
      refine TO.go rfl rfl rfl (Does.not (.inl ⟨_, _, rfl, rfl, by rw [h273]; rfl⟩)) fun _ => ?_
      refine TO.go rfl rfl rfl (Does.not (.inl ⟨_, _, rfl, rfl, by rw [h273]; rfl⟩)) fun _ => ?_
      refine TO.go rfl rfl rfl (Does.not (.inl ⟨_, _, rfl, rfl, by rw [h273]; rfl⟩)) fun _ => ?_
      refine TO.go rfl rfl rfl (Does.pickT (v := .bool true) rfl rfl h273 rfl) fun _ => ?_
      refine TO.go rfl rfl rfl (Does.move rfl rfl) fun _ => ?_
      refine TO.go rfl rfl rfl (Does.not (.inl ⟨_, _, rfl, rfl, rfl⟩)) fun _ => ?_
      refine TO.go rfl rfl rfl (Does.not (.inl ⟨_, _, rfl, rfl, rfl⟩)) fun _ => ?_
      refine TO.go rfl rfl rfl (Does.not (.inl ⟨_, _, rfl, rfl, rfl⟩)) fun _ => ?_
      refine TO.go rfl rfl rfl (Does.not (.inl ⟨_, _, rfl, rfl, rfl⟩)) fun _ => ?_
      refine TO.go rfl rfl rfl (Does.pickT (v := .bool true) rfl rfl rfl rfl) fun _ => ?_
      refine TO.go rfl rfl rfl (Does.move rfl rfl) fun _ => ?_
      refine TO.go rfl rfl rfl (Does.not (.inl ⟨_, _, rfl, rfl, rfl⟩)) fun _ => ?_
      refine TO.go rfl rfl rfl (Does.not (.inl ⟨_, _, rfl, rfl, rfl⟩)) fun _ => ?_
      refine TO.go rfl rfl rfl (Does.not (.inl ⟨_, _, rfl, rfl, rfl⟩)) fun _ => ?_
      refine TO.go rfl rfl rfl (Does.not (.inl ⟨_, _, rfl, rfl, rfl⟩)) fun _ => ?_
      refine TO.go rfl rfl rfl (Does.pickT (v := .bool true) rfl rfl rfl rfl) fun _ => ?_
      refine TO.go rfl rfl rfl (Does.move rfl rfl) fun _ => ?_
      refine TO.go rfl rfl rfl (Does.not (.inl ⟨_, _, rfl, rfl, rfl⟩)) fun _ => ?_
      refine TO.go rfl rfl rfl (Does.not (.inl ⟨_, _, rfl, rfl, rfl⟩)) fun _ => ?_
      refine TO.go rfl rfl rfl (Does.not (.inl ⟨_, _, rfl, rfl, rfl⟩)) fun _ => ?_
      refine TO.go rfl rfl rfl (Does.not (.inl ⟨_, _, rfl, rfl, rfl⟩)) fun _ => ?_
      refine TO.go rfl rfl rfl (Does.pickT (v := .bool true) rfl rfl rfl rfl) fun _ => ?_
      refine TO.go rfl rfl rfl (Does.move rfl rfl) fun _ => ?_
      refine TO.go rfl rfl rfl (Does.not (.inl ⟨_, _, rfl, rfl, rfl⟩)) fun _ => ?_
      refine TO.go rfl rfl rfl (Does.not (.inl ⟨_, _, rfl, rfl, rfl⟩)) fun _ => ?_
      refine TO.go rfl rfl rfl (Does.not (.inl ⟨_, _, rfl, rfl, rfl⟩)) fun _ => ?_
      refine TO.go rfl rfl rfl (Does.not (.inl ⟨_, _, rfl, rfl, rfl⟩)) fun _ => ?_
      refine TO.go rfl rfl rfl (Does.pickT (v := .bool true) rfl rfl rfl rfl) fun _ => ?_
      refine TO.go rfl rfl rfl (Does.move rfl rfl) fun _ => ?_
      refine TO.go rfl rfl rfl (Does.not (.inl ⟨_, _, rfl, rfl, rfl⟩)) fun _ => ?_
      refine TO.go rfl rfl rfl (Does.not (.inl ⟨_, _, rfl, rfl, rfl⟩)) fun _ => ?_
      refine TO.go rfl rfl rfl (Does.not (.inl ⟨_, _, rfl, rfl, rfl⟩)) fun _ => ?_
      refine TO.go rfl rfl rfl (Does.not (.inl ⟨_, _, rfl, rfl, rfl⟩)) fun _ => ?_
      refine TO.go rfl rfl rfl (Does.pickT (v := .bool true) rfl rfl rfl rfl) fun _ => ?_
      refine TO.go rfl rfl rfl (Does.move rfl rfl) fun _ => ?_
      refine TO.go rfl rfl rfl (Does.not (.inl ⟨_, _, rfl, rfl, rfl⟩)) fun _ => ?_
      refine TO.go rfl rfl rfl (Does.not (.inl ⟨_, _, rfl, rfl, rfl⟩)) fun _ => ?_
      refine TO.go rfl rfl rfl (Does.pickT (v := .bool true) rfl rfl rfl rfl) fun _ => ?_
      refine TO.end rfl ?_
      exact TQ.then (T.sub (h155 true hm) (Sub.cons rfl (Sub.cons rfl (Sub.nil _))) (fun w h => (((((((((((((((((((((h).ent (Ent.copy 5 rfl)).ent (Ent.copy 5 rfl)).ent (Ent.copy 5 rfl)).ent (Ent.take 3 rfl)).ent (Ent.drop _ _)).ent (Ent.take 3 rfl)).ent (Ent.drop _ _)).ent (Ent.take 4 rfl)).ent (Ent.drop _ _)).ent (Ent.take 4 rfl)).ent (Ent.drop _ _)).ent (Ent.take 4 rfl)).ent (Ent.drop _ _)).ent (Ent.take 4 rfl)).ent (Ent.drop _ _)).ent (Ent.take 4 rfl)).ent (Ent.drop _ _)).ent (Ent.take 3 rfl)).ent (Ent.take 1 rfl)).ent (Ent.take 2 rfl)).ent (Ent.take 3 rfl)))
    · replace h273 := bool_f h273
      replace hm := ite_f hm h273
      refine TO.go rfl rfl rfl (Does.fieldAddr (o' := 1) (.inl ⟨_, _, rfl, rfl, by rw [h273]; rfl⟩) rfl fo_26_1 rfl) fun _ => ?_
      refine TO.go rfl rfl rfl (Does.loadPts (k := 2) (v := .slice a104 v0.Funcs.length n105) (.inl ⟨_, _, rfl, rfl, by rw [h273]; rfl⟩) rfl sc_23 rfl rfl) fun _ => ?_
      refine TO.go rfl rfl rfl (Does.lenSl (.inl ⟨_, _, rfl, rfl, by rw [h273]; rfl⟩) rfl sl_23) fun _ => ?_
      refine TO.go rfl rfl rfl (Does.bin (v := .bool (decide (50 < (v0.Funcs.length : Int)))) (vy := .int .i64 50) (.inl ⟨_, _, rfl, rfl, by rw [h273]; rfl⟩) rfl rfl g_int b_gt) fun _ => ?_
      refine TO.go rfl rfl rfl (Does.pickF rfl rfl h273 rfl) fun _ => ?_
      refine TO.go rfl rfl rfl (Does.move rfl rfl) fun _ => ?_
      by_cases h277 : (decide (50 < (v0.Funcs.length : Int))) = true
      · replace hm := ite_t hm h277
        refine TO.go rfl rfl rfl (Does.not (.inl ⟨_, _, rfl, rfl, by rw [h277]; rfl⟩)) fun _ => ?_
        refine TO.go rfl rfl rfl (Does.not (.inl ⟨_, _, rfl, rfl, by rw [h277]; rfl⟩)) fun _ => ?_
        refine TO.go rfl rfl rfl (Does.not (.inl ⟨_, _, rfl, rfl, by rw [h277]; rfl⟩)) fun _ => ?_
        refine TO.go rfl rfl rfl (Does.not (.inl ⟨_, _, rfl, rfl, by rw [h277]; rfl⟩)) fun _ => ?_
        refine TO.go rfl rfl rfl (Does.pickT (v := .bool true) rfl rfl h277 rfl) fun _ => ?_
        refine TO.go rfl rfl rfl (Does.move rfl rfl) fun _ => ?_
        refine TO.go rfl rfl rfl (Does.not (.inl ⟨_, _, rfl, rfl, rfl⟩)) fun _ => ?_
        refine TO.go rfl rfl rfl (Does.not (.inl ⟨_, _, rfl, rfl, rfl⟩)) fun _ => ?_
        refine TO.go rfl rfl rfl (Does.not (.inl ⟨_, _, rfl, rfl, rfl⟩)) fun _ => ?_
        refine TO.go rfl rfl rfl (Does.not (.inl ⟨_, _, rfl, rfl, rfl⟩)) fun _ => ?_
        refine TO.go rfl rfl rfl (Does.pickT (v := .bool true) rfl rfl rfl rfl) fun _ => ?_
        refine TO.go rfl rfl rfl (Does.move rfl rfl) fun _ => ?_
        refine TO.go rfl rfl rfl (Does.not (.inl ⟨_, _, rfl, rfl, rfl⟩)) fun _ => ?_
        refine TO.go rfl rfl rfl (Does.not (.inl ⟨_, _, rfl, rfl, rfl⟩)) fun _ => ?_
        refine TO.go rfl rfl rfl (Does.not (.inl ⟨_, _, rfl, rfl, rfl⟩)) fun _ => ?_
        refine TO.go rfl rfl rfl (Does.not (.inl ⟨_, _, rfl, rfl, rfl⟩)) fun _ => ?_
        refine TO.go rfl rfl rfl (Does.pickT (v := .bool true) rfl rfl rfl rfl) fun _ => ?_
        refine TO.go rfl rfl rfl (Does.move rfl rfl) fun _ => ?_
        refine TO.go rfl rfl rfl (Does.not (.inl ⟨_, _, rfl, rfl, rfl⟩)) fun _ => ?_
        refine TO.go rfl rfl rfl (Does.not (.inl ⟨_, _, rfl, rfl, rfl⟩)) fun _ => ?_
        refine TO.go rfl rfl rfl (Does.not (.inl ⟨_, _, rfl, rfl, rfl⟩)) fun _ => ?_
        refine TO.go rfl rfl rfl (Does.not (.inl ⟨_, _, rfl, rfl, rfl⟩)) fun _ => ?_
        refine TO.go rfl rfl rfl (Does.pickT (v := .bool true) rfl rfl rfl rfl) fun _ => ?_
        refine TO.go rfl rfl rfl (Does.move rfl rfl) fun _ => ?_
        refine TO.go rfl rfl rfl (Does.not (.inl ⟨_, _, rfl, rfl, rfl⟩)) fun _ => ?_
        refine TO.go rfl rfl rfl (Does.not (.inl ⟨_, _, rfl, rfl, rfl⟩)) fun _ => ?_
        refine TO.go rfl rfl rfl (Does.not (.inl ⟨_, _, rfl, rfl, rfl⟩)) fun _ => ?_
        refine TO.go rfl rfl rfl (Does.not (.inl ⟨_, _, rfl, rfl, rfl⟩)) fun _ => ?_
        refine TO.go rfl rfl rfl (Does.pickT (v := .bool true) rfl rfl rfl rfl) fun _ => ?_
        refine TO.go rfl rfl rfl (Does.move rfl rfl) fun _ => ?_
        refine TO.go rfl rfl rfl (Does.not (.inl ⟨_, _, rfl, rfl, rfl⟩)) fun _ => ?_
        refine TO.go rfl rfl rfl (Does.not (.inl ⟨_, _, rfl, rfl, rfl⟩)) fun _ => ?_
        refine TO.go rfl rfl rfl (Does.pickT (v := .bool true) rfl rfl rfl rfl) fun _ => ?_
        refine TO.end rfl ?_
        exact TQ.then (T.sub (h155 true hm) (Sub.cons rfl (Sub.cons rfl (Sub.nil _))) (fun w h => (((((((((((((((((((((h).ent (Ent.copy 5 rfl)).ent (Ent.copy 5 rfl)).ent (Ent.copy 5 rfl)).ent (Ent.take 3 rfl)).ent (Ent.drop _ _)).ent (Ent.take 3 rfl)).ent (Ent.drop _ _)).ent (Ent.take 4 rfl)).ent (Ent.drop _ _)).ent (Ent.take 4 rfl)).ent (Ent.drop _ _)).ent (Ent.take 4 rfl)).ent (Ent.drop _ _)).ent (Ent.take 4 rfl)).ent (Ent.drop _ _)).ent (Ent.take 4 rfl)).ent (Ent.drop _ _)).ent (Ent.take 3 rfl)).ent (Ent.take 1 rfl)).ent (Ent.take 2 rfl)).ent (Ent.take 3 rfl)))
      · replace h277 := bool_f h277
        replace hm := ite_f hm h277
        refine TO.go rfl rfl rfl (Does.fieldAddr (o' := 2) (.inl ⟨_, _, rfl, rfl, by rw [h277]; rfl⟩) rfl fo_26_2 rfl) fun _ => ?_
        refine TO.go rfl rfl rfl (Does.loadPts (k := 2) (v := .slice a107 v0.Globals.length n108) (.inl ⟨_, _, rfl, rfl, by rw [h277]; rfl⟩) rfl sc_24 rfl rfl) fun _ => ?_
        refine TO.go rfl rfl rfl (Does.lenSl (.inl ⟨_, _, rfl, rfl, by rw [h277]; rfl⟩) rfl sl_24) fun _ => ?_
        refine TO.go rfl rfl rfl (Does.bin (v := .bool (decide (50 < (v0.Globals.length : Int)))) (vy := .int .i64 50) (.inl ⟨_, _, rfl, rfl, by rw [h277]; rfl⟩) rfl rfl g_int b_gt) fun _ => ?_
        refine TO.go rfl rfl rfl (Does.pickF rfl rfl h277 rfl) fun _ => ?_
        refine TO.go rfl rfl rfl (Does.move rfl rfl) fun _ => ?_
        by_cases h281 : (decide (50 < (v0.Globals.length : Int))) = true
        · replace hm := ite_t hm h281
          refine TO.go rfl rfl rfl (Does.not (.inl ⟨_, _, rfl, rfl, by rw [h281]; rfl⟩)) fun _ => ?_
          refine TO.go rfl rfl rfl (Does.not (.inl ⟨_, _, rfl, rfl, by rw [h281]; rfl⟩)) fun _ => ?_
          refine TO.go rfl rfl rfl (Does.not (.inl ⟨_, _, rfl, rfl, by rw [h281]; rfl⟩)) fun _ => ?_
          refine TO.go rfl rfl rfl (Does.not (.inl ⟨_, _, rfl, rfl, by rw [h281]; rfl⟩)) fun _ => ?_
          refine TO.go rfl rfl rfl (Does.pickT (v := .bool true) rfl rfl h281 rfl) fun _ => ?_
          refine TO.go rfl rfl rfl (Does.move rfl rfl) fun _ => ?_
          refine TO.go rfl rfl rfl (Does.not (.inl ⟨_, _, rfl, rfl, rfl⟩)) fun _ => ?_
          refine TO.go rfl rfl rfl (Does.not (.inl ⟨_, _, rfl, rfl, rfl⟩)) fun _ => ?_
          refine TO.go rfl rfl rfl (Does.not (.inl ⟨_, _, rfl, rfl, rfl⟩)) fun _ => ?_
          refine TO.go rfl rfl rfl (Does.not (.inl ⟨_, _, rfl, rfl, rfl⟩)) fun _ => ?_
          refine TO.go rfl rfl rfl (Does.pickT (v := .bool true) rfl rfl rfl rfl) fun _ => ?_
          refine TO.go rfl rfl rfl (Does.move rfl rfl) fun _ => ?_
          refine TO.go rfl rfl rfl (Does.not (.inl ⟨_, _, rfl, rfl, rfl⟩)) fun _ => ?_
          refine TO.go rfl rfl rfl (Does.not (.inl ⟨_, _, rfl, rfl, rfl⟩)) fun _ => ?_
          refine TO.go rfl rfl rfl (Does.not (.inl ⟨_, _, rfl, rfl, rfl⟩)) fun _ => ?_
          refine TO.go rfl rfl rfl (Does.not (.inl ⟨_, _, rfl, rfl, rfl⟩)) fun _ => ?_
          refine TO.go rfl rfl rfl (Does.pickT (v := .bool true) rfl rfl rfl rfl) fun _ => ?_
          refine TO.go rfl rfl rfl (Does.move rfl rfl) fun _ => ?_
          refine TO.go rfl rfl rfl (Does.not (.inl ⟨_, _, rfl, rfl, rfl⟩)) fun _ => ?_
          refine TO.go rfl rfl rfl (Does.not (.inl ⟨_, _, rfl, rfl, rfl⟩)) fun _ => ?_
          refine TO.go rfl rfl rfl (Does.not (.inl ⟨_, _, rfl, rfl, rfl⟩)) fun _ => ?_
          refine TO.go rfl rfl rfl (Does.not (.inl ⟨_, _, rfl, rfl, rfl⟩)) fun _ => ?_
          refine TO.go rfl rfl rfl (Does.pickT (v := .bool true) rfl rfl rfl rfl) fun _ => ?_
          refine TO.go rfl rfl rfl (Does.move rfl rfl) fun _ => ?_
          refine TO.go rfl rfl rfl (Does.not (.inl ⟨_, _, rfl, rfl, rfl⟩)) fun _ => ?_
          refine TO.go rfl rfl rfl (Does.not (.inl ⟨_, _, rfl, rfl, rfl⟩)) fun _ => ?_
          refine TO.go rfl rfl rfl (Does.pickT (v := .bool true) rfl rfl rfl rfl) fun _ => ?_
          refine TO.end rfl ?_
          exact TQ.then (T.sub (h155 true hm) (Sub.cons rfl (Sub.cons rfl (Sub.nil _))) (fun w h => (((((((((((((((((((((h).ent (Ent.copy 5 rfl)).ent (Ent.copy 5 rfl)).ent (Ent.copy 5 rfl)).ent (Ent.take 3 rfl)).ent (Ent.drop _ _)).ent (Ent.take 3 rfl)).ent (Ent.drop _ _)).ent (Ent.take 4 rfl)).ent (Ent.drop _ _)).ent (Ent.take 4 rfl)).ent (Ent.drop _ _)).ent (Ent.take 4 rfl)).ent (Ent.drop _ _)).ent (Ent.take 4 rfl)).ent (Ent.drop _ _)).ent (Ent.take 4 rfl)).ent (Ent.drop _ _)).ent (Ent.take 3 rfl)).ent (Ent.take 1 rfl)).ent (Ent.take 2 rfl)).ent (Ent.take 3 rfl)))
        · replace h281 := bool_f h281
          replace hm := ite_f hm h281
          refine TO.go rfl rfl rfl (Does.fieldAddr (o' := 0) (.inl ⟨_, _, rfl, rfl, by rw [h281]; rfl⟩) rfl fo_28_0 rfl) fun _ => ?_
          refine TO.go rfl rfl rfl (Does.loadPts (k := 1) (v := .string ⟨v1.Params.toArray⟩) (.inl ⟨_, _, rfl, rfl, by rw [h281]; rfl⟩) rfl sc_9 rfl rfl) fun _ => ?_
          refine TO.go rfl rfl rfl (Does.lenStr (l := v1.Params) (.inl ⟨_, _, rfl, rfl, by rw [h281]; rfl⟩) rfl ss_9) fun _ => ?_
          refine TO.go rfl rfl rfl (Does.bin (v := .bool (decide (50 < (v1.Params.length : Int)))) (vy := .int .i64 50) (.inl ⟨_, _, rfl, rfl, by rw [h281]; rfl⟩) rfl rfl g_int b_gt) fun _ => ?_
          refine TO.go rfl rfl rfl (Does.pickF rfl rfl h281 rfl) fun _ => ?_
          refine TO.go rfl rfl rfl (Does.move rfl rfl) fun _ => ?_
          by_cases h285 : (decide (50 < (v1.Params.length : Int))) = true
          · replace hm := ite_t hm h285
            refine TO.go rfl rfl rfl (Does.not (.inl ⟨_, _, rfl, rfl, by rw [h285]; rfl⟩)) fun _ => ?_
            refine TO.go rfl rfl rfl (Does.not (.inl ⟨_, _, rfl, rfl, by rw [h285]; rfl⟩)) fun _ => ?_
            refine TO.go rfl rfl rfl (Does.not (.inl ⟨_, _, rfl, rfl, by rw [h285]; rfl⟩)) fun _ => ?_
            refine TO.go rfl rfl rfl (Does.not (.inl ⟨_, _, rfl, rfl, by rw [h285]; rfl⟩)) fun _ => ?_
            refine TO.go rfl rfl rfl (Does.pickT (v := .bool true) rfl rfl h285 rfl) fun _ => ?_
            refine TO.go rfl rfl rfl (Does.move rfl rfl) fun _ => ?_
            refine TO.go rfl rfl rfl (Does.not (.inl ⟨_, _, rfl, rfl, rfl⟩)) fun _ => ?_
            refine TO.go rfl rfl rfl (Does.not (.inl ⟨_, _, rfl, rfl, rfl⟩)) fun _ => ?_
            refine TO.go rfl rfl rfl (Does.not (.inl ⟨_, _, rfl, rfl, rfl⟩)) fun _ => ?_
            refine TO.go rfl rfl rfl (Does.not (.inl ⟨_, _, rfl, rfl, rfl⟩)) fun _ => ?_
            refine TO.go rfl rfl rfl (Does.pickT (v := .bool true) rfl rfl rfl rfl) fun _ => ?_
            refine TO.go rfl rfl rfl (Does.move rfl rfl) fun _ => ?_
            refine TO.go rfl rfl rfl (Does.not (.inl ⟨_, _, rfl, rfl, rfl⟩)) fun _ => ?_
            refine TO.go rfl rfl rfl (Does.not (.inl ⟨_, _, rfl, rfl, rfl⟩)) fun _ => ?_
            refine TO.go rfl rfl rfl (Does.not (.inl ⟨_, _, rfl, rfl, rfl⟩)) fun _ => ?_
            refine TO.go rfl rfl rfl (Does.not (.inl ⟨_, _, rfl, rfl, rfl⟩)) fun _ => ?_
            refine TO.go rfl rfl rfl (Does.pickT (v := .bool true) rfl rfl rfl rfl) fun _ => ?_
            refine TO.go rfl rfl rfl (Does.move rfl rfl) fun _ => ?_
            refine TO.go rfl rfl rfl (Does.not (.inl ⟨_, _, rfl, rfl, rfl⟩)) fun _ => ?_
            refine TO.go rfl rfl rfl (Does.not (.inl ⟨_, _, rfl, rfl, rfl⟩)) fun _ => ?_
            refine TO.go rfl rfl rfl (Does.pickT (v := .bool true) rfl rfl rfl rfl) fun _ => ?_
            refine TO.end rfl ?_
            exact TQ.then (T.sub (h155 true hm) (Sub.cons rfl (Sub.cons rfl (Sub.nil _))) (fun w h => (((((((((((((((((((((h).ent (Ent.copy 5 rfl)).ent (Ent.copy 5 rfl)).ent (Ent.copy 5 rfl)).ent (Ent.take 3 rfl)).ent (Ent.drop _ _)).ent (Ent.take 3 rfl)).ent (Ent.drop _ _)).ent (Ent.take 4 rfl)).ent (Ent.drop _ _)).ent (Ent.take 4 rfl)).ent (Ent.drop _ _)).ent (Ent.take 4 rfl)).ent (Ent.drop _ _)).ent (Ent.take 4 rfl)).ent (Ent.drop _ _)).ent (Ent.take 4 rfl)).ent (Ent.drop _ _)).ent (Ent.take 3 rfl)).ent (Ent.take 1 rfl)).ent (Ent.take 2 rfl)).ent (Ent.take 3 rfl)))
          · replace h285 := bool_f h285
            replace hm := ite_f hm h285
            refine TO.go rfl rfl rfl (Does.fieldAddr (o' := 1) (.inl ⟨_, _, rfl, rfl, by rw [h285]; rfl⟩) rfl fo_28_1 rfl) fun _ => ?_
            refine TO.go rfl rfl rfl (Does.loadPts (k := 1) (v := .string ⟨v1.Results.toArray⟩) (.inl ⟨_, _, rfl, rfl, by rw [h285]; rfl⟩) rfl sc_9 rfl rfl) fun _ => ?_
            refine TO.go rfl rfl rfl (Does.lenStr (l := v1.Results) (.inl ⟨_, _, rfl, rfl, by rw [h285]; rfl⟩) rfl ss_9) fun _ => ?_
            refine TO.go rfl rfl rfl (Does.bin (v := .bool (decide (5 < (v1.Results.length : Int)))) (vy := .int .i64 5) (.inl ⟨_, _, rfl, rfl, by rw [h285]; rfl⟩) rfl rfl g_int b_gt) fun _ => ?_
            refine TO.go rfl rfl rfl (Does.pickF rfl rfl h285 rfl) fun _ => ?_
            refine TO.go rfl rfl rfl (Does.move rfl rfl) fun _ => ?_
            by_cases h289 : (decide (5 < (v1.Results.length : Int))) = true
            · replace hm := ite_t hm h289
              refine TO.go rfl rfl rfl (Does.not (.inl ⟨_, _, rfl, rfl, by rw [h289]; rfl⟩)) fun _ => ?_
              refine TO.go rfl rfl rfl (Does.not (.inl ⟨_, _, rfl, rfl, by rw [h289]; rfl⟩)) fun _ => ?_
              refine TO.go rfl rfl rfl (Does.not (.inl ⟨_, _, rfl, rfl, by rw [h289]; rfl⟩)) fun _ => ?_
              refine TO.go rfl rfl rfl (Does.not (.inl ⟨_, _, rfl, rfl, by rw [h289]; rfl⟩)) fun _ => ?_
              refine TO.go rfl rfl rfl (Does.pickT (v := .bool true) rfl rfl h289 rfl) fun _ => ?_
              refine TO.go rfl rfl rfl (Does.move rfl rfl) fun _ => ?_
              refine TO.go rfl rfl rfl (Does.not (.inl ⟨_, _, rfl, rfl, rfl⟩)) fun _ => ?_
              refine TO.go rfl rfl rfl (Does.not (.inl ⟨_, _, rfl, rfl, rfl⟩)) fun _ => ?_
              refine TO.go rfl rfl rfl (Does.not (.inl ⟨_, _, rfl, rfl, rfl⟩)) fun _ => ?_
              refine TO.go rfl rfl rfl (Does.not (.inl ⟨_, _, rfl, rfl, rfl⟩)) fun _ => ?_
              refine TO.go rfl rfl rfl (Does.pickT (v := .bool true) rfl rfl rfl rfl) fun _ => ?_
              refine TO.go rfl rfl rfl (Does.move rfl rfl) fun _ => ?_
              refine TO.go rfl rfl rfl (Does.not (.inl ⟨_, _, rfl, rfl, rfl⟩)) fun _ => ?_
              refine TO.go rfl rfl rfl (Does.not (.inl ⟨_, _, rfl, rfl, rfl⟩)) fun _ => ?_
              refine TO.go rfl rfl rfl (Does.pickT (v := .bool true) rfl rfl rfl rfl) fun _ => ?_
              refine TO.end rfl ?_
              exact TQ.then (T.sub (h155 true hm) (Sub.cons rfl (Sub.cons rfl (Sub.nil _))) (fun w h => (((((((((((((((((((((h).ent (Ent.copy 5 rfl)).ent (Ent.copy 5 rfl)).ent (Ent.copy 5 rfl)).ent (Ent.take 3 rfl)).ent (Ent.drop _ _)).ent (Ent.take 3 rfl)).ent (Ent.drop _ _)).ent (Ent.take 4 rfl)).ent (Ent.drop _ _)).ent (Ent.take 4 rfl)).ent (Ent.drop _ _)).ent (Ent.take 4 rfl)).ent (Ent.drop _ _)).ent (Ent.take 4 rfl)).ent (Ent.drop _ _)).ent (Ent.take 4 rfl)).ent (Ent.drop _ _)).ent (Ent.take 3 rfl)).ent (Ent.take 1 rfl)).ent (Ent.take 2 rfl)).ent (Ent.take 3 rfl)))
            · replace h289 := bool_f h289
              replace hm := ite_f hm h289
              refine TO.go rfl rfl rfl (Does.fieldAddr (o' := 1) (.inl ⟨_, _, rfl, rfl, by rw [h289]; rfl⟩) rfl fo_32_1 rfl) fun _ => ?_
              refine TO.go rfl rfl rfl (Does.loadPts (k := 0) (v := .slice a113 v2.Body.length n114) (.inl ⟨_, _, rfl, rfl, by rw [h289]; rfl⟩) rfl sc_30 rfl rfl) fun _ => ?_
              refine TO.go rfl rfl rfl (Does.lenSl (.inl ⟨_, _, rfl, rfl, by rw [h289]; rfl⟩) rfl sl_30) fun _ => ?_
              refine TO.go rfl rfl rfl (Does.bin (v := .bool (decide (100 < (v2.Body.length : Int)))) (vy := .int .i64 100) (.inl ⟨_, _, rfl, rfl, by rw [h289]; rfl⟩) rfl rfl g_int b_gt) fun _ => ?_
              refine TO.go rfl rfl rfl (Does.pickF rfl rfl h289 rfl) fun _ => ?_
              refine TO.go rfl rfl rfl (Does.move rfl rfl) fun _ => ?_
              by_cases h293 : (decide (100 < (v2.Body.length : Int))) = true
              · replace hm := ite_t hm h293
                refine TO.go rfl rfl rfl (Does.not (.inl ⟨_, _, rfl, rfl, by rw [h293]; rfl⟩)) fun _ => ?_
                refine TO.go rfl rfl rfl (Does.not (.inl ⟨_, _, rfl, rfl, by rw [h293]; rfl⟩)) fun _ => ?_
                refine TO.go rfl rfl rfl (Does.not (.inl ⟨_, _, rfl, rfl, by rw [h293]; rfl⟩)) fun _ => ?_
                refine TO.go rfl rfl rfl (Does.not (.inl ⟨_, _, rfl, rfl, by rw [h293]; rfl⟩)) fun _ => ?_
                refine TO.go rfl rfl rfl (Does.pickT (v := .bool true) rfl rfl h293 rfl) fun _ => ?_
                refine TO.go rfl rfl rfl (Does.move rfl rfl) fun _ => ?_
                refine TO.go rfl rfl rfl (Does.not (.inl ⟨_, _, rfl, rfl, rfl⟩)) fun _ => ?_
                refine TO.go rfl rfl rfl (Does.not (.inl ⟨_, _, rfl, rfl, rfl⟩)) fun _ => ?_
                refine TO.go rfl rfl rfl (Does.pickT (v := .bool true) rfl rfl rfl rfl) fun _ => ?_
                refine TO.end rfl ?_
                exact TQ.then (T.sub (h155 true hm) (Sub.cons rfl (Sub.cons rfl (Sub.nil _))) (fun w h => (((((((((((((((((((((h).ent (Ent.copy 5 rfl)).ent (Ent.copy 5 rfl)).ent (Ent.copy 5 rfl)).ent (Ent.take 3 rfl)).ent (Ent.drop _ _)).ent (Ent.take 3 rfl)).ent (Ent.drop _ _)).ent (Ent.take 4 rfl)).ent (Ent.drop _ _)).ent (Ent.take 4 rfl)).ent (Ent.drop _ _)).ent (Ent.take 4 rfl)).ent (Ent.drop _ _)).ent (Ent.take 4 rfl)).ent (Ent.drop _ _)).ent (Ent.take 4 rfl)).ent (Ent.drop _ _)).ent (Ent.take 3 rfl)).ent (Ent.take 1 rfl)).ent (Ent.take 2 rfl)).ent (Ent.take 3 rfl)))
              · replace h293 := bool_f h293
                replace hm := ite_f hm h293
                refine TO.go rfl rfl rfl (Does.fieldAddr (o' := 0) (.inl ⟨_, _, rfl, rfl, by rw [h293]; rfl⟩) rfl fo_32_0 rfl) fun _ => ?_
                refine TO.go rfl rfl rfl (Does.loadPts (k := 0) (v := .slice a110 v2.Locals.length n111) (.inl ⟨_, _, rfl, rfl, by rw [h293]; rfl⟩) rfl sc_29 rfl rfl) fun _ => ?_
                refine TO.go rfl rfl rfl (Does.lenSl (.inl ⟨_, _, rfl, rfl, by rw [h293]; rfl⟩) rfl sl_29) fun _ => ?_
                refine TO.go rfl rfl rfl (Does.bin (v := .bool (decide (20 < (v2.Locals.length : Int)))) (vy := .int .i64 20) (.inl ⟨_, _, rfl, rfl, by rw [h293]; rfl⟩) rfl rfl g_int b_gt) fun _ => ?_
                refine TO.go rfl rfl rfl (Does.pickF rfl rfl h293 rfl) fun _ => ?_
                refine TO.go rfl rfl rfl (Does.move rfl rfl) fun _ => ?_
                by_cases h297 : (decide (20 < (v2.Locals.length : Int))) = true
                · replace hm := ite_t hm h297
                  refine TO.go rfl rfl rfl (Does.not (.inl ⟨_, _, rfl, rfl, by rw [h297]; rfl⟩)) fun _ => ?_
                  refine TO.go rfl rfl rfl (Does.not (.inl ⟨_, _, rfl, rfl, by rw [h297]; rfl⟩)) fun _ => ?_
                  refine TO.go rfl rfl rfl (Does.pickT (v := .bool true) rfl rfl h297 rfl) fun _ => ?_
                  refine TO.end rfl ?_
                  exact TQ.then (T.sub (h155 true hm) (Sub.cons rfl (Sub.cons rfl (Sub.nil _))) (fun w h => (((((((((((((((((((((h).ent (Ent.copy 5 rfl)).ent (Ent.copy 5 rfl)).ent (Ent.copy 5 rfl)).ent (Ent.take 3 rfl)).ent (Ent.drop _ _)).ent (Ent.take 3 rfl)).ent (Ent.drop _ _)).ent (Ent.take 4 rfl)).ent (Ent.drop _ _)).ent (Ent.take 4 rfl)).ent (Ent.drop _ _)).ent (Ent.take 4 rfl)).ent (Ent.drop _ _)).ent (Ent.take 4 rfl)).ent (Ent.drop _ _)).ent (Ent.take 4 rfl)).ent (Ent.drop _ _)).ent (Ent.take 3 rfl)).ent (Ent.take 1 rfl)).ent (Ent.take 2 rfl)).ent (Ent.take 3 rfl)))
                · replace h297 := bool_f h297
                  replace hm := ite_f hm h297
                  refine TO.go rfl rfl rfl (Does.loadPtsN (k := 0) (vs := [.slice a110 v2.Locals.length n111, .slice a113 v2.Body.length n114]) (.inl ⟨_, _, rfl, rfl, by rw [h297]; rfl⟩) rfl ag_32 rfl rfl rfl) fun _ => ?_
                  obtain ⟨v303, h304, hm⟩ := bind_o hm
                  refine TO.go rfl rfl rfl (Does.conseq (Does.call (vs := [.agg #[.slice a110 v2.Locals.length n111, .slice a113 v2.Body.length n114]]) (.inl ⟨_, _, rfl, rfl, by rw [h297]; rfl⟩) co_12 rfl (fun w h => f12.ok v2 a110 n111 a113 n114 h304 ((((h).ent (Ent.copy 6 rfl)).ent (Ent.copy 8 rfl)).ent (Ent.take 1 rfl)))) (fun w h => h) (fun x w h => ((((((((h).ent (Ent.take 7 rfl)).ent (Ent.take 7 rfl)).ent (Ent.take 7 rfl)).ent (Ent.take 7 rfl)).ent (Ent.take 7 rfl)).ent (Ent.take 7 rfl)).ent (Ent.take 7 rfl)).ent (Ent.take 7 rfl))) fun _ => ?_
                  refine TO.go rfl rfl rfl (Does.pickF rfl rfl h297 rfl) fun _ => ?_
                  refine TO.end rfl ?_
                  exact TQ.then (T.sub (h155 v303 hm) (Sub.cons rfl (Sub.cons rfl (Sub.nil _))) (fun w h => (((((((((((((((((((((h).ent (Ent.copy 5 rfl)).ent (Ent.copy 5 rfl)).ent (Ent.copy 5 rfl)).ent (Ent.take 3 rfl)).ent (Ent.drop _ _)).ent (Ent.take 3 rfl)).ent (Ent.drop _ _)).ent (Ent.take 4 rfl)).ent (Ent.drop _ _)).ent (Ent.take 4 rfl)).ent (Ent.drop _ _)).ent (Ent.take 4 rfl)).ent (Ent.drop _ _)).ent (Ent.take 4 rfl)).ent (Ent.drop _ _)).ent (Ent.take 4 rfl)).ent (Ent.drop _ _)).ent (Ent.take 3 rfl)).ent (Ent.take 1 rfl)).ent (Ent.take 2 rfl)).ent (Ent.take 3 rfl)))

end Go.Proofs.Ytfonekhhbmlkbaa
