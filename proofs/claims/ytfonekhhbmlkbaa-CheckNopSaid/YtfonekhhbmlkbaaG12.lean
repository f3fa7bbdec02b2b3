/- Mirrors of functions, and that the Go functions compute them. Printed by gofun.py. -/
import Derived.Test.YtfonekhhbmlkbaaG11
set_option linter.unusedVariables false
set_option linter.unusedSimpArgs false
namespace Go.Proofs.Ytfonekhhbmlkbaa
open Go Go.Sym
def f16.j1 (v0 : check_checker) (v125 : ops_Info) : Option (Int × check_checker) :=
  ((f53.f v0 v125.Params v125.Result).bind fun v215 => some (v215.1, ({ env := v0.env, locals := v0.locals, c := v215.2.c, result := v0.result } : check_checker)))
def f16.j5 (v0 : check_checker) (v125 : ops_Info) (v1 : api_Instr) (v287 : Bool) : Option (Int × check_checker) :=
  (if v287 = true then ((f52.f v0 v1).bind fun v294 => (if (v294 != 0) = true then some (v294, v0) else f16.j1 v0 v125)) else f16.j1 v0 v125)
def f16.j4 (v0 : check_checker) (v125 : ops_Info) (v1 : api_Instr) (v262 : Bool) : Option (Int × check_checker) :=
  (if v262 = true then ((f50.f v0 v1).bind fun v269 => some (v269.1, ({ env := v0.env, locals := v0.locals, c := v269.2.c, result := v0.result } : check_checker))) else (if v125.Free = true then ((f51.f v0 v1).bind fun v276 => some (v276.1, ({ env := v0.env, locals := v0.locals, c := v276.2.c, result := v0.result } : check_checker))) else (if (decide ((40 : UInt8) ≤ v1.Op)) = true then f16.j5 v0 v125 v1 (decide (v1.Op ≤ (64 : UInt8))) else f16.j5 v0 v125 v1 false)))
def f16.j3 (v0 : check_checker) (v125 : ops_Info) (v1 : api_Instr) (v244 : Bool) : Option (Int × check_checker) :=
  (if v244 = true then ((f49.f v0 v1).bind fun v251 => some (v251.1, ({ env := v0.env, locals := v0.locals, c := v251.2.c, result := v0.result } : check_checker))) else (if (decide ((32 : UInt8) ≤ v1.Op)) = true then f16.j4 v0 v125 v1 (decide (v1.Op ≤ (36 : UInt8))) else f16.j4 v0 v125 v1 false))
def f16.j2 (v0 : check_checker) (v125 : ops_Info) (v1 : api_Instr) (v226 : Bool) : Option (Int × check_checker) :=
  (if v226 = true then ((f48.f v0 v1).bind fun v233 => some (v233.1, ({ env := v0.env, locals := v0.locals, c := v233.2.c, result := v0.result } : check_checker))) else (if (v1.Op == (26 : UInt8)) = true then f16.j3 v0 v125 v1 true else f16.j3 v0 v125 v1 (v1.Op == (27 : UInt8))))
/-- (*creel/check.checker).one -/
def f16.f (v0 : check_checker) (v1 : api_Instr) : Option (Int × check_checker) :=
  ((f46.f v1).bind fun v122 => (if (v122 != 0) = true then some (v122, v0) else ((f47.f v1.Op).bind fun v125 => (if (v1.Op == (16 : UInt8)) = true then f16.j2 v0 v125 v1 true else f16.j2 v0 v125 v1 (v1.Op == (17 : UInt8))))))
set_option maxRecDepth 20000 in
set_option maxHeartbeats 1000000 in
theorem f16.ok {W w : World} {R : List Assn} (v0 : check_checker) (b0 : Nat) (a101 : Option Addr) (n102 : Nat) (a104 : Option Addr) (n105 : Nat) (a107 : Option Addr) (n108 : Nat) (b110 : Nat) (v1 : api_Instr) (a112 : Option Addr) (n113 : Nat) {r : Int × check_checker} (hm : f16.f v0 v1 = some r) (hs : St W w (pts b0 [.slice a101 v0.env.Types.length n102, .slice a104 v0.env.Funcs.length n105, .slice a107 v0.env.Globals.length n108, .bool v0.env.Table, .bool v0.env.Mem, .string ⟨v0.locals.toArray⟩, .pointer (some ⟨b110, 0, none⟩), .string ⟨v0.result.toArray⟩] :: ptr ctrl_Control.rep b110 v0.c :: ro api_GlobalType.rep a107 n108 v0.env.Globals :: ro (rI .u32) a104 n105 v0.env.Funcs :: ro api_FuncType.rep a101 n102 v0.env.Types :: ro (rI .u32) a112 n113 v1.L :: R)) :
    Calls Try.prog 16 #[.pointer (some ⟨b0, 0, none⟩), .agg #[.int .u8 v1.Op.toNat, .int .u64 v1.A, .int .u64 v1.B, .slice a112 v1.L.length n113]] w (fun e w' => ∃ x : Unit, e = .returned (.int .i64 r.1) ∧ St W w' (pts b0 [.slice a101 v0.env.Types.length n102, .slice a104 v0.env.Funcs.length n105, .slice a107 v0.env.Globals.length n108, .bool v0.env.Table, .bool v0.env.Mem, .string ⟨v0.locals.toArray⟩, .pointer (some ⟨b110, 0, none⟩), .string ⟨v0.result.toArray⟩] :: ptr ctrl_Control.rep b110 r.2.c :: R)) := by
  unfold f16.f at hm
  refine calls_sym (vs := [.pointer (some ⟨b0, 0, none⟩), .agg #[.int .u8 v1.Op.toNat, .int .u64 v1.A, .int .u64 v1.B, .slice a112 v1.L.length n113]]) Try.func16 rfl rfl hs ?_
  refine T.seq rfl ?_
  refine T.region rfl ?_
  refine TO.go rfl rfl rfl (Does.box (vs := [.int .u8 v1.Op.toNat, .int .u64 v1.A, .int .u64 v1.B, .slice a112 v1.L.length n113]) rfl rfl rfl) fun b115 => ?_
  refine TO.ent (L' := pts b115 [.int .u8 v1.Op.toNat, .int .u64 v1.A, .int .u64 v1.B, .slice a112 v1.L.length n113] :: pts b0 [.slice a101 v0.env.Types.length n102, .slice a104 v0.env.Funcs.length n105, .slice a107 v0.env.Globals.length n108, .bool v0.env.Table, .bool v0.env.Mem, .string ⟨v0.locals.toArray⟩, .pointer (some ⟨b110, 0, none⟩), .string ⟨v0.result.toArray⟩] :: ptr ctrl_Control.rep b110 v0.c :: ro api_GlobalType.rep a107 n108 v0.env.Globals :: ro (rI .u32) a104 n105 v0.env.Funcs :: ro api_FuncType.rep a101 n102 v0.env.Types :: ro (rI .u32) a112 n113 v1.L :: R) (fun w h => h) ?_
  refine TO.go rfl rfl rfl (Does.assign (v := .int .i64 0) rfl rfl) fun _ => ?_
  refine TO.end rfl ?_
  refine TQ.then ?_
  refine T.seq rfl ?_
  refine T.seq rfl ?_
  refine T.region rfl ?_
  refine TO.go rfl rfl rfl (Does.loadPtsN (k := 0) (vs := [.int .u8 v1.Op.toNat, .int .u64 v1.A, .int .u64 v1.B, .slice a112 v1.L.length n113]) rfl rfl ag_40 rfl rfl rfl) fun _ => ?_
  obtain ⟨v122, h123, hm⟩ := bind_o hm
  refine TO.go rfl rfl rfl (Does.conseq (Does.call (vs := [.agg #[.int .u8 v1.Op.toNat, .int .u64 v1.A, .int .u64 v1.B, .slice a112 v1.L.length n113]]) rfl co_46 rfl (fun w h => f46.ok v1 a112 n113 h123 ((h).ent (Ent.copy 6 rfl)))) (fun w h => h) (fun x w h => (((((((h).ent (Ent.take 6 rfl)).ent (Ent.take 6 rfl)).ent (Ent.take 6 rfl)).ent (Ent.take 6 rfl)).ent (Ent.take 6 rfl)).ent (Ent.take 6 rfl)).ent (Ent.take 6 rfl))) fun _ => ?_
  refine TO.go rfl rfl rfl (Does.assign rfl rfl) fun _ => ?_
  refine TO.end rfl ?_
  refine TQ.then ?_
  refine T.seq rfl ?_
  refine T.region rfl ?_
  refine TO.go rfl rfl rfl (Does.move rfl rfl) fun _ => ?_
  refine TO.go rfl rfl rfl (Does.bin (v := .bool (v122 != 0)) (vy := .int .i64 0) rfl rfl rfl g_int b_ne) fun _ => ?_
  refine TO.end rfl ?_
  refine TQ.then ?_
  refine T.cond rfl (b := (v122 != 0)) rfl (fun h124 => ?_) (fun h124 => ?_)
  · replace hm := ite_t hm h124
    refine T.seq rfl ?_
    refine T.region rfl ?_
    refine TO.go rfl rfl rfl (Does.move rfl rfl) fun _ => ?_
    refine TO.go rfl rfl rfl (Does.assign rfl rfl) fun _ => ?_
    refine TO.end rfl ?_
    refine TQ.then ?_
    refine T.ret rfl ?_
    refine TQ.passThenRet ?_
    refine TQ.result (.inl rfl) rfl (Res.tmp rfl Res.nil) rfl (fun w h => ?_)
    cases hm
    exact ⟨(), rfl, (((((((((((h).ent (Ent.drop _ _)).ent (Ent.take 2 rfl)).ent (Ent.drop _ _)).ent (Ent.take 2 rfl)).ent (Ent.drop _ _)).ent (Ent.take 2 rfl)).ent (Ent.drop _ _)).ent (Ent.take 2 rfl)).ent (Ent.drop _ _)).ent (Ent.take 1 rfl)).ent (Ent.take 1 rfl)⟩
  · replace hm := ite_f hm h124
    refine T.skip rfl ?_
    refine TQ.then ?_
    refine T.seq rfl ?_
    refine T.region rfl ?_
    refine TO.go rfl rfl rfl (Does.fieldAddr (o' := 0) rfl rfl fo_40_0 rfl) fun _ => ?_
    refine TO.go rfl rfl rfl (Does.loadPts (k := 0) (v := .int .u8 v1.Op.toNat) rfl rfl sc_5 rfl rfl) fun _ => ?_
    obtain ⟨v125, h126, hm⟩ := bind_o hm
    refine TO.go rfl rfl rfl (Does.conseq (Does.call (vs := [.int .u8 v1.Op.toNat]) rfl co_47 rfl (fun w h => f47.ok v1.Op h126 (h))) (fun w h => h) (fun x w h => (((((((h).ent (Ent.take 6 rfl)).ent (Ent.take 6 rfl)).ent (Ent.take 6 rfl)).ent (Ent.take 6 rfl)).ent (Ent.take 6 rfl)).ent (Ent.take 6 rfl)).ent (Ent.take 6 rfl))) fun _ => ?_
    refine TO.go rfl rfl rfl (Does.alloc rfl zn_117) fun b127 => ?_
    refine TO.ent (L' := pts b127 [.string ⟨([] : List UInt8).toArray⟩, .int .i64 0, .string ⟨([] : List UInt8).toArray⟩, .string ⟨([] : List UInt8).toArray⟩, .bool false] :: pts b115 [.int .u8 v1.Op.toNat, .int .u64 v1.A, .int .u64 v1.B, .slice a112 v1.L.length n113] :: pts b0 [.slice a101 v0.env.Types.length n102, .slice a104 v0.env.Funcs.length n105, .slice a107 v0.env.Globals.length n108, .bool v0.env.Table, .bool v0.env.Mem, .string ⟨v0.locals.toArray⟩, .pointer (some ⟨b110, 0, none⟩), .string ⟨v0.result.toArray⟩] :: ptr ctrl_Control.rep b110 v0.c :: ro api_GlobalType.rep a107 n108 v0.env.Globals :: ro (rI .u32) a104 n105 v0.env.Funcs :: ro api_FuncType.rep a101 n102 v0.env.Types :: ro (rI .u32) a112 n113 v1.L :: R) (fun w h => h) ?_
    refine TO.go0 rfl rfl (Does.storePts (k := 0) (vs := [.string ⟨v125.Name.toArray⟩, .int .i64 v125.Imm, .string ⟨v125.Params.toArray⟩, .string ⟨v125.Result.toArray⟩, .bool v125.Free]) (cs' := [.string ⟨v125.Name.toArray⟩, .int .i64 v125.Imm, .string ⟨v125.Params.toArray⟩, .string ⟨v125.Result.toArray⟩, .bool v125.Free]) rfl rfl rfl rfl rfl cn_117 rfl rfl rfl rfl) fun _ => ?_
    refine TO.ent (L' := pts b127 [.string ⟨v125.Name.toArray⟩, .int .i64 v125.Imm, .string ⟨v125.Params.toArray⟩, .string ⟨v125.Result.toArray⟩, .bool v125.Free] :: pts b115 [.int .u8 v1.Op.toNat, .int .u64 v1.A, .int .u64 v1.B, .slice a112 v1.L.length n113] :: pts b0 [.slice a101 v0.env.Types.length n102, .slice a104 v0.env.Funcs.length n105, .slice a107 v0.env.Globals.length n108, .bool v0.env.Table, .bool v0.env.Mem, .string ⟨v0.locals.toArray⟩, .pointer (some ⟨b110, 0, none⟩), .string ⟨v0.result.toArray⟩] :: ptr ctrl_Control.rep b110 v0.c :: ro api_GlobalType.rep a107 n108 v0.env.Globals :: ro (rI .u32) a104 n105 v0.env.Funcs :: ro api_FuncType.rep a101 n102 v0.env.Types :: ro (rI .u32) a112 n113 v1.L :: R) (fun w h => h) ?_
    refine TO.end rfl ?_
    refine TQ.then ?_
    refine T.seqJ (X := Unit) rfl (fun x => [(6, .pointer (some ⟨b127, 0, none⟩)), (0, .pointer (some ⟨b0, 0, none⟩))]) (fun x => ro api_FuncType.rep a101 n102 v0.env.Types :: ro (rI .u32) a104 n105 v0.env.Funcs :: ro api_GlobalType.rep a107 n108 v0.env.Globals :: ptr ctrl_Control.rep b110 v0.c :: pts b0 [.slice a101 v0.env.Types.length n102, .slice a104 v0.env.Funcs.length n105, .slice a107 v0.env.Globals.length n108, .bool v0.env.Table, .bool v0.env.Mem, .string ⟨v0.locals.toArray⟩, .pointer (some ⟨b110, 0, none⟩), .string ⟨v0.result.toArray⟩] :: pts b127 [.string ⟨v125.Name.toArray⟩, .int .i64 v125.Imm, .string ⟨v125.Params.toArray⟩, .string ⟨v125.Result.toArray⟩, .bool v125.Free] :: R) (fun x => f16.j1 v0 v125 = some r) ?_ ?_
    · rintro ⟨⟩ hm
      try dsimp only
      unfold f16.j1 at hm
      refine T.seq rfl ?_
      refine T.region rfl ?_
      refine TO.go rfl rfl rfl (Does.move rfl rfl) fun _ => ?_
      refine TO.go rfl rfl rfl (Does.fieldAddr (o' := 2) rfl rfl fo_117_2 rfl) fun _ => ?_
      refine TO.go rfl rfl rfl (Does.loadPts (k := 5) (v := .string ⟨v125.Params.toArray⟩) rfl rfl sc_9 rfl rfl) fun _ => ?_
      refine TO.go rfl rfl rfl (Does.fieldAddr (o' := 3) rfl rfl fo_117_3 rfl) fun _ => ?_
      refine TO.go rfl rfl rfl (Does.loadPts (k := 5) (v := .string ⟨v125.Result.toArray⟩) rfl rfl sc_9 rfl rfl) fun _ => ?_
      obtain ⟨v215, h216, hm⟩ := bind_o hm
      refine TO.go rfl rfl rfl (Does.call (vs := [.pointer (some ⟨b0, 0, none⟩), .string ⟨v125.Params.toArray⟩, .string ⟨v125.Result.toArray⟩]) rfl co_53 rfl (fun w h => f53.ok v0 b0 a101 n102 a104 n105 a107 n108 b110 v125.Params v125.Result h216 ((((((((h).ent (Ent.copy 2 rfl)).ent (Ent.copy 2 rfl)).ent (Ent.copy 2 rfl)).ent (Ent.take 1 rfl)).ent (Ent.take 2 rfl)).ent (Ent.take 6 rfl)).ent (Ent.take 7 rfl)))) fun _ => ?_
      refine TO.ent (L' := pts b0 [.slice a101 v0.env.Types.length n102, .slice a104 v0.env.Funcs.length n105, .slice a107 v0.env.Globals.length n108, .bool v0.env.Table, .bool v0.env.Mem, .string ⟨v0.locals.toArray⟩, .pointer (some ⟨b110, 0, none⟩), .string ⟨v0.result.toArray⟩] :: ptr ctrl_Control.rep b110 v215.2.c :: ro api_FuncType.rep a101 n102 v0.env.Types :: ro (rI .u32) a104 n105 v0.env.Funcs :: ro api_GlobalType.rep a107 n108 v0.env.Globals :: pts b127 [.string ⟨v125.Name.toArray⟩, .int .i64 v125.Imm, .string ⟨v125.Params.toArray⟩, .string ⟨v125.Result.toArray⟩, .bool v125.Free] :: R) (fun w h => h) ?_
      refine TO.go rfl rfl rfl (Does.assign rfl rfl) fun _ => ?_
      refine TO.end rfl ?_
      refine TQ.then ?_
      refine T.ret rfl ?_
      refine TQ.result (.inl rfl) rfl (Res.tmp rfl Res.nil) rfl (fun w h => ?_)
      cases hm
      exact ⟨(), rfl, ((((((((((h).ent (Ent.take 2 rfl)).ent (Ent.drop _ _)).ent (Ent.take 2 rfl)).ent (Ent.drop _ _)).ent (Ent.take 2 rfl)).ent (Ent.drop _ _)).ent (Ent.take 2 rfl)).ent (Ent.drop _ _)).ent (Ent.take 1 rfl)).ent (Ent.take 1 rfl)⟩
    · intro h211
      refine T.block rfl ?_
      refine T.seqJ (X := Bool) rfl (fun x => [(16, .bool x), (6, .pointer (some ⟨b127, 0, none⟩)), (3, .pointer (some ⟨b115, 0, none⟩)), (0, .pointer (some ⟨b0, 0, none⟩))]) (fun x => ro api_FuncType.rep a101 n102 v0.env.Types :: ro (rI .u32) a104 n105 v0.env.Funcs :: ro api_GlobalType.rep a107 n108 v0.env.Globals :: ptr ctrl_Control.rep b110 v0.c :: pts b0 [.slice a101 v0.env.Types.length n102, .slice a104 v0.env.Funcs.length n105, .slice a107 v0.env.Globals.length n108, .bool v0.env.Table, .bool v0.env.Mem, .string ⟨v0.locals.toArray⟩, .pointer (some ⟨b110, 0, none⟩), .string ⟨v0.result.toArray⟩] :: ro (rI .u32) a112 n113 v1.L :: pts b115 [.int .u8 v1.Op.toNat, .int .u64 v1.A, .int .u64 v1.B, .slice a112 v1.L.length n113] :: pts b127 [.string ⟨v125.Name.toArray⟩, .int .i64 v125.Imm, .string ⟨v125.Params.toArray⟩, .string ⟨v125.Result.toArray⟩, .bool v125.Free] :: R) (fun x => f16.j2 v0 v125 v1 x = some r) ?_ ?_
      · rintro v226 hm
        try dsimp only
        unfold f16.j2 at hm
        refine T.cond rfl (b := v226) rfl (fun h228 => ?_) (fun h228 => ?_)
        · replace hm := ite_t hm h228
          refine T.seq rfl ?_
          refine T.region rfl ?_
          refine TO.go rfl rfl rfl (Does.move rfl rfl) fun _ => ?_
          refine TO.go rfl rfl rfl (Does.loadPtsN (k := 6) (vs := [.int .u8 v1.Op.toNat, .int .u64 v1.A, .int .u64 v1.B, .slice a112 v1.L.length n113]) rfl rfl ag_40 rfl rfl rfl) fun _ => ?_
          obtain ⟨v233, h234, hm⟩ := bind_o hm
          refine TO.go rfl rfl rfl (Does.call (vs := [.pointer (some ⟨b0, 0, none⟩), .agg #[.int .u8 v1.Op.toNat, .int .u64 v1.A, .int .u64 v1.B, .slice a112 v1.L.length n113]]) rfl co_48 rfl (fun w h => f48.ok v0 b0 a101 n102 a104 n105 a107 n108 b110 v1 a112 n113 h234 ((((((((((h).ent (Ent.copy 2 rfl)).ent (Ent.copy 2 rfl)).ent (Ent.copy 2 rfl)).ent (Ent.copy 8 rfl)).ent (Ent.take 1 rfl)).ent (Ent.take 2 rfl)).ent (Ent.take 3 rfl)).ent (Ent.take 7 rfl)).ent (Ent.take 8 rfl)))) fun _ => ?_
          refine TO.ent (L' := pts b0 [.slice a101 v0.env.Types.length n102, .slice a104 v0.env.Funcs.length n105, .slice a107 v0.env.Globals.length n108, .bool v0.env.Table, .bool v0.env.Mem, .string ⟨v0.locals.toArray⟩, .pointer (some ⟨b110, 0, none⟩), .string ⟨v0.result.toArray⟩] :: ptr ctrl_Control.rep b110 v233.2.c :: ro api_FuncType.rep a101 n102 v0.env.Types :: ro (rI .u32) a104 n105 v0.env.Funcs :: ro api_GlobalType.rep a107 n108 v0.env.Globals :: ro (rI .u32) a112 n113 v1.L :: pts b115 [.int .u8 v1.Op.toNat, .int .u64 v1.A, .int .u64 v1.B, .slice a112 v1.L.length n113] :: pts b127 [.string ⟨v125.Name.toArray⟩, .int .i64 v125.Imm, .string ⟨v125.Params.toArray⟩, .string ⟨v125.Result.toArray⟩, .bool v125.Free] :: R) (fun w h => h) ?_
          refine TO.go rfl rfl rfl (Does.assign rfl rfl) fun _ => ?_
          refine TO.end rfl ?_
          refine TQ.then ?_
          refine T.ret rfl ?_
          refine TQ.passBlockRet ?_
          refine TQ.passThenRet ?_
          refine TQ.result (.inl rfl) rfl (Res.tmp rfl Res.nil) rfl (fun w h => ?_)
          cases hm
          exact ⟨(), rfl, ((((((((((((((h).ent (Ent.take 2 rfl)).ent (Ent.drop _ _)).ent (Ent.take 2 rfl)).ent (Ent.drop _ _)).ent (Ent.take 2 rfl)).ent (Ent.drop _ _)).ent (Ent.take 2 rfl)).ent (Ent.drop _ _)).ent (Ent.take 2 rfl)).ent (Ent.drop _ _)).ent (Ent.take 2 rfl)).ent (Ent.drop _ _)).ent (Ent.take 1 rfl)).ent (Ent.take 1 rfl)⟩
        · replace hm := ite_f hm h228
          refine T.seqJ (X := Bool) rfl (fun x => [(28, .bool x), (6, .pointer (some ⟨b127, 0, none⟩)), (3, .pointer (some ⟨b115, 0, none⟩)), (0, .pointer (some ⟨b0, 0, none⟩))]) (fun x => ro api_FuncType.rep a101 n102 v0.env.Types :: ro (rI .u32) a104 n105 v0.env.Funcs :: ro api_GlobalType.rep a107 n108 v0.env.Globals :: ptr ctrl_Control.rep b110 v0.c :: pts b0 [.slice a101 v0.env.Types.length n102, .slice a104 v0.env.Funcs.length n105, .slice a107 v0.env.Globals.length n108, .bool v0.env.Table, .bool v0.env.Mem, .string ⟨v0.locals.toArray⟩, .pointer (some ⟨b110, 0, none⟩), .string ⟨v0.result.toArray⟩] :: ro (rI .u32) a112 n113 v1.L :: pts b115 [.int .u8 v1.Op.toNat, .int .u64 v1.A, .int .u64 v1.B, .slice a112 v1.L.length n113] :: pts b127 [.string ⟨v125.Name.toArray⟩, .int .i64 v125.Imm, .string ⟨v125.Params.toArray⟩, .string ⟨v125.Result.toArray⟩, .bool v125.Free] :: R) (fun x => f16.j3 v0 v125 v1 x = some r) ?_ ?_
          · rintro v244 hm
            try dsimp only
            unfold f16.j3 at hm
            refine T.cond rfl (b := v244) rfl (fun h246 => ?_) (fun h246 => ?_)
            · replace hm := ite_t hm h246
              refine T.seq rfl ?_
              refine T.region rfl ?_
              refine TO.go rfl rfl rfl (Does.move rfl rfl) fun _ => ?_
              refine TO.go rfl rfl rfl (Does.loadPtsN (k := 6) (vs := [.int .u8 v1.Op.toNat, .int .u64 v1.A, .int .u64 v1.B, .slice a112 v1.L.length n113]) rfl rfl ag_40 rfl rfl rfl) fun _ => ?_
              obtain ⟨v251, h252, hm⟩ := bind_o hm
              refine TO.go rfl rfl rfl (Does.call (vs := [.pointer (some ⟨b0, 0, none⟩), .agg #[.int .u8 v1.Op.toNat, .int .u64 v1.A, .int .u64 v1.B, .slice a112 v1.L.length n113]]) rfl co_49 rfl (fun w h => f49.ok v0 b0 a101 n102 a104 n105 a107 n108 b110 v1 a112 n113 h252 ((((((((((h).ent (Ent.copy 2 rfl)).ent (Ent.copy 2 rfl)).ent (Ent.copy 2 rfl)).ent (Ent.copy 8 rfl)).ent (Ent.take 1 rfl)).ent (Ent.take 2 rfl)).ent (Ent.take 3 rfl)).ent (Ent.take 7 rfl)).ent (Ent.take 8 rfl)))) fun _ => ?_
              refine TO.ent (L' := pts b0 [.slice a101 v0.env.Types.length n102, .slice a104 v0.env.Funcs.length n105, .slice a107 v0.env.Globals.length n108, .bool v0.env.Table, .bool v0.env.Mem, .string ⟨v0.locals.toArray⟩, .pointer (some ⟨b110, 0, none⟩), .string ⟨v0.result.toArray⟩] :: ptr ctrl_Control.rep b110 v251.2.c :: ro api_FuncType.rep a101 n102 v0.env.Types :: ro (rI .u32) a104 n105 v0.env.Funcs :: ro api_GlobalType.rep a107 n108 v0.env.Globals :: ro (rI .u32) a112 n113 v1.L :: pts b115 [.int .u8 v1.Op.toNat, .int .u64 v1.A, .int .u64 v1.B, .slice a112 v1.L.length n113] :: pts b127 [.string ⟨v125.Name.toArray⟩, .int .i64 v125.Imm, .string ⟨v125.Params.toArray⟩, .string ⟨v125.Result.toArray⟩, .bool v125.Free] :: R) (fun w h => h) ?_
              refine TO.go rfl rfl rfl (Does.assign rfl rfl) fun _ => ?_
              refine TO.end rfl ?_
              refine TQ.then ?_
              refine T.ret rfl ?_
              refine TQ.passBlockRet ?_
              refine TQ.passThenRet ?_
              refine TQ.result (.inl rfl) rfl (Res.tmp rfl Res.nil) rfl (fun w h => ?_)
              cases hm
              exact ⟨(), rfl, ((((((((((((((h).ent (Ent.take 2 rfl)).ent (Ent.drop _ _)).ent (Ent.take 2 rfl)).ent (Ent.drop _ _)).ent (Ent.take 2 rfl)).ent (Ent.drop _ _)).ent (Ent.take 2 rfl)).ent (Ent.drop _ _)).ent (Ent.take 2 rfl)).ent (Ent.drop _ _)).ent (Ent.take 2 rfl)).ent (Ent.drop _ _)).ent (Ent.take 1 rfl)).ent (Ent.take 1 rfl)⟩
            · replace hm := ite_f hm h246
              refine T.seqJ (X := Bool) rfl (fun x => [(40, .bool x), (6, .pointer (some ⟨b127, 0, none⟩)), (3, .pointer (some ⟨b115, 0, none⟩)), (0, .pointer (some ⟨b0, 0, none⟩))]) (fun x => ro api_FuncType.rep a101 n102 v0.env.Types :: ro (rI .u32) a104 n105 v0.env.Funcs :: ro api_GlobalType.rep a107 n108 v0.env.Globals :: ptr ctrl_Control.rep b110 v0.c :: pts b0 [.slice a101 v0.env.Types.length n102, .slice a104 v0.env.Funcs.length n105, .slice a107 v0.env.Globals.length n108, .bool v0.env.Table, .bool v0.env.Mem, .string ⟨v0.locals.toArray⟩, .pointer (some ⟨b110, 0, none⟩), .string ⟨v0.result.toArray⟩] :: ro (rI .u32) a112 n113 v1.L :: pts b115 [.int .u8 v1.Op.toNat, .int .u64 v1.A, .int .u64 v1.B, .slice a112 v1.L.length n113] :: pts b127 [.string ⟨v125.Name.toArray⟩, .int .i64 v125.Imm, .string ⟨v125.Params.toArray⟩, .string ⟨v125.Result.toArray⟩, .bool v125.Free] :: R) (fun x => f16.j4 v0 v125 v1 x = some r) ?_ ?_
              · rintro v262 hm
                try dsimp only
                unfold f16.j4 at hm
                refine T.cond rfl (b := v262) rfl (fun h264 => ?_) (fun h264 => ?_)
                · replace hm := ite_t hm h264
                  refine T.seq rfl ?_
                  refine T.region rfl ?_
                  refine TO.go rfl rfl rfl (Does.move rfl rfl) fun _ => ?_
                  refine TO.go rfl rfl rfl (Does.loadPtsN (k := 6) (vs := [.int .u8 v1.Op.toNat, .int .u64 v1.A, .int .u64 v1.B, .slice a112 v1.L.length n113]) rfl rfl ag_40 rfl rfl rfl) fun _ => ?_
                  obtain ⟨v269, h270, hm⟩ := bind_o hm
                  refine TO.go rfl rfl rfl (Does.call (vs := [.pointer (some ⟨b0, 0, none⟩), .agg #[.int .u8 v1.Op.toNat, .int .u64 v1.A, .int .u64 v1.B, .slice a112 v1.L.length n113]]) rfl co_50 rfl (fun w h => f50.ok v0 b0 a101 n102 a104 n105 a107 n108 b110 v1 a112 n113 h270 ((((((((((h).ent (Ent.copy 2 rfl)).ent (Ent.copy 2 rfl)).ent (Ent.copy 2 rfl)).ent (Ent.copy 8 rfl)).ent (Ent.take 1 rfl)).ent (Ent.take 2 rfl)).ent (Ent.take 3 rfl)).ent (Ent.take 7 rfl)).ent (Ent.take 8 rfl)))) fun _ => ?_
                  refine TO.ent (L' := pts b0 [.slice a101 v0.env.Types.length n102, .slice a104 v0.env.Funcs.length n105, .slice a107 v0.env.Globals.length n108, .bool v0.env.Table, .bool v0.env.Mem, .string ⟨v0.locals.toArray⟩, .pointer (some ⟨b110, 0, none⟩), .string ⟨v0.result.toArray⟩] :: ptr ctrl_Control.rep b110 v269.2.c :: ro api_FuncType.rep a101 n102 v0.env.Types :: ro (rI .u32) a104 n105 v0.env.Funcs :: ro api_GlobalType.rep a107 n108 v0.env.Globals :: ro (rI .u32) a112 n113 v1.L :: pts b115 [.int .u8 v1.Op.toNat, .int .u64 v1.A, .int .u64 v1.B, .slice a112 v1.L.length n113] :: pts b127 [.string ⟨v125.Name.toArray⟩, .int .i64 v125.Imm, .string ⟨v125.Params.toArray⟩, .string ⟨v125.Result.toArray⟩, .bool v125.Free] :: R) (fun w h => h) ?_
                  refine TO.go rfl rfl rfl (Does.assign rfl rfl) fun _ => ?_
                  refine TO.end rfl ?_
                  refine TQ.then ?_
                  refine T.ret rfl ?_
                  refine TQ.passBlockRet ?_
                  refine TQ.passThenRet ?_
                  refine TQ.result (.inl rfl) rfl (Res.tmp rfl Res.nil) rfl (fun w h => ?_)
                  cases hm
                  exact ⟨(), rfl, ((((((((((((((h).ent (Ent.take 2 rfl)).ent (Ent.drop _ _)).ent (Ent.take 2 rfl)).ent (Ent.drop _ _)).ent (Ent.take 2 rfl)).ent (Ent.drop _ _)).ent (Ent.take 2 rfl)).ent (Ent.drop _ _)).ent (Ent.take 2 rfl)).ent (Ent.drop _ _)).ent (Ent.take 2 rfl)).ent (Ent.drop _ _)).ent (Ent.take 1 rfl)).ent (Ent.take 1 rfl)⟩
                · replace hm := ite_f hm h264
                  refine T.seq rfl ?_
                  refine T.region rfl ?_
                  refine TO.go rfl rfl rfl (Does.fieldAddr (o' := 4) rfl rfl fo_117_4 rfl) fun _ => ?_
                  refine TO.go rfl rfl rfl (Does.loadPts (k := 7) (v := .bool v125.Free) rfl rfl sc_4 rfl rfl) fun _ => ?_
                  refine TO.go rfl rfl rfl (Does.assign rfl rfl) fun _ => ?_
                  refine TO.end rfl ?_
                  refine TQ.then ?_
                  refine T.cond rfl (b := v125.Free) rfl (fun h271 => ?_) (fun h271 => ?_)
                  · replace hm := ite_t hm h271
                    refine T.seq rfl ?_
                    refine T.region rfl ?_
                    refine TO.go rfl rfl rfl (Does.move rfl rfl) fun _ => ?_
                    refine TO.go rfl rfl rfl (Does.loadPtsN (k := 6) (vs := [.int .u8 v1.Op.toNat, .int .u64 v1.A, .int .u64 v1.B, .slice a112 v1.L.length n113]) rfl rfl ag_40 rfl rfl rfl) fun _ => ?_
                    obtain ⟨v276, h277, hm⟩ := bind_o hm
                    refine TO.go rfl rfl rfl (Does.call (vs := [.pointer (some ⟨b0, 0, none⟩), .agg #[.int .u8 v1.Op.toNat, .int .u64 v1.A, .int .u64 v1.B, .slice a112 v1.L.length n113]]) rfl co_51 rfl (fun w h => f51.ok v0 b0 a101 n102 a104 n105 a107 n108 b110 v1 a112 n113 h277 ((((((((((h).ent (Ent.copy 2 rfl)).ent (Ent.copy 2 rfl)).ent (Ent.copy 2 rfl)).ent (Ent.copy 8 rfl)).ent (Ent.take 1 rfl)).ent (Ent.take 2 rfl)).ent (Ent.take 3 rfl)).ent (Ent.take 7 rfl)).ent (Ent.take 8 rfl)))) fun _ => ?_
                    refine TO.ent (L' := pts b0 [.slice a101 v0.env.Types.length n102, .slice a104 v0.env.Funcs.length n105, .slice a107 v0.env.Globals.length n108, .bool v0.env.Table, .bool v0.env.Mem, .string ⟨v0.locals.toArray⟩, .pointer (some ⟨b110, 0, none⟩), .string ⟨v0.result.toArray⟩] :: ptr ctrl_Control.rep b110 v276.2.c :: ro api_FuncType.rep a101 n102 v0.env.Types :: ro (rI .u32) a104 n105 v0.env.Funcs :: ro api_GlobalType.rep a107 n108 v0.env.Globals :: ro (rI .u32) a112 n113 v1.L :: pts b115 [.int .u8 v1.Op.toNat, .int .u64 v1.A, .int .u64 v1.B, .slice a112 v1.L.length n113] :: pts b127 [.string ⟨v125.Name.toArray⟩, .int .i64 v125.Imm, .string ⟨v125.Params.toArray⟩, .string ⟨v125.Result.toArray⟩, .bool v125.Free] :: R) (fun w h => h) ?_
                    refine TO.go rfl rfl rfl (Does.assign rfl rfl) fun _ => ?_
                    refine TO.end rfl ?_
                    refine TQ.then ?_
                    refine T.ret rfl ?_
                    refine TQ.passBlockRet ?_
                    refine TQ.passThenRet ?_
                    refine TQ.result (.inl rfl) rfl (Res.tmp rfl Res.nil) rfl (fun w h => ?_)
                    cases hm
                    exact ⟨(), rfl, ((((((((((((((h).ent (Ent.take 2 rfl)).ent (Ent.drop _ _)).ent (Ent.take 2 rfl)).ent (Ent.drop _ _)).ent (Ent.take 2 rfl)).ent (Ent.drop _ _)).ent (Ent.take 2 rfl)).ent (Ent.drop _ _)).ent (Ent.take 2 rfl)).ent (Ent.drop _ _)).ent (Ent.take 2 rfl)).ent (Ent.drop _ _)).ent (Ent.take 1 rfl)).ent (Ent.take 1 rfl)⟩
                  · replace hm := ite_f hm h271
                    refine T.seqJ (X := Bool) rfl (fun x => [(58, .bool x), (6, .pointer (some ⟨b127, 0, none⟩)), (3, .pointer (some ⟨b115, 0, none⟩)), (0, .pointer (some ⟨b0, 0, none⟩))]) (fun x => ro api_FuncType.rep a101 n102 v0.env.Types :: ro (rI .u32) a104 n105 v0.env.Funcs :: ro api_GlobalType.rep a107 n108 v0.env.Globals :: ptr ctrl_Control.rep b110 v0.c :: pts b0 [.slice a101 v0.env.Types.length n102, .slice a104 v0.env.Funcs.length n105, .slice a107 v0.env.Globals.length n108, .bool v0.env.Table, .bool v0.env.Mem, .string ⟨v0.locals.toArray⟩, .pointer (some ⟨b110, 0, none⟩), .string ⟨v0.result.toArray⟩] :: ro (rI .u32) a112 n113 v1.L :: pts b115 [.int .u8 v1.Op.toNat, .int .u64 v1.A, .int .u64 v1.B, .slice a112 v1.L.length n113] :: pts b127 [.string ⟨v125.Name.toArray⟩, .int .i64 v125.Imm, .string ⟨v125.Params.toArray⟩, .string ⟨v125.Result.toArray⟩, .bool v125.Free] :: R) (fun x => f16.j5 v0 v125 v1 x = some r) ?_ ?_
                    · rintro v287 hm
                      try dsimp only
                      unfold f16.j5 at hm
                      refine T.cond rfl (b := v287) rfl (fun h289 => ?_) (fun h289 => ?_)
                      · replace hm := ite_t hm h289
                        refine T.seq rfl ?_
                        refine T.region rfl ?_
                        refine TO.go rfl rfl rfl (Does.move rfl rfl) fun _ => ?_
                        refine TO.go rfl rfl rfl (Does.loadPtsN (k := 6) (vs := [.int .u8 v1.Op.toNat, .int .u64 v1.A, .int .u64 v1.B, .slice a112 v1.L.length n113]) rfl rfl ag_40 rfl rfl rfl) fun _ => ?_
                        obtain ⟨v294, h295, hm⟩ := bind_o hm
                        refine TO.go rfl rfl rfl (Does.conseq (Does.call (vs := [.pointer (some ⟨b0, 0, none⟩), .agg #[.int .u8 v1.Op.toNat, .int .u64 v1.A, .int .u64 v1.B, .slice a112 v1.L.length n113]]) rfl co_52 rfl (fun w h => f52.ok v0 b0 a101 n102 a104 n105 a107 n108 b110 v1 a112 n113 h295 ((((((((((h).ent (Ent.copy 2 rfl)).ent (Ent.copy 2 rfl)).ent (Ent.copy 2 rfl)).ent (Ent.copy 8 rfl)).ent (Ent.take 1 rfl)).ent (Ent.take 2 rfl)).ent (Ent.take 3 rfl)).ent (Ent.take 7 rfl)).ent (Ent.take 8 rfl)))) (fun w h => h) (fun x w h => ((((((((h).ent (Ent.take 7 rfl)).ent (Ent.take 7 rfl)).ent (Ent.take 7 rfl)).ent (Ent.take 3 rfl)).ent (Ent.take 4 rfl)).ent (Ent.take 7 rfl)).ent (Ent.take 7 rfl)).ent (Ent.take 7 rfl))) fun _ => ?_
                        refine TO.go rfl rfl rfl (Does.assign rfl rfl) fun _ => ?_
                        refine TO.end rfl ?_
                        refine TQ.then ?_
                        refine T.seq rfl ?_
                        refine T.region rfl ?_
                        refine TO.go rfl rfl rfl (Does.move rfl rfl) fun _ => ?_
                        refine TO.go rfl rfl rfl (Does.bin (v := .bool (v294 != 0)) (vy := .int .i64 0) rfl rfl rfl g_int b_ne) fun _ => ?_
                        refine TO.end rfl ?_
                        refine TQ.then ?_
                        refine T.cond rfl (b := (v294 != 0)) rfl (fun h296 => ?_) (fun h296 => ?_)
                        · replace hm := ite_t hm h296
                          refine T.seq rfl ?_
                          refine T.region rfl ?_
                          refine TO.go rfl rfl rfl (Does.move rfl rfl) fun _ => ?_
                          refine TO.go rfl rfl rfl (Does.assign rfl rfl) fun _ => ?_
                          refine TO.end rfl ?_
                          refine TQ.then ?_
                          refine T.ret rfl ?_
                          refine TQ.passBlockRet ?_
                          refine TQ.passThenRet ?_
                          refine TQ.result (.inl rfl) rfl (Res.tmp rfl Res.nil) rfl (fun w h => ?_)
                          cases hm
                          exact ⟨(), rfl, ((((((((((h).ent (Ent.drop _ _)).ent (Ent.drop _ _)).ent (Ent.drop _ _)).ent (Ent.take 2 rfl)).ent (Ent.drop _ _)).ent (Ent.take 2 rfl)).ent (Ent.drop _ _)).ent (Ent.take 2 rfl)).ent (Ent.drop _ _)).ent (Ent.take 1 rfl)⟩
                        · replace hm := ite_f hm h296
                          refine T.skip rfl ?_
                          refine TQ.passBlockNormal ?_
                          exact TQ.then (T.sub (h211 () hm) (Sub.cons rfl (Sub.cons rfl (Sub.nil _))) (fun w h => (((((((((((((((((((h).ent (Ent.copy 0 rfl)).ent (Ent.copy 2 rfl)).ent (Ent.copy 4 rfl)).ent (Ent.take 3 rfl)).ent (Ent.drop _ _)).ent (Ent.take 3 rfl)).ent (Ent.drop _ _)).ent (Ent.take 3 rfl)).ent (Ent.drop _ _)).ent (Ent.take 5 rfl)).ent (Ent.drop _ _)).ent (Ent.take 5 rfl)).ent (Ent.drop _ _)).ent (Ent.take 5 rfl)).ent (Ent.take 5 rfl)).ent (Ent.take 5 rfl)).ent (Ent.take 3 rfl)).ent (Ent.take 4 rfl)).ent (Ent.take 5 rfl)))
                      · replace hm := ite_f hm h289
                        refine T.skip rfl ?_
                        refine TQ.passBlockNormal ?_
                        exact TQ.then (T.sub (h211 () hm) (Sub.cons rfl (Sub.cons rfl (Sub.nil _))) (fun w h => (((((((((((((((((((h).ent (Ent.copy 0 rfl)).ent (Ent.copy 2 rfl)).ent (Ent.copy 4 rfl)).ent (Ent.take 3 rfl)).ent (Ent.drop _ _)).ent (Ent.take 3 rfl)).ent (Ent.drop _ _)).ent (Ent.take 3 rfl)).ent (Ent.drop _ _)).ent (Ent.take 5 rfl)).ent (Ent.drop _ _)).ent (Ent.take 5 rfl)).ent (Ent.drop _ _)).ent (Ent.take 5 rfl)).ent (Ent.take 5 rfl)).ent (Ent.take 5 rfl)).ent (Ent.take 3 rfl)).ent (Ent.take 4 rfl)).ent (Ent.take 5 rfl)))
                    · intro h288
                      refine T.region rfl ?_
                      refine TO.go rfl rfl rfl (Does.fieldAddr (o' := 0) rfl rfl fo_40_0 rfl) fun _ => ?_
                      refine TO.go rfl rfl rfl (Does.loadPts (k := 6) (v := .int .u8 v1.Op.toNat) rfl rfl sc_5 rfl rfl) fun _ => ?_
                      refine TO.go rfl rfl rfl (Does.bin (v := .bool (decide ((40 : UInt8) ≤ v1.Op))) (vy := .int .u8 (40 : UInt8).toNat) rfl rfl rfl g_int b8_ge) fun _ => ?_
                      refine TO.go rfl rfl rfl (Does.move rfl rfl) fun _ => ?_
                      by_cases h303 : (decide ((40 : UInt8) ≤ v1.Op)) = true
                      · replace hm := ite_t hm h303
                        refine TO.go rfl rfl rfl (Does.fieldAddr (o' := 0) (.inl ⟨_, _, rfl, rfl, by rw [h303]; rfl⟩) rfl fo_40_0 rfl) fun _ => ?_
                        refine TO.go rfl rfl rfl (Does.loadPts (k := 6) (v := .int .u8 v1.Op.toNat) (.inl ⟨_, _, rfl, rfl, by rw [h303]; rfl⟩) rfl sc_5 rfl rfl) fun _ => ?_
                        refine TO.go rfl rfl rfl (Does.bin (v := .bool (decide (v1.Op ≤ (64 : UInt8)))) (vy := .int .u8 (64 : UInt8).toNat) (.inl ⟨_, _, rfl, rfl, by rw [h303]; rfl⟩) rfl rfl g_int b8_le) fun _ => ?_
                        refine TO.go rfl rfl rfl (Does.pickT rfl rfl h303 rfl) fun _ => ?_
                        refine TO.go rfl rfl rfl (Does.assign rfl rfl) fun _ => ?_
                        refine TO.end rfl ?_
                        exact TQ.then (T.sub (h288 (decide (v1.Op ≤ (64 : UInt8))) hm) (Sub.cons rfl (Sub.cons rfl (Sub.cons rfl (Sub.cons rfl (Sub.nil _))))) (fun w h => ((((((((((((((((((((h).ent (Ent.copy 0 rfl)).ent (Ent.copy 2 rfl)).ent (Ent.copy 4 rfl)).ent (Ent.copy 8 rfl)).ent (Ent.take 4 rfl)).ent (Ent.drop _ _)).ent (Ent.take 4 rfl)).ent (Ent.drop _ _)).ent (Ent.take 4 rfl)).ent (Ent.drop _ _)).ent (Ent.take 6 rfl)).ent (Ent.drop _ _)).ent (Ent.take 7 rfl)).ent (Ent.take 7 rfl)).ent (Ent.take 2 rfl)).ent (Ent.take 7 rfl)).ent (Ent.take 7 rfl)).ent (Ent.take 5 rfl)).ent (Ent.take 6 rfl)).ent (Ent.take 7 rfl)))
                      · replace h303 := bool_f h303
                        replace hm := ite_f hm h303
                        refine TO.go rfl rfl rfl (Does.not (.inl ⟨_, _, rfl, rfl, by rw [h303]; rfl⟩)) fun _ => ?_
                        refine TO.go rfl rfl rfl (Does.not (.inl ⟨_, _, rfl, rfl, by rw [h303]; rfl⟩)) fun _ => ?_
                        refine TO.go rfl rfl rfl (Does.not (.inl ⟨_, _, rfl, rfl, by rw [h303]; rfl⟩)) fun _ => ?_
                        refine TO.go rfl rfl rfl (Does.pickF (v := .bool false) rfl rfl h303 rfl) fun _ => ?_
                        refine TO.go rfl rfl rfl (Does.assign rfl rfl) fun _ => ?_
                        refine TO.end rfl ?_
                        exact TQ.then (T.sub (h288 false hm) (Sub.cons rfl (Sub.cons rfl (Sub.cons rfl (Sub.cons rfl (Sub.nil _))))) (fun w h => ((((((((((((((((((((h).ent (Ent.copy 0 rfl)).ent (Ent.copy 2 rfl)).ent (Ent.copy 4 rfl)).ent (Ent.copy 8 rfl)).ent (Ent.take 4 rfl)).ent (Ent.drop _ _)).ent (Ent.take 4 rfl)).ent (Ent.drop _ _)).ent (Ent.take 4 rfl)).ent (Ent.drop _ _)).ent (Ent.take 6 rfl)).ent (Ent.drop _ _)).ent (Ent.take 7 rfl)).ent (Ent.take 7 rfl)).ent (Ent.take 2 rfl)).ent (Ent.take 7 rfl)).ent (Ent.take 7 rfl)).ent (Ent.take 5 rfl)).ent (Ent.take 6 rfl)).ent (Ent.take 7 rfl)))
              · intro h263
                refine T.region rfl ?_
                refine TO.go rfl rfl rfl (Does.fieldAddr (o' := 0) rfl rfl fo_40_0 rfl) fun _ => ?_
                refine TO.go rfl rfl rfl (Does.loadPts (k := 6) (v := .int .u8 v1.Op.toNat) rfl rfl sc_5 rfl rfl) fun _ => ?_
                refine TO.go rfl rfl rfl (Does.bin (v := .bool (decide ((32 : UInt8) ≤ v1.Op))) (vy := .int .u8 (32 : UInt8).toNat) rfl rfl rfl g_int b8_ge) fun _ => ?_
                refine TO.go rfl rfl rfl (Does.move rfl rfl) fun _ => ?_
                by_cases h312 : (decide ((32 : UInt8) ≤ v1.Op)) = true
                · replace hm := ite_t hm h312
                  refine TO.go rfl rfl rfl (Does.fieldAddr (o' := 0) (.inl ⟨_, _, rfl, rfl, by rw [h312]; rfl⟩) rfl fo_40_0 rfl) fun _ => ?_
                  refine TO.go rfl rfl rfl (Does.loadPts (k := 6) (v := .int .u8 v1.Op.toNat) (.inl ⟨_, _, rfl, rfl, by rw [h312]; rfl⟩) rfl sc_5 rfl rfl) fun _ => ?_
                  refine TO.go rfl rfl rfl (Does.bin (v := .bool (decide (v1.Op ≤ (36 : UInt8)))) (vy := .int .u8 (36 : UInt8).toNat) (.inl ⟨_, _, rfl, rfl, by rw [h312]; rfl⟩) rfl rfl g_int b8_le) fun _ => ?_
                  refine TO.go rfl rfl rfl (Does.pickT rfl rfl h312 rfl) fun _ => ?_
                  refine TO.go rfl rfl rfl (Does.assign rfl rfl) fun _ => ?_
                  refine TO.end rfl ?_
                  exact TQ.then (T.sub (h263 (decide (v1.Op ≤ (36 : UInt8))) hm) (Sub.cons rfl (Sub.cons rfl (Sub.cons rfl (Sub.cons rfl (Sub.nil _))))) (fun w h => ((((((((((((((((((((h).ent (Ent.copy 0 rfl)).ent (Ent.copy 2 rfl)).ent (Ent.copy 4 rfl)).ent (Ent.copy 8 rfl)).ent (Ent.take 4 rfl)).ent (Ent.drop _ _)).ent (Ent.take 4 rfl)).ent (Ent.drop _ _)).ent (Ent.take 4 rfl)).ent (Ent.drop _ _)).ent (Ent.take 6 rfl)).ent (Ent.drop _ _)).ent (Ent.take 7 rfl)).ent (Ent.take 7 rfl)).ent (Ent.take 2 rfl)).ent (Ent.take 7 rfl)).ent (Ent.take 7 rfl)).ent (Ent.take 5 rfl)).ent (Ent.take 6 rfl)).ent (Ent.take 7 rfl)))
                · replace h312 := bool_f h312
                  replace hm := ite_f hm h312
                  refine TO.go rfl rfl rfl (Does.not (.inl ⟨_, _, rfl, rfl, by rw [h312]; rfl⟩)) fun _ => ?_
                  refine TO.go rfl rfl rfl (Does.not (.inl ⟨_, _, rfl, rfl, by rw [h312]; rfl⟩)) fun _ => ?_
                  refine TO.go rfl rfl rfl (Does.not (.inl ⟨_, _, rfl, rfl, by rw [h312]; rfl⟩)) fun _ => ?_
                  refine TO.go rfl rfl rfl (Does.pickF (v := .bool false) rfl rfl h312 rfl) fun _ => ?_
                  refine TO.go rfl rfl rfl (Does.assign rfl rfl) fun _ => ?_
                  refine TO.end rfl ?_
                  exact TQ.then (T.sub (h263 false hm) (Sub.cons rfl (Sub.cons rfl (Sub.cons rfl (Sub.cons rfl (Sub.nil _))))) (fun w h => ((((((((((((((((((((h).ent (Ent.copy 0 rfl)).ent (Ent.copy 2 rfl)).ent (Ent.copy 4 rfl)).ent (Ent.copy 8 rfl)).ent (Ent.take 4 rfl)).ent (Ent.drop _ _)).ent (Ent.take 4 rfl)).ent (Ent.drop _ _)).ent (Ent.take 4 rfl)).ent (Ent.drop _ _)).ent (Ent.take 6 rfl)).ent (Ent.drop _ _)).ent (Ent.take 7 rfl)).ent (Ent.take 7 rfl)).ent (Ent.take 2 rfl)).ent (Ent.take 7 rfl)).ent (Ent.take 7 rfl)).ent (Ent.take 5 rfl)).ent (Ent.take 6 rfl)).ent (Ent.take 7 rfl)))
          · intro h245
            refine T.region rfl ?_
            refine TO.go rfl rfl rfl (Does.fieldAddr (o' := 0) rfl rfl fo_40_0 rfl) fun _ => ?_
            refine TO.go rfl rfl rfl (Does.loadPts (k := 6) (v := .int .u8 v1.Op.toNat) rfl rfl sc_5 rfl rfl) fun _ => ?_
            refine TO.go rfl rfl rfl (Does.bin (v := .bool (v1.Op == (26 : UInt8))) (vy := .int .u8 (26 : UInt8).toNat) rfl rfl rfl g_int b8_eq) fun _ => ?_
            refine TO.go rfl rfl rfl (Does.move rfl rfl) fun _ => ?_
            by_cases h321 : (v1.Op == (26 : UInt8)) = true
            · replace hm := ite_t hm h321
              refine TO.go rfl rfl rfl (Does.not (.inl ⟨_, _, rfl, rfl, by rw [h321]; rfl⟩)) fun _ => ?_
              refine TO.go rfl rfl rfl (Does.not (.inl ⟨_, _, rfl, rfl, by rw [h321]; rfl⟩)) fun _ => ?_
              refine TO.go rfl rfl rfl (Does.not (.inl ⟨_, _, rfl, rfl, by rw [h321]; rfl⟩)) fun _ => ?_
              refine TO.go rfl rfl rfl (Does.pickT (v := .bool true) rfl rfl h321 rfl) fun _ => ?_
              refine TO.go rfl rfl rfl (Does.assign rfl rfl) fun _ => ?_
              refine TO.end rfl ?_
              exact TQ.then (T.sub (h245 true hm) (Sub.cons rfl (Sub.cons rfl (Sub.cons rfl (Sub.cons rfl (Sub.nil _))))) (fun w h => ((((((((((((((((((((h).ent (Ent.copy 0 rfl)).ent (Ent.copy 2 rfl)).ent (Ent.copy 4 rfl)).ent (Ent.copy 8 rfl)).ent (Ent.take 4 rfl)).ent (Ent.drop _ _)).ent (Ent.take 4 rfl)).ent (Ent.drop _ _)).ent (Ent.take 4 rfl)).ent (Ent.drop _ _)).ent (Ent.take 6 rfl)).ent (Ent.drop _ _)).ent (Ent.take 7 rfl)).ent (Ent.take 7 rfl)).ent (Ent.take 2 rfl)).ent (Ent.take 7 rfl)).ent (Ent.take 7 rfl)).ent (Ent.take 5 rfl)).ent (Ent.take 6 rfl)).ent (Ent.take 7 rfl)))
            · replace h321 := bool_f h321
              replace hm := ite_f hm h321
              refine TO.go rfl rfl rfl (Does.fieldAddr (o' := 0) (.inl ⟨_, _, rfl, rfl, by rw [h321]; rfl⟩) rfl fo_40_0 rfl) fun _ => ?_
              refine TO.go rfl rfl rfl (Does.loadPts (k := 6) (v := .int .u8 v1.Op.toNat) (.inl ⟨_, _, rfl, rfl, by rw [h321]; rfl⟩) rfl sc_5 rfl rfl) fun _ => ?_
              refine TO.go rfl rfl rfl (Does.bin (v := .bool (v1.Op == (27 : UInt8))) (vy := .int .u8 (27 : UInt8).toNat) (.inl ⟨_, _, rfl, rfl, by rw [h321]; rfl⟩) rfl rfl g_int b8_eq) fun _ => ?_
              refine TO.go rfl rfl rfl (Does.pickF rfl rfl h321 rfl) fun _ => ?_
              refine TO.go rfl rfl rfl (Does.assign rfl rfl) fun _ => ?_
              refine TO.end rfl ?_
              exact TQ.then (T.sub (h245 (v1.Op == (27 : UInt8)) hm) (Sub.cons rfl (Sub.cons rfl (Sub.cons rfl (Sub.cons rfl (Sub.nil _))))) (fun w h => ((((((((((((((((((((h).ent (Ent.copy 0 rfl)).ent (Ent.copy 2 rfl)).ent (Ent.copy 4 rfl)).ent (Ent.copy 8 rfl)).ent (Ent.take 4 rfl)).ent (Ent.drop _ _)).ent (Ent.take 4 rfl)).ent (Ent.drop _ _)).ent (Ent.take 4 rfl)).ent (Ent.drop _ _)).ent (Ent.take 6 rfl)).ent (Ent.drop _ _)).ent (Ent.take 7 rfl)).ent (Ent.take 7 rfl)).ent (Ent.take 2 rfl)).ent (Ent.take 7 rfl)).ent (Ent.take 7 rfl)).ent (Ent.take 5 rfl)).ent (Ent.take 6 rfl)).ent (Ent.take 7 rfl)))
      · intro h227
        refine T.region rfl ?_
        refine TO.go rfl rfl rfl (Does.fieldAddr (o' := 0) rfl rfl fo_40_0 rfl) fun _ => ?_
        refine TO.go rfl rfl rfl (Does.loadPts (k := 1) (v := .int .u8 v1.Op.toNat) rfl rfl sc_5 rfl rfl) fun _ => ?_
        refine TO.go rfl rfl rfl (Does.bin (v := .bool (v1.Op == (16 : UInt8))) (vy := .int .u8 (16 : UInt8).toNat) rfl rfl rfl g_int b8_eq) fun _ => ?_
        refine TO.go rfl rfl rfl (Does.move rfl rfl) fun _ => ?_
        by_cases h330 : (v1.Op == (16 : UInt8)) = true
        · replace hm := ite_t hm h330
          refine TO.go rfl rfl rfl (Does.not (.inl ⟨_, _, rfl, rfl, by rw [h330]; rfl⟩)) fun _ => ?_
          refine TO.go rfl rfl rfl (Does.not (.inl ⟨_, _, rfl, rfl, by rw [h330]; rfl⟩)) fun _ => ?_
          refine TO.go rfl rfl rfl (Does.not (.inl ⟨_, _, rfl, rfl, by rw [h330]; rfl⟩)) fun _ => ?_
          refine TO.go rfl rfl rfl (Does.pickT (v := .bool true) rfl rfl h330 rfl) fun _ => ?_
          refine TO.go rfl rfl rfl (Does.assign rfl rfl) fun _ => ?_
          refine TO.end rfl ?_
          exact TQ.then (T.sub (h227 true hm) (Sub.cons rfl (Sub.cons rfl (Sub.cons rfl (Sub.cons rfl (Sub.nil _))))) (fun w h => ((((((((((((((((((((h).ent (Ent.copy 6 rfl)).ent (Ent.copy 6 rfl)).ent (Ent.copy 6 rfl)).ent (Ent.copy 10 rfl)).ent (Ent.take 8 rfl)).ent (Ent.drop _ _)).ent (Ent.take 8 rfl)).ent (Ent.drop _ _)).ent (Ent.take 8 rfl)).ent (Ent.drop _ _)).ent (Ent.take 8 rfl)).ent (Ent.drop _ _)).ent (Ent.take 4 rfl)).ent (Ent.take 5 rfl)).ent (Ent.take 2 rfl)).ent (Ent.take 6 rfl)).ent (Ent.take 7 rfl)).ent (Ent.take 5 rfl)).ent (Ent.take 6 rfl)).ent (Ent.take 7 rfl)))
        · replace h330 := bool_f h330
          replace hm := ite_f hm h330
          refine TO.go rfl rfl rfl (Does.fieldAddr (o' := 0) (.inl ⟨_, _, rfl, rfl, by rw [h330]; rfl⟩) rfl fo_40_0 rfl) fun _ => ?_
          refine TO.go rfl rfl rfl (Does.loadPts (k := 1) (v := .int .u8 v1.Op.toNat) (.inl ⟨_, _, rfl, rfl, by rw [h330]; rfl⟩) rfl sc_5 rfl rfl) fun _ => ?_
          refine TO.go rfl rfl rfl (Does.bin (v := .bool (v1.Op == (17 : UInt8))) (vy := .int .u8 (17 : UInt8).toNat) (.inl ⟨_, _, rfl, rfl, by rw [h330]; rfl⟩) rfl rfl g_int b8_eq) fun _ => ?_
          refine TO.go rfl rfl rfl (Does.pickF rfl rfl h330 rfl) fun _ => ?_
          refine TO.go rfl rfl rfl (Does.assign rfl rfl) fun _ => ?_
          refine TO.end rfl ?_
          exact TQ.then (T.sub (h227 (v1.Op == (17 : UInt8)) hm) (Sub.cons rfl (Sub.cons rfl (Sub.cons rfl (Sub.cons rfl (Sub.nil _))))) (fun w h => ((((((((((((((((((((h).ent (Ent.copy 6 rfl)).ent (Ent.copy 6 rfl)).ent (Ent.copy 6 rfl)).ent (Ent.copy 10 rfl)).ent (Ent.take 8 rfl)).ent (Ent.drop _ _)).ent (Ent.take 8 rfl)).ent (Ent.drop _ _)).ent (Ent.take 8 rfl)).ent (Ent.drop _ _)).ent (Ent.take 8 rfl)).ent (Ent.drop _ _)).ent (Ent.take 4 rfl)).ent (Ent.take 5 rfl)).ent (Ent.take 2 rfl)).ent (Ent.take 6 rfl)).ent (Ent.take 7 rfl)).ent (Ent.take 5 rfl)).ent (Ent.take 6 rfl)).ent (Ent.take 7 rfl)))

end Go.Proofs.Ytfonekhhbmlkbaa
