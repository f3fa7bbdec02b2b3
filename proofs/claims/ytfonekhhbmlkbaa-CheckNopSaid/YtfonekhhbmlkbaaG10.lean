/- Mirrors of functions, and that the Go functions compute them. Printed by gofun.py. -/
import Derived.Test.YtfonekhhbmlkbaaG9
set_option linter.unusedVariables false
set_option linter.unusedSimpArgs false
namespace Go.Proofs.Ytfonekhhbmlkbaa
open Go Go.Sym
def f51.j1 (v0 : check_checker) (v1 : api_Instr) (v231 : Bool) : Option (Int × check_checker) :=
  (if v231 = true then ((f78.f v1.A).bind fun v246 => ((f45.f v0.c v1.Op v246).bind fun v249 => some (0, ({ env := v0.env, locals := v0.locals, c := v249, result := v0.result } : check_checker)))) else (if (v1.Op == (4 : UInt8)) = true then ((f73.f v0 (127 : UInt8)).bind fun v262 => (if (v262.1 != 0) = true then some (v262.1, ({ env := v0.env, locals := v0.locals, c := v262.2.c, result := v0.result } : check_checker)) else ((f78.f v1.A).bind fun v277 => ((f45.f v262.2.c v1.Op v277).bind fun v280 => some (0, ({ env := v0.env, locals := v0.locals, c := v280, result := v0.result } : check_checker)))))) else (if (v1.Op == (5 : UInt8)) = true then ((f79.f v0.c).bind fun v284 => (if (v284.2.1 != 0) = true then some (v284.2.1, ({ env := v0.env, locals := v0.locals, c := v284.2.2, result := v0.result } : check_checker)) else ((f45.f v284.2.2 (5 : UInt8) v284.1.Results).bind fun v298 => some (0, ({ env := v0.env, locals := v0.locals, c := v298, result := v0.result } : check_checker))))) else (if (v1.Op == (11 : UInt8)) = true then ((f80.f v0).bind fun v305 => some (v305.1, ({ env := v0.env, locals := v0.locals, c := v305.2.c, result := v0.result } : check_checker))) else (if (v1.Op == (15 : UInt8)) = true then ((f81.f v0.c v0.result).bind fun v347 => (if (v347.1 != 0) = true then some (v347.1, ({ env := v0.env, locals := v0.locals, c := v347.2, result := v0.result } : check_checker)) else ((f77.f v347.2).bind fun v352 => some (0, ({ env := v0.env, locals := v0.locals, c := v352, result := v0.result } : check_checker))))) else ((f82.f v0 v1).bind fun v358 => some (v358.1, ({ env := v0.env, locals := v0.locals, c := v358.2.c, result := v0.result } : check_checker))))))))
/-- (*creel/check.checker).control -/
def f51.f (v0 : check_checker) (v1 : api_Instr) : Option (Int × check_checker) :=
  (if (v1.Op == (0 : UInt8)) = true then ((f77.f v0.c).bind fun v221 => some (0, ({ env := v0.env, locals := v0.locals, c := v221, result := v0.result } : check_checker))) else (if (v1.Op == (2 : UInt8)) = true then f51.j1 v0 v1 (v1.Op == (2 : UInt8)) else f51.j1 v0 v1 (v1.Op == (3 : UInt8))))
set_option maxRecDepth 20000 in
set_option maxHeartbeats 1000000 in
theorem f51.ok {W w : World} {R : List Assn} (v0 : check_checker) (b0 : Nat) (a101 : Option Addr) (n102 : Nat) (a104 : Option Addr) (n105 : Nat) (a107 : Option Addr) (n108 : Nat) (b110 : Nat) (v1 : api_Instr) (a112 : Option Addr) (n113 : Nat) {r : Int × check_checker} (hm : f51.f v0 v1 = some r) (hs : St W w (pts b0 [.slice a101 v0.env.Types.length n102, .slice a104 v0.env.Funcs.length n105, .slice a107 v0.env.Globals.length n108, .bool v0.env.Table, .bool v0.env.Mem, .string ⟨v0.locals.toArray⟩, .pointer (some ⟨b110, 0, none⟩), .string ⟨v0.result.toArray⟩] :: ptr ctrl_Control.rep b110 v0.c :: ro api_GlobalType.rep a107 n108 v0.env.Globals :: ro (rI .u32) a104 n105 v0.env.Funcs :: ro api_FuncType.rep a101 n102 v0.env.Types :: ro (rI .u32) a112 n113 v1.L :: R)) :
    Calls Try.prog 51 #[.pointer (some ⟨b0, 0, none⟩), .agg #[.int .u8 v1.Op.toNat, .int .u64 v1.A, .int .u64 v1.B, .slice a112 v1.L.length n113]] w (fun e w' => ∃ x : Unit, e = .returned (.int .i64 r.1) ∧ St W w' (pts b0 [.slice a101 v0.env.Types.length n102, .slice a104 v0.env.Funcs.length n105, .slice a107 v0.env.Globals.length n108, .bool v0.env.Table, .bool v0.env.Mem, .string ⟨v0.locals.toArray⟩, .pointer (some ⟨b110, 0, none⟩), .string ⟨v0.result.toArray⟩] :: ptr ctrl_Control.rep b110 r.2.c :: R)) := by
  unfold f51.f at hm
  refine calls_sym (vs := [.pointer (some ⟨b0, 0, none⟩), .agg #[.int .u8 v1.Op.toNat, .int .u64 v1.A, .int .u64 v1.B, .slice a112 v1.L.length n113]]) Try.func51 rfl rfl hs ?_
  refine T.seq rfl ?_
  refine T.region rfl ?_
  refine TO.go rfl rfl rfl (Does.box (vs := [.int .u8 v1.Op.toNat, .int .u64 v1.A, .int .u64 v1.B, .slice a112 v1.L.length n113]) rfl rfl rfl) fun b115 => ?_
  refine TO.ent (L' := pts b115 [.int .u8 v1.Op.toNat, .int .u64 v1.A, .int .u64 v1.B, .slice a112 v1.L.length n113] :: pts b0 [.slice a101 v0.env.Types.length n102, .slice a104 v0.env.Funcs.length n105, .slice a107 v0.env.Globals.length n108, .bool v0.env.Table, .bool v0.env.Mem, .string ⟨v0.locals.toArray⟩, .pointer (some ⟨b110, 0, none⟩), .string ⟨v0.result.toArray⟩] :: ptr ctrl_Control.rep b110 v0.c :: ro api_GlobalType.rep a107 n108 v0.env.Globals :: ro (rI .u32) a104 n105 v0.env.Funcs :: ro api_FuncType.rep a101 n102 v0.env.Types :: ro (rI .u32) a112 n113 v1.L :: R) (fun w h => h) ?_
  refine TO.go rfl rfl rfl (Does.assign (v := .int .i64 0) rfl rfl) fun _ => ?_
  refine TO.end rfl ?_
  refine TQ.then ?_
  refine T.seq rfl ?_
  refine T.seq rfl ?_
  refine T.region rfl ?_
  refine TO.go rfl rfl rfl (Does.fieldAddr (o' := 0) rfl rfl fo_40_0 rfl) fun _ => ?_
  refine TO.go rfl rfl rfl (Does.loadPts (k := 0) (v := .int .u8 v1.Op.toNat) rfl rfl sc_5 rfl rfl) fun _ => ?_
  refine TO.end rfl ?_
  refine TQ.then ?_
  refine T.block rfl ?_
  refine T.seq rfl ?_
  refine T.region rfl ?_
  refine TO.go rfl rfl rfl (Does.bin (v := .bool (v1.Op == (0 : UInt8))) (vy := .int .u8 (0 : UInt8).toNat) rfl rfl rfl g_int b8_eq) fun _ => ?_
  refine TO.go rfl rfl rfl (Does.assign rfl rfl) fun _ => ?_
  refine TO.end rfl ?_
  refine TQ.then ?_
  refine T.cond rfl (b := (v1.Op == (0 : UInt8))) rfl (fun h220 => ?_) (fun h220 => ?_)
  · replace hm := ite_t hm h220
    refine T.region rfl ?_
    refine TO.go rfl rfl rfl (Does.move rfl rfl) fun _ => ?_
    refine TO.go rfl rfl rfl (Does.nilCheck rfl rfl) fun _ => ?_
    refine TO.go rfl rfl rfl (Does.fieldAddr (o' := 6) rfl rfl fo_76_2 rfl) fun _ => ?_
    refine TO.go rfl rfl rfl (Does.loadPts (k := 1) (v := .pointer (some ⟨b110, 0, none⟩)) rfl rfl sc_73 rfl rfl) fun _ => ?_
    obtain ⟨v221, h222, hm⟩ := bind_o hm
    refine TO.go rfl rfl rfl (Does.call (vs := [.pointer (some ⟨b110, 0, none⟩)]) rfl co_77 rfl (fun w h => f77.ok v0.c b110 h222 ((h).ent (Ent.take 2 rfl)))) fun _ => ?_
    refine TO.ent (L' := ptr ctrl_Control.rep b110 v221 :: pts b115 [.int .u8 v1.Op.toNat, .int .u64 v1.A, .int .u64 v1.B, .slice a112 v1.L.length n113] :: pts b0 [.slice a101 v0.env.Types.length n102, .slice a104 v0.env.Funcs.length n105, .slice a107 v0.env.Globals.length n108, .bool v0.env.Table, .bool v0.env.Mem, .string ⟨v0.locals.toArray⟩, .pointer (some ⟨b110, 0, none⟩), .string ⟨v0.result.toArray⟩] :: ro api_GlobalType.rep a107 n108 v0.env.Globals :: ro (rI .u32) a104 n105 v0.env.Funcs :: ro api_FuncType.rep a101 n102 v0.env.Types :: ro (rI .u32) a112 n113 v1.L :: R) (fun w h => h) ?_
    refine TO.end rfl ?_
    refine TQ.passBlockNormal ?_
    refine TQ.then ?_
    refine T.seq rfl ?_
    refine T.region rfl ?_
    refine TO.go rfl rfl rfl (Does.assign (v := .int .i64 0) rfl rfl) fun _ => ?_
    refine TO.end rfl ?_
    refine TQ.then ?_
    refine T.ret rfl ?_
    refine TQ.result (.inl rfl) rfl (Res.tmp rfl Res.nil) rfl (fun w h => ?_)
    cases hm
    exact ⟨(), rfl, (((((((((((h).ent (Ent.take 1 rfl)).ent (Ent.drop _ _)).ent (Ent.take 2 rfl)).ent (Ent.drop _ _)).ent (Ent.take 2 rfl)).ent (Ent.drop _ _)).ent (Ent.take 2 rfl)).ent (Ent.drop _ _)).ent (Ent.take 2 rfl)).ent (Ent.drop _ _)).ent (Ent.take 1 rfl)⟩
  · replace hm := ite_f hm h220
    refine T.seqJ (X := Bool) rfl (fun x => [(21, .bool x), (10, .int .u8 v1.Op.toNat), (3, .pointer (some ⟨b115, 0, none⟩)), (0, .pointer (some ⟨b0, 0, none⟩))]) (fun x => ro api_FuncType.rep a101 n102 v0.env.Types :: ro (rI .u32) a104 n105 v0.env.Funcs :: ro api_GlobalType.rep a107 n108 v0.env.Globals :: ptr ctrl_Control.rep b110 v0.c :: pts b0 [.slice a101 v0.env.Types.length n102, .slice a104 v0.env.Funcs.length n105, .slice a107 v0.env.Globals.length n108, .bool v0.env.Table, .bool v0.env.Mem, .string ⟨v0.locals.toArray⟩, .pointer (some ⟨b110, 0, none⟩), .string ⟨v0.result.toArray⟩] :: ro (rI .u32) a112 n113 v1.L :: pts b115 [.int .u8 v1.Op.toNat, .int .u64 v1.A, .int .u64 v1.B, .slice a112 v1.L.length n113] :: R) (fun x => f51.j1 v0 v1 x = some r) ?_ ?_
    · rintro v231 hm
      try dsimp only
      unfold f51.j1 at hm
      refine T.cond rfl (b := v231) rfl (fun h233 => ?_) (fun h233 => ?_)
      · replace hm := ite_t hm h233
        refine T.draw [0, 1, 2, 3, 4, 5, 6, 7, 8] rfl mixed ?_
        refine RA.quiet (i := 0) (v := .pointer (some ⟨b0, 0, none⟩)) PendOK.nil rfl rfl rfl rfl rfl rfl (Does.move rfl rfl) fun h238 => ?_
        refine RA.quiet (i := 1) (v := .pointer (some ⟨b0, 0, none⟩)) h238 rfl rfl rfl rfl rfl rfl (Does.nilCheck rfl rfl) fun h239 => ?_
        refine RA.quiet (i := 2) (v := .pointer (some ⟨b0, 6, none⟩)) h239 rfl rfl rfl rfl rfl rfl (Does.fieldAddr (o' := 6) rfl rfl fo_76_2 rfl) fun h240 => ?_
        refine RA.quiet (i := 3) (v := .pointer (some ⟨b110, 0, none⟩)) h240 rfl rfl rfl rfl rfl rfl (Does.loadPts (k := 4) (v := .pointer (some ⟨b110, 0, none⟩)) rfl rfl sc_73 rfl rfl) fun h241 => ?_
        refine RA.quiet (i := 4) (v := .pointer (some ⟨b115, 0, none⟩)) h241 rfl rfl rfl rfl rfl rfl (Does.fieldAddr (o' := 0) rfl rfl fo_40_0 rfl) fun h242 => ?_
        refine RA.quiet (i := 5) (v := .int .u8 v1.Op.toNat) h242 rfl rfl rfl rfl rfl rfl (Does.loadPts (k := 6) (v := .int .u8 v1.Op.toNat) rfl rfl sc_5 rfl rfl) fun h243 => ?_
        refine RA.quiet (i := 6) (v := .pointer (some ⟨b115, 1, none⟩)) h243 rfl rfl rfl rfl rfl rfl (Does.fieldAddr (o' := 1) rfl rfl fo_40_1 rfl) fun h244 => ?_
        refine RA.quiet (i := 7) (v := .int .u64 v1.A) h244 rfl rfl rfl rfl rfl rfl (Does.loadPts (k := 6) (v := .int .u64 v1.A) rfl rfl sc_38 rfl rfl) fun h245 => ?_
        obtain ⟨v246, h247, hm⟩ := bind_o hm
        refine RA.quiet (i := 8) (v := .string ⟨v246.toArray⟩) h245 rfl rfl rfl rfl rfl rfl (Does.conseq (Does.call (vs := [.int .u64 v1.A]) rfl co_78 rfl (fun w h => f78.ok v1.A h247 (h))) (fun w h => h) (fun x w h => (((((((h).ent (Ent.take 6 rfl)).ent (Ent.take 6 rfl)).ent (Ent.take 6 rfl)).ent (Ent.take 6 rfl)).ent (Ent.take 6 rfl)).ent (Ent.take 6 rfl)).ent (Ent.take 6 rfl))) fun h248 => ?_
        obtain ⟨v249, h250, hm⟩ := bind_o hm
        refine RA.eff (k := 9) (pend' := [(7, .int .u64 v1.A), (6, .pointer (some ⟨b115, 1, none⟩)), (4, .pointer (some ⟨b115, 0, none⟩)), (2, .pointer (some ⟨b0, 6, none⟩)), (1, .pointer (some ⟨b0, 0, none⟩)), (0, .pointer (some ⟨b0, 0, none⟩))]) (by kernel_rfl) h248 rfl (.inl ⟨_, rfl, rfl, fun _ => rfl⟩) rfl (by kernel_rfl) (Does.call (vs := [.pointer (some ⟨b110, 0, none⟩), .int .u8 v1.Op.toNat, .string ⟨v246.toArray⟩]) rfl co_45 rfl (fun w h => f45.ok v0.c b110 v1.Op v246 h250 ((h).ent (Ent.take 3 rfl)))) rfl (fun _ => (List.forall_mem_cons.2 ⟨⟨_, rfl, Does.loadPts (k := 6) (v := .int .u64 v1.A) rfl rfl sc_38 rfl rfl⟩, (List.forall_mem_cons.2 ⟨⟨_, rfl, Does.fieldAddr (o' := 1) rfl rfl fo_40_1 rfl⟩, (List.forall_mem_cons.2 ⟨⟨_, rfl, Does.fieldAddr (o' := 0) rfl rfl fo_40_0 rfl⟩, (List.forall_mem_cons.2 ⟨⟨_, rfl, Does.fieldAddr (o' := 6) rfl rfl fo_76_2 rfl⟩, (List.forall_mem_cons.2 ⟨⟨_, rfl, Does.nilCheck rfl rfl⟩, (List.forall_mem_cons.2 ⟨⟨_, rfl, Does.move rfl rfl⟩, (fun _ h => by cases h)⟩)⟩)⟩)⟩)⟩)⟩)) (fun _ h251 => ?_)
        refine RA.done (by kernel_rfl) h251 rfl ?_
        refine TQ.passBlockNormal ?_
        refine TQ.then ?_
        refine T.seq rfl ?_
        refine T.region rfl ?_
        refine TO.go rfl rfl rfl (Does.assign (v := .int .i64 0) rfl rfl) fun _ => ?_
        refine TO.end rfl ?_
        refine TQ.then ?_
        refine T.ret rfl ?_
        refine TQ.result (.inl rfl) rfl (Res.tmp rfl Res.nil) rfl (fun w h => ?_)
        cases hm
        exact ⟨(), rfl, (((((((((((h).ent (Ent.take 1 rfl)).ent (Ent.drop _ _)).ent (Ent.take 1 rfl)).ent (Ent.drop _ _)).ent (Ent.take 1 rfl)).ent (Ent.drop _ _)).ent (Ent.take 2 rfl)).ent (Ent.drop _ _)).ent (Ent.take 2 rfl)).ent (Ent.drop _ _)).ent (Ent.take 1 rfl)⟩
      · replace hm := ite_f hm h233
        refine T.seq rfl ?_
        refine T.region rfl ?_
        refine TO.go rfl rfl rfl (Does.bin (v := .bool (v1.Op == (4 : UInt8))) (vy := .int .u8 (4 : UInt8).toNat) rfl rfl rfl g_int b8_eq) fun _ => ?_
        refine TO.go rfl rfl rfl (Does.assign rfl rfl) fun _ => ?_
        refine TO.end rfl ?_
        refine TQ.then ?_
        refine T.cond rfl (b := (v1.Op == (4 : UInt8))) rfl (fun h252 => ?_) (fun h252 => ?_)
        · replace hm := ite_t hm h252
          refine T.seq rfl ?_
          refine T.seq rfl ?_
          refine T.region rfl ?_
          refine TO.go rfl rfl rfl (Does.move rfl rfl) fun _ => ?_
          obtain ⟨v262, h263, hm⟩ := bind_o hm
          refine TO.go rfl rfl rfl (Does.call (vs := [.pointer (some ⟨b0, 0, none⟩), .int .u8 (127 : UInt8).toNat]) rfl co_73 rfl (fun w h => f73.ok v0 b0 a101 n102 a104 n105 a107 n108 b110 (127 : UInt8) h263 ((((((((h).ent (Ent.copy 2 rfl)).ent (Ent.copy 2 rfl)).ent (Ent.copy 2 rfl)).ent (Ent.take 1 rfl)).ent (Ent.take 2 rfl)).ent (Ent.take 6 rfl)).ent (Ent.take 7 rfl)))) fun _ => ?_
          refine TO.ent (L' := pts b0 [.slice a101 v0.env.Types.length n102, .slice a104 v0.env.Funcs.length n105, .slice a107 v0.env.Globals.length n108, .bool v0.env.Table, .bool v0.env.Mem, .string ⟨v0.locals.toArray⟩, .pointer (some ⟨b110, 0, none⟩), .string ⟨v0.result.toArray⟩] :: ptr ctrl_Control.rep b110 v262.2.c :: ro api_FuncType.rep a101 n102 v0.env.Types :: ro (rI .u32) a104 n105 v0.env.Funcs :: ro api_GlobalType.rep a107 n108 v0.env.Globals :: ro (rI .u32) a112 n113 v1.L :: pts b115 [.int .u8 v1.Op.toNat, .int .u64 v1.A, .int .u64 v1.B, .slice a112 v1.L.length n113] :: R) (fun w h => h) ?_
          refine TO.go rfl rfl rfl (Does.assign rfl rfl) fun _ => ?_
          refine TO.end rfl ?_
          refine TQ.then ?_
          refine T.seq rfl ?_
          refine T.region rfl ?_
          refine TO.go rfl rfl rfl (Does.move rfl rfl) fun _ => ?_
          refine TO.go rfl rfl rfl (Does.bin (v := .bool (v262.1 != 0)) (vy := .int .i64 0) rfl rfl rfl g_int b_ne) fun _ => ?_
          refine TO.end rfl ?_
          refine TQ.then ?_
          refine T.cond rfl (b := (v262.1 != 0)) rfl (fun h264 => ?_) (fun h264 => ?_)
          · replace hm := ite_t hm h264
            refine T.seq rfl ?_
            refine T.region rfl ?_
            refine TO.go rfl rfl rfl (Does.move rfl rfl) fun _ => ?_
            refine TO.go rfl rfl rfl (Does.assign rfl rfl) fun _ => ?_
            refine TO.end rfl ?_
            refine TQ.then ?_
            refine T.ret rfl ?_
            refine TQ.passThenRet ?_
            refine TQ.passBlockRet ?_
            refine TQ.passThenRet ?_
            refine TQ.result (.inl rfl) rfl (Res.tmp rfl Res.nil) rfl (fun w h => ?_)
            cases hm
            exact ⟨(), rfl, ((((((((((((h).ent (Ent.take 2 rfl)).ent (Ent.drop _ _)).ent (Ent.take 2 rfl)).ent (Ent.drop _ _)).ent (Ent.take 2 rfl)).ent (Ent.drop _ _)).ent (Ent.take 2 rfl)).ent (Ent.drop _ _)).ent (Ent.take 2 rfl)).ent (Ent.drop _ _)).ent (Ent.take 1 rfl)).ent (Ent.take 1 rfl)⟩
          · replace hm := ite_f hm h264
            refine T.skip rfl ?_
            refine TQ.then ?_
            refine T.draw [0, 1, 2, 3, 4, 5, 6, 7, 8] rfl mixed ?_
            refine RA.quiet (i := 0) (v := .pointer (some ⟨b0, 0, none⟩)) PendOK.nil rfl rfl rfl rfl rfl rfl (Does.move rfl rfl) fun h269 => ?_
            refine RA.quiet (i := 1) (v := .pointer (some ⟨b0, 0, none⟩)) h269 rfl rfl rfl rfl rfl rfl (Does.nilCheck rfl rfl) fun h270 => ?_
            refine RA.quiet (i := 2) (v := .pointer (some ⟨b0, 6, none⟩)) h270 rfl rfl rfl rfl rfl rfl (Does.fieldAddr (o' := 6) rfl rfl fo_76_2 rfl) fun h271 => ?_
            refine RA.quiet (i := 3) (v := .pointer (some ⟨b110, 0, none⟩)) h271 rfl rfl rfl rfl rfl rfl (Does.loadPts (k := 0) (v := .pointer (some ⟨b110, 0, none⟩)) rfl rfl sc_73 rfl rfl) fun h272 => ?_
            refine RA.quiet (i := 4) (v := .pointer (some ⟨b115, 0, none⟩)) h272 rfl rfl rfl rfl rfl rfl (Does.fieldAddr (o' := 0) rfl rfl fo_40_0 rfl) fun h273 => ?_
            refine RA.quiet (i := 5) (v := .int .u8 v1.Op.toNat) h273 rfl rfl rfl rfl rfl rfl (Does.loadPts (k := 6) (v := .int .u8 v1.Op.toNat) rfl rfl sc_5 rfl rfl) fun h274 => ?_
            refine RA.quiet (i := 6) (v := .pointer (some ⟨b115, 1, none⟩)) h274 rfl rfl rfl rfl rfl rfl (Does.fieldAddr (o' := 1) rfl rfl fo_40_1 rfl) fun h275 => ?_
            refine RA.quiet (i := 7) (v := .int .u64 v1.A) h275 rfl rfl rfl rfl rfl rfl (Does.loadPts (k := 6) (v := .int .u64 v1.A) rfl rfl sc_38 rfl rfl) fun h276 => ?_
            obtain ⟨v277, h278, hm⟩ := bind_o hm
            refine RA.quiet (i := 8) (v := .string ⟨v277.toArray⟩) h276 rfl rfl rfl rfl rfl rfl (Does.conseq (Does.call (vs := [.int .u64 v1.A]) rfl co_78 rfl (fun w h => f78.ok v1.A h278 (h))) (fun w h => h) (fun x w h => (((((((h).ent (Ent.take 6 rfl)).ent (Ent.take 6 rfl)).ent (Ent.take 6 rfl)).ent (Ent.take 6 rfl)).ent (Ent.take 6 rfl)).ent (Ent.take 6 rfl)).ent (Ent.take 6 rfl))) fun h279 => ?_
            obtain ⟨v280, h281, hm⟩ := bind_o hm
            refine RA.eff (k := 9) (pend' := [(7, .int .u64 v1.A), (6, .pointer (some ⟨b115, 1, none⟩)), (4, .pointer (some ⟨b115, 0, none⟩)), (2, .pointer (some ⟨b0, 6, none⟩)), (1, .pointer (some ⟨b0, 0, none⟩)), (0, .pointer (some ⟨b0, 0, none⟩))]) (by kernel_rfl) h279 rfl (.inl ⟨_, rfl, rfl, fun _ => rfl⟩) rfl (by kernel_rfl) (Does.call (vs := [.pointer (some ⟨b110, 0, none⟩), .int .u8 v1.Op.toNat, .string ⟨v277.toArray⟩]) rfl co_45 rfl (fun w h => f45.ok v262.2.c b110 v1.Op v277 h281 ((h).ent (Ent.take 1 rfl)))) rfl (fun _ => (List.forall_mem_cons.2 ⟨⟨_, rfl, Does.loadPts (k := 6) (v := .int .u64 v1.A) rfl rfl sc_38 rfl rfl⟩, (List.forall_mem_cons.2 ⟨⟨_, rfl, Does.fieldAddr (o' := 1) rfl rfl fo_40_1 rfl⟩, (List.forall_mem_cons.2 ⟨⟨_, rfl, Does.fieldAddr (o' := 0) rfl rfl fo_40_0 rfl⟩, (List.forall_mem_cons.2 ⟨⟨_, rfl, Does.fieldAddr (o' := 6) rfl rfl fo_76_2 rfl⟩, (List.forall_mem_cons.2 ⟨⟨_, rfl, Does.nilCheck rfl rfl⟩, (List.forall_mem_cons.2 ⟨⟨_, rfl, Does.move rfl rfl⟩, (fun _ h => by cases h)⟩)⟩)⟩)⟩)⟩)⟩)) (fun _ h282 => ?_)
            refine RA.done (by kernel_rfl) h282 rfl ?_
            refine TQ.passBlockNormal ?_
            refine TQ.then ?_
            refine T.seq rfl ?_
            refine T.region rfl ?_
            refine TO.go rfl rfl rfl (Does.assign (v := .int .i64 0) rfl rfl) fun _ => ?_
            refine TO.end rfl ?_
            refine TQ.then ?_
            refine T.ret rfl ?_
            refine TQ.result (.inl rfl) rfl (Res.tmp rfl Res.nil) rfl (fun w h => ?_)
            cases hm
            exact ⟨(), rfl, (((((((((((h).ent (Ent.take 2 rfl)).ent (Ent.drop _ _)).ent (Ent.take 2 rfl)).ent (Ent.drop _ _)).ent (Ent.take 2 rfl)).ent (Ent.drop _ _)).ent (Ent.take 2 rfl)).ent (Ent.drop _ _)).ent (Ent.take 2 rfl)).ent (Ent.drop _ _)).ent (Ent.take 1 rfl)⟩
        · replace hm := ite_f hm h252
          refine T.seq rfl ?_
          refine T.region rfl ?_
          refine TO.go rfl rfl rfl (Does.bin (v := .bool (v1.Op == (5 : UInt8))) (vy := .int .u8 (5 : UInt8).toNat) rfl rfl rfl g_int b8_eq) fun _ => ?_
          refine TO.go rfl rfl rfl (Does.assign rfl rfl) fun _ => ?_
          refine TO.end rfl ?_
          refine TQ.then ?_
          refine T.cond rfl (b := (v1.Op == (5 : UInt8))) rfl (fun h283 => ?_) (fun h283 => ?_)
          · replace hm := ite_t hm h283
            refine T.seq rfl ?_
            refine T.region rfl ?_
            refine TO.go rfl rfl rfl (Does.move rfl rfl) fun _ => ?_
            refine TO.go rfl rfl rfl (Does.nilCheck rfl rfl) fun _ => ?_
            refine TO.go rfl rfl rfl (Does.fieldAddr (o' := 6) rfl rfl fo_76_2 rfl) fun _ => ?_
            refine TO.go rfl rfl rfl (Does.loadPts (k := 4) (v := .pointer (some ⟨b110, 0, none⟩)) rfl rfl sc_73 rfl rfl) fun _ => ?_
            obtain ⟨v284, h285, hm⟩ := bind_o hm
            refine TO.go rfl rfl rfl (Does.call (vs := [.pointer (some ⟨b110, 0, none⟩)]) rfl co_79 rfl (fun w h => f79.ok v0.c b110 h285 ((h).ent (Ent.take 3 rfl)))) fun _ => ?_
            refine TO.ent (L' := ptr ctrl_Control.rep b110 v284.2.2 :: ro api_FuncType.rep a101 n102 v0.env.Types :: ro (rI .u32) a104 n105 v0.env.Funcs :: ro api_GlobalType.rep a107 n108 v0.env.Globals :: pts b0 [.slice a101 v0.env.Types.length n102, .slice a104 v0.env.Funcs.length n105, .slice a107 v0.env.Globals.length n108, .bool v0.env.Table, .bool v0.env.Mem, .string ⟨v0.locals.toArray⟩, .pointer (some ⟨b110, 0, none⟩), .string ⟨v0.result.toArray⟩] :: ro (rI .u32) a112 n113 v1.L :: pts b115 [.int .u8 v1.Op.toNat, .int .u64 v1.A, .int .u64 v1.B, .slice a112 v1.L.length n113] :: R) (fun w h => h) ?_
            refine TO.go rfl rfl rfl (Does.move rfl rfl) fun _ => ?_
            refine TO.go rfl rfl rfl (Does.extract rfl rfl rfl) fun _ => ?_
            refine TO.go rfl rfl rfl (Does.extract rfl rfl rfl) fun _ => ?_
            refine TO.go rfl rfl rfl (Does.alloc rfl zn_136) fun b286 => ?_
            refine TO.ent (L' := pts b286 [.int .u8 (0 : UInt8).toNat, .string ⟨([] : List UInt8).toArray⟩, .int .i64 0, .bool false] :: ptr ctrl_Control.rep b110 v284.2.2 :: ro api_FuncType.rep a101 n102 v0.env.Types :: ro (rI .u32) a104 n105 v0.env.Funcs :: ro api_GlobalType.rep a107 n108 v0.env.Globals :: pts b0 [.slice a101 v0.env.Types.length n102, .slice a104 v0.env.Funcs.length n105, .slice a107 v0.env.Globals.length n108, .bool v0.env.Table, .bool v0.env.Mem, .string ⟨v0.locals.toArray⟩, .pointer (some ⟨b110, 0, none⟩), .string ⟨v0.result.toArray⟩] :: ro (rI .u32) a112 n113 v1.L :: pts b115 [.int .u8 v1.Op.toNat, .int .u64 v1.A, .int .u64 v1.B, .slice a112 v1.L.length n113] :: R) (fun w h => h) ?_
            refine TO.go0 rfl rfl (Does.storePts (k := 0) (vs := [.int .u8 v284.1.Op.toNat, .string ⟨v284.1.Results.toArray⟩, .int .i64 v284.1.Height, .bool v284.1.Dead]) (cs' := [.int .u8 v284.1.Op.toNat, .string ⟨v284.1.Results.toArray⟩, .int .i64 v284.1.Height, .bool v284.1.Dead]) rfl rfl rfl rfl rfl cn_136 rfl rfl rfl rfl) fun _ => ?_
            refine TO.ent (L' := pts b286 [.int .u8 v284.1.Op.toNat, .string ⟨v284.1.Results.toArray⟩, .int .i64 v284.1.Height, .bool v284.1.Dead] :: ptr ctrl_Control.rep b110 v284.2.2 :: ro api_FuncType.rep a101 n102 v0.env.Types :: ro (rI .u32) a104 n105 v0.env.Funcs :: ro api_GlobalType.rep a107 n108 v0.env.Globals :: pts b0 [.slice a101 v0.env.Types.length n102, .slice a104 v0.env.Funcs.length n105, .slice a107 v0.env.Globals.length n108, .bool v0.env.Table, .bool v0.env.Mem, .string ⟨v0.locals.toArray⟩, .pointer (some ⟨b110, 0, none⟩), .string ⟨v0.result.toArray⟩] :: ro (rI .u32) a112 n113 v1.L :: pts b115 [.int .u8 v1.Op.toNat, .int .u64 v1.A, .int .u64 v1.B, .slice a112 v1.L.length n113] :: R) (fun w h => h) ?_
            refine TO.go rfl rfl rfl (Does.assign rfl rfl) fun _ => ?_
            refine TO.end rfl ?_
            refine TQ.then ?_
            refine T.seq rfl ?_
            refine T.seq rfl ?_
            refine T.region rfl ?_
            refine TO.go rfl rfl rfl (Does.move rfl rfl) fun _ => ?_
            refine TO.go rfl rfl rfl (Does.bin (v := .bool (v284.2.1 != 0)) (vy := .int .i64 0) rfl rfl rfl g_int b_ne) fun _ => ?_
            refine TO.end rfl ?_
            refine TQ.then ?_
            refine T.cond rfl (b := (v284.2.1 != 0)) rfl (fun h289 => ?_) (fun h289 => ?_)
            · replace hm := ite_t hm h289
              refine T.seq rfl ?_
              refine T.region rfl ?_
              refine TO.go rfl rfl rfl (Does.move rfl rfl) fun _ => ?_
              refine TO.go rfl rfl rfl (Does.assign rfl rfl) fun _ => ?_
              refine TO.end rfl ?_
              refine TQ.then ?_
              refine T.ret rfl ?_
              refine TQ.passThenRet ?_
              refine TQ.passBlockRet ?_
              refine TQ.passThenRet ?_
              refine TQ.result (.inl rfl) rfl (Res.tmp rfl Res.nil) rfl (fun w h => ?_)
              cases hm
              exact ⟨(), rfl, ((((((((((((h).ent (Ent.drop _ _)).ent (Ent.take 1 rfl)).ent (Ent.drop _ _)).ent (Ent.take 1 rfl)).ent (Ent.drop _ _)).ent (Ent.take 1 rfl)).ent (Ent.drop _ _)).ent (Ent.take 2 rfl)).ent (Ent.drop _ _)).ent (Ent.take 2 rfl)).ent (Ent.drop _ _)).ent (Ent.take 1 rfl)⟩
            · replace hm := ite_f hm h289
              refine T.skip rfl ?_
              refine TQ.then ?_
              refine T.draw [0, 1, 2, 3, 4, 5] rfl mixed ?_
              refine RA.quiet (i := 0) (v := .pointer (some ⟨b0, 0, none⟩)) PendOK.nil rfl rfl rfl rfl rfl rfl (Does.move rfl rfl) fun h292 => ?_
              refine RA.quiet (i := 1) (v := .pointer (some ⟨b0, 0, none⟩)) h292 rfl rfl rfl rfl rfl rfl (Does.nilCheck rfl rfl) fun h293 => ?_
              refine RA.quiet (i := 2) (v := .pointer (some ⟨b0, 6, none⟩)) h293 rfl rfl rfl rfl rfl rfl (Does.fieldAddr (o' := 6) rfl rfl fo_76_2 rfl) fun h294 => ?_
              refine RA.quiet (i := 3) (v := .pointer (some ⟨b110, 0, none⟩)) h294 rfl rfl rfl rfl rfl rfl (Does.loadPts (k := 5) (v := .pointer (some ⟨b110, 0, none⟩)) rfl rfl sc_73 rfl rfl) fun h295 => ?_
              refine RA.quiet (i := 4) (v := .pointer (some ⟨b286, 1, none⟩)) h295 rfl rfl rfl rfl rfl rfl (Does.fieldAddr (o' := 1) rfl rfl fo_136_1 rfl) fun h296 => ?_
              refine RA.quiet (i := 5) (v := .string ⟨v284.1.Results.toArray⟩) h296 rfl rfl rfl rfl rfl rfl (Does.loadPts (k := 0) (v := .string ⟨v284.1.Results.toArray⟩) rfl rfl sc_9 rfl rfl) fun h297 => ?_
              obtain ⟨v298, h299, hm⟩ := bind_o hm
              refine RA.eff (k := 6) (pend' := [(4, .pointer (some ⟨b286, 1, none⟩)), (2, .pointer (some ⟨b0, 6, none⟩)), (1, .pointer (some ⟨b0, 0, none⟩)), (0, .pointer (some ⟨b0, 0, none⟩))]) (by kernel_rfl) h297 rfl (.inl ⟨_, rfl, rfl, fun _ => rfl⟩) rfl (by kernel_rfl) (Does.call (vs := [.pointer (some ⟨b110, 0, none⟩), .int .u8 (5 : UInt8).toNat, .string ⟨v284.1.Results.toArray⟩]) rfl co_45 rfl (fun w h => f45.ok v284.2.2 b110 (5 : UInt8) v284.1.Results h299 ((h).ent (Ent.take 1 rfl)))) rfl (fun _ => (List.forall_mem_cons.2 ⟨⟨_, rfl, Does.fieldAddr (o' := 1) rfl rfl fo_136_1 rfl⟩, (List.forall_mem_cons.2 ⟨⟨_, rfl, Does.fieldAddr (o' := 6) rfl rfl fo_76_2 rfl⟩, (List.forall_mem_cons.2 ⟨⟨_, rfl, Does.nilCheck rfl rfl⟩, (List.forall_mem_cons.2 ⟨⟨_, rfl, Does.move rfl rfl⟩, (fun _ h => by cases h)⟩)⟩)⟩)⟩)) (fun _ h300 => ?_)
              refine RA.done (by kernel_rfl) h300 rfl ?_
              refine TQ.passBlockNormal ?_
              refine TQ.then ?_
              refine T.seq rfl ?_
              refine T.region rfl ?_
              refine TO.go rfl rfl rfl (Does.assign (v := .int .i64 0) rfl rfl) fun _ => ?_
              refine TO.end rfl ?_
              refine TQ.then ?_
              refine T.ret rfl ?_
              refine TQ.result (.inl rfl) rfl (Res.tmp rfl Res.nil) rfl (fun w h => ?_)
              cases hm
              exact ⟨(), rfl, (((((((((((((h).ent (Ent.take 1 rfl)).ent (Ent.drop _ _)).ent (Ent.take 1 rfl)).ent (Ent.drop _ _)).ent (Ent.take 1 rfl)).ent (Ent.drop _ _)).ent (Ent.take 1 rfl)).ent (Ent.drop _ _)).ent (Ent.take 2 rfl)).ent (Ent.drop _ _)).ent (Ent.take 2 rfl)).ent (Ent.drop _ _)).ent (Ent.take 1 rfl)⟩
          · replace hm := ite_f hm h283
            refine T.seq rfl ?_
            refine T.region rfl ?_
            refine TO.go rfl rfl rfl (Does.bin (v := .bool (v1.Op == (11 : UInt8))) (vy := .int .u8 (11 : UInt8).toNat) rfl rfl rfl g_int b8_eq) fun _ => ?_
            refine TO.go rfl rfl rfl (Does.assign rfl rfl) fun _ => ?_
            refine TO.end rfl ?_
            refine TQ.then ?_
            refine T.cond rfl (b := (v1.Op == (11 : UInt8))) rfl (fun h301 => ?_) (fun h301 => ?_)
            · replace hm := ite_t hm h301
              refine T.seq rfl ?_
              refine T.region rfl ?_
              refine TO.go rfl rfl rfl (Does.move rfl rfl) fun _ => ?_
              obtain ⟨v305, h306, hm⟩ := bind_o hm
              refine TO.go rfl rfl rfl (Does.call (vs := [.pointer (some ⟨b0, 0, none⟩)]) rfl co_80 rfl (fun w h => f80.ok v0 b0 a101 n102 a104 n105 a107 n108 b110 h306 ((((((((h).ent (Ent.copy 2 rfl)).ent (Ent.copy 2 rfl)).ent (Ent.copy 2 rfl)).ent (Ent.take 1 rfl)).ent (Ent.take 2 rfl)).ent (Ent.take 6 rfl)).ent (Ent.take 7 rfl)))) fun _ => ?_
              refine TO.ent (L' := pts b0 [.slice a101 v0.env.Types.length n102, .slice a104 v0.env.Funcs.length n105, .slice a107 v0.env.Globals.length n108, .bool v0.env.Table, .bool v0.env.Mem, .string ⟨v0.locals.toArray⟩, .pointer (some ⟨b110, 0, none⟩), .string ⟨v0.result.toArray⟩] :: ptr ctrl_Control.rep b110 v305.2.c :: ro api_FuncType.rep a101 n102 v0.env.Types :: ro (rI .u32) a104 n105 v0.env.Funcs :: ro api_GlobalType.rep a107 n108 v0.env.Globals :: ro (rI .u32) a112 n113 v1.L :: pts b115 [.int .u8 v1.Op.toNat, .int .u64 v1.A, .int .u64 v1.B, .slice a112 v1.L.length n113] :: R) (fun w h => h) ?_
              refine TO.go rfl rfl rfl (Does.assign rfl rfl) fun _ => ?_
              refine TO.end rfl ?_
              refine TQ.then ?_
              refine T.ret rfl ?_
              refine TQ.passBlockRet ?_
              refine TQ.passThenRet ?_
              refine TQ.result (.inl rfl) rfl (Res.tmp rfl Res.nil) rfl (fun w h => ?_)
              cases hm
              exact ⟨(), rfl, ((((((((((((h).ent (Ent.take 2 rfl)).ent (Ent.drop _ _)).ent (Ent.take 2 rfl)).ent (Ent.drop _ _)).ent (Ent.take 2 rfl)).ent (Ent.drop _ _)).ent (Ent.take 2 rfl)).ent (Ent.drop _ _)).ent (Ent.take 2 rfl)).ent (Ent.drop _ _)).ent (Ent.take 1 rfl)).ent (Ent.take 1 rfl)⟩
            · replace hm := ite_f hm h301
              refine T.seq rfl ?_
              refine T.region rfl ?_
              refine TO.go rfl rfl rfl (Does.bin (v := .bool (v1.Op == (15 : UInt8))) (vy := .int .u8 (15 : UInt8).toNat) rfl rfl rfl g_int b8_eq) fun _ => ?_
              refine TO.go rfl rfl rfl (Does.assign rfl rfl) fun _ => ?_
              refine TO.end rfl ?_
              refine TQ.then ?_
              refine T.cond rfl (b := (v1.Op == (15 : UInt8))) rfl (fun h307 => ?_) (fun h307 => ?_)
              · replace hm := ite_t hm h307
                refine T.seq rfl ?_
                refine T.seq rfl ?_
                refine T.draw [0, 1, 2, 3, 4, 5, 6, 7] rfl mixed ?_
                refine RA.quiet (i := 0) (v := .pointer (some ⟨b0, 0, none⟩)) PendOK.nil rfl rfl rfl rfl rfl rfl (Does.move rfl rfl) fun h339 => ?_
                refine RA.quiet (i := 1) (v := .pointer (some ⟨b0, 0, none⟩)) h339 rfl rfl rfl rfl rfl rfl (Does.nilCheck rfl rfl) fun h340 => ?_
                refine RA.quiet (i := 2) (v := .pointer (some ⟨b0, 6, none⟩)) h340 rfl rfl rfl rfl rfl rfl (Does.fieldAddr (o' := 6) rfl rfl fo_76_2 rfl) fun h341 => ?_
                refine RA.quiet (i := 3) (v := .pointer (some ⟨b110, 0, none⟩)) h341 rfl rfl rfl rfl rfl rfl (Does.loadPts (k := 4) (v := .pointer (some ⟨b110, 0, none⟩)) rfl rfl sc_73 rfl rfl) fun h342 => ?_
                refine RA.quiet (i := 4) (v := .pointer (some ⟨b0, 0, none⟩)) h342 rfl rfl rfl rfl rfl rfl (Does.move rfl rfl) fun h343 => ?_
                refine RA.quiet (i := 5) (v := .pointer (some ⟨b0, 0, none⟩)) h343 rfl rfl rfl rfl rfl rfl (Does.nilCheck rfl rfl) fun h344 => ?_
                refine RA.quiet (i := 6) (v := .pointer (some ⟨b0, 7, none⟩)) h344 rfl rfl rfl rfl rfl rfl (Does.fieldAddr (o' := 7) rfl rfl fo_76_3 rfl) fun h345 => ?_
                refine RA.quiet (i := 7) (v := .string ⟨v0.result.toArray⟩) h345 rfl rfl rfl rfl rfl rfl (Does.loadPts (k := 4) (v := .string ⟨v0.result.toArray⟩) rfl rfl sc_9 rfl rfl) fun h346 => ?_
                obtain ⟨v347, h348, hm⟩ := bind_o hm
                refine RA.eff (k := 8) (pend' := [(6, .pointer (some ⟨b0, 7, none⟩)), (5, .pointer (some ⟨b0, 0, none⟩)), (4, .pointer (some ⟨b0, 0, none⟩)), (2, .pointer (some ⟨b0, 6, none⟩)), (1, .pointer (some ⟨b0, 0, none⟩)), (0, .pointer (some ⟨b0, 0, none⟩))]) (by kernel_rfl) h346 rfl (.inl ⟨_, rfl, rfl, fun _ => rfl⟩) rfl (by kernel_rfl) (Does.call (vs := [.pointer (some ⟨b110, 0, none⟩), .string ⟨v0.result.toArray⟩]) rfl co_81 rfl (fun w h => f81.ok v0.c b110 v0.result h348 ((h).ent (Ent.take 3 rfl)))) rfl (fun _ => (List.forall_mem_cons.2 ⟨⟨_, rfl, Does.fieldAddr (o' := 7) rfl rfl fo_76_3 rfl⟩, (List.forall_mem_cons.2 ⟨⟨_, rfl, Does.nilCheck rfl rfl⟩, (List.forall_mem_cons.2 ⟨⟨_, rfl, Does.move rfl rfl⟩, (List.forall_mem_cons.2 ⟨⟨_, rfl, Does.fieldAddr (o' := 6) rfl rfl fo_76_2 rfl⟩, (List.forall_mem_cons.2 ⟨⟨_, rfl, Does.nilCheck rfl rfl⟩, (List.forall_mem_cons.2 ⟨⟨_, rfl, Does.move rfl rfl⟩, (fun _ h => by cases h)⟩)⟩)⟩)⟩)⟩)⟩)) (fun _ h349 => ?_)
                refine RA.eff (k := 9) (pend' := []) (by kernel_rfl) h349 rfl (.inl ⟨_, rfl, rfl, fun _ => rfl⟩) rfl (by kernel_rfl) (Does.assign rfl rfl) rfl (fun _ => (fun _ h => by cases h)) (fun _ h350 => ?_)
                refine RA.done (by kernel_rfl) h350 rfl ?_
                refine TQ.then ?_
                refine T.seq rfl ?_
                refine T.region rfl ?_
                refine TO.go rfl rfl rfl (Does.move rfl rfl) fun _ => ?_
                refine TO.go rfl rfl rfl (Does.bin (v := .bool (v347.1 != 0)) (vy := .int .i64 0) rfl rfl rfl g_int b_ne) fun _ => ?_
                refine TO.end rfl ?_
                refine TQ.then ?_
                refine T.cond rfl (b := (v347.1 != 0)) rfl (fun h351 => ?_) (fun h351 => ?_)
                · replace hm := ite_t hm h351
                  refine T.seq rfl ?_
                  refine T.region rfl ?_
                  refine TO.go rfl rfl rfl (Does.move rfl rfl) fun _ => ?_
                  refine TO.go rfl rfl rfl (Does.assign rfl rfl) fun _ => ?_
                  refine TO.end rfl ?_
                  refine TQ.then ?_
                  refine T.ret rfl ?_
                  refine TQ.passThenRet ?_
                  refine TQ.passBlockRet ?_
                  refine TQ.passThenRet ?_
                  refine TQ.result (.inl rfl) rfl (Res.tmp rfl Res.nil) rfl (fun w h => ?_)
                  cases hm
                  exact ⟨(), rfl, (((((((((((h).ent (Ent.take 1 rfl)).ent (Ent.drop _ _)).ent (Ent.take 1 rfl)).ent (Ent.drop _ _)).ent (Ent.take 1 rfl)).ent (Ent.drop _ _)).ent (Ent.take 2 rfl)).ent (Ent.drop _ _)).ent (Ent.take 2 rfl)).ent (Ent.drop _ _)).ent (Ent.take 1 rfl)⟩
                · replace hm := ite_f hm h351
                  refine T.skip rfl ?_
                  refine TQ.then ?_
                  refine T.region rfl ?_
                  refine TO.go rfl rfl rfl (Does.move rfl rfl) fun _ => ?_
                  refine TO.go rfl rfl rfl (Does.nilCheck rfl rfl) fun _ => ?_
                  refine TO.go rfl rfl rfl (Does.fieldAddr (o' := 6) rfl rfl fo_76_2 rfl) fun _ => ?_
                  refine TO.go rfl rfl rfl (Does.loadPts (k := 4) (v := .pointer (some ⟨b110, 0, none⟩)) rfl rfl sc_73 rfl rfl) fun _ => ?_
                  obtain ⟨v352, h353, hm⟩ := bind_o hm
                  refine TO.go rfl rfl rfl (Does.call (vs := [.pointer (some ⟨b110, 0, none⟩)]) rfl co_77 rfl (fun w h => f77.ok v347.2 b110 h353 (h))) fun _ => ?_
                  refine TO.ent (L' := ptr ctrl_Control.rep b110 v352 :: ro api_FuncType.rep a101 n102 v0.env.Types :: ro (rI .u32) a104 n105 v0.env.Funcs :: ro api_GlobalType.rep a107 n108 v0.env.Globals :: pts b0 [.slice a101 v0.env.Types.length n102, .slice a104 v0.env.Funcs.length n105, .slice a107 v0.env.Globals.length n108, .bool v0.env.Table, .bool v0.env.Mem, .string ⟨v0.locals.toArray⟩, .pointer (some ⟨b110, 0, none⟩), .string ⟨v0.result.toArray⟩] :: ro (rI .u32) a112 n113 v1.L :: pts b115 [.int .u8 v1.Op.toNat, .int .u64 v1.A, .int .u64 v1.B, .slice a112 v1.L.length n113] :: R) (fun w h => h) ?_
                  refine TO.end rfl ?_
                  refine TQ.passBlockNormal ?_
                  refine TQ.then ?_
                  refine T.seq rfl ?_
                  refine T.region rfl ?_
                  refine TO.go rfl rfl rfl (Does.assign (v := .int .i64 0) rfl rfl) fun _ => ?_
                  refine TO.end rfl ?_
                  refine TQ.then ?_
                  refine T.ret rfl ?_
                  refine TQ.result (.inl rfl) rfl (Res.tmp rfl Res.nil) rfl (fun w h => ?_)
                  cases hm
                  exact ⟨(), rfl, (((((((((((h).ent (Ent.take 1 rfl)).ent (Ent.drop _ _)).ent (Ent.take 1 rfl)).ent (Ent.drop _ _)).ent (Ent.take 1 rfl)).ent (Ent.drop _ _)).ent (Ent.take 2 rfl)).ent (Ent.drop _ _)).ent (Ent.take 2 rfl)).ent (Ent.drop _ _)).ent (Ent.take 1 rfl)⟩
              · replace hm := ite_f hm h307
                refine T.seq rfl ?_
                refine T.region rfl ?_
                refine TO.go rfl rfl rfl (Does.move rfl rfl) fun _ => ?_
                refine TO.go rfl rfl rfl (Does.loadPtsN (k := 6) (vs := [.int .u8 v1.Op.toNat, .int .u64 v1.A, .int .u64 v1.B, .slice a112 v1.L.length n113]) rfl rfl ag_40 rfl rfl rfl) fun _ => ?_
                obtain ⟨v358, h359, hm⟩ := bind_o hm
                refine TO.go rfl rfl rfl (Does.call (vs := [.pointer (some ⟨b0, 0, none⟩), .agg #[.int .u8 v1.Op.toNat, .int .u64 v1.A, .int .u64 v1.B, .slice a112 v1.L.length n113]]) rfl co_82 rfl (fun w h => f82.ok v0 b0 a101 n102 a104 n105 a107 n108 b110 v1 a112 n113 h359 ((((((((((h).ent (Ent.copy 2 rfl)).ent (Ent.copy 2 rfl)).ent (Ent.copy 2 rfl)).ent (Ent.copy 8 rfl)).ent (Ent.take 1 rfl)).ent (Ent.take 2 rfl)).ent (Ent.take 3 rfl)).ent (Ent.take 7 rfl)).ent (Ent.take 8 rfl)))) fun _ => ?_
                refine TO.ent (L' := pts b0 [.slice a101 v0.env.Types.length n102, .slice a104 v0.env.Funcs.length n105, .slice a107 v0.env.Globals.length n108, .bool v0.env.Table, .bool v0.env.Mem, .string ⟨v0.locals.toArray⟩, .pointer (some ⟨b110, 0, none⟩), .string ⟨v0.result.toArray⟩] :: ptr ctrl_Control.rep b110 v358.2.c :: ro api_FuncType.rep a101 n102 v0.env.Types :: ro (rI .u32) a104 n105 v0.env.Funcs :: ro api_GlobalType.rep a107 n108 v0.env.Globals :: ro (rI .u32) a112 n113 v1.L :: pts b115 [.int .u8 v1.Op.toNat, .int .u64 v1.A, .int .u64 v1.B, .slice a112 v1.L.length n113] :: R) (fun w h => h) ?_
                refine TO.go rfl rfl rfl (Does.assign rfl rfl) fun _ => ?_
                refine TO.end rfl ?_
                refine TQ.then ?_
                refine T.ret rfl ?_
                refine TQ.passBlockRet ?_
                refine TQ.passThenRet ?_
                refine TQ.result (.inl rfl) rfl (Res.tmp rfl Res.nil) rfl (fun w h => ?_)
                cases hm
                exact ⟨(), rfl, ((((((((((((h).ent (Ent.take 2 rfl)).ent (Ent.drop _ _)).ent (Ent.take 2 rfl)).ent (Ent.drop _ _)).ent (Ent.take 2 rfl)).ent (Ent.drop _ _)).ent (Ent.take 2 rfl)).ent (Ent.drop _ _)).ent (Ent.take 2 rfl)).ent (Ent.drop _ _)).ent (Ent.take 1 rfl)).ent (Ent.take 1 rfl)⟩
    · intro h232
      refine T.seq rfl ?_
      refine T.region rfl ?_
      refine TO.go rfl rfl rfl (Does.bin (v := .bool (v1.Op == (2 : UInt8))) (vy := .int .u8 (2 : UInt8).toNat) rfl rfl rfl g_int b8_eq) fun _ => ?_
      refine TO.go rfl rfl rfl (Does.assign rfl rfl) fun _ => ?_
      refine TO.end rfl ?_
      refine TQ.then ?_
      refine T.cond rfl (b := (v1.Op == (2 : UInt8))) rfl (fun h360 => ?_) (fun h360 => ?_)
      · replace hm := ite_t hm h360
        refine T.skip rfl ?_
        exact TQ.then (T.sub (h232 (v1.Op == (2 : UInt8)) hm) (Sub.cons rfl (Sub.cons rfl (Sub.cons rfl (Sub.cons rfl (Sub.nil _))))) (fun w h => (((((((((((((((((((h).ent (Ent.copy 5 rfl)).ent (Ent.copy 5 rfl)).ent (Ent.copy 5 rfl)).ent (Ent.copy 9 rfl)).ent (Ent.take 7 rfl)).ent (Ent.drop _ _)).ent (Ent.take 7 rfl)).ent (Ent.drop _ _)).ent (Ent.take 7 rfl)).ent (Ent.drop _ _)).ent (Ent.take 7 rfl)).ent (Ent.drop _ _)).ent (Ent.take 4 rfl)).ent (Ent.take 1 rfl)).ent (Ent.take 5 rfl)).ent (Ent.take 6 rfl)).ent (Ent.take 4 rfl)).ent (Ent.take 5 rfl)).ent (Ent.take 6 rfl)))
      · replace hm := ite_f hm h360
        refine T.region rfl ?_
        refine TO.go rfl rfl rfl (Does.bin (v := .bool (v1.Op == (3 : UInt8))) (vy := .int .u8 (3 : UInt8).toNat) rfl rfl rfl g_int b8_eq) fun _ => ?_
        refine TO.go rfl rfl rfl (Does.assign rfl rfl) fun _ => ?_
        refine TO.end rfl ?_
        exact TQ.then (T.sub (h232 (v1.Op == (3 : UInt8)) hm) (Sub.cons rfl (Sub.cons rfl (Sub.cons rfl (Sub.cons rfl (Sub.nil _))))) (fun w h => (((((((((((((((((((h).ent (Ent.copy 5 rfl)).ent (Ent.copy 5 rfl)).ent (Ent.copy 5 rfl)).ent (Ent.copy 9 rfl)).ent (Ent.take 7 rfl)).ent (Ent.drop _ _)).ent (Ent.take 7 rfl)).ent (Ent.drop _ _)).ent (Ent.take 7 rfl)).ent (Ent.drop _ _)).ent (Ent.take 7 rfl)).ent (Ent.drop _ _)).ent (Ent.take 4 rfl)).ent (Ent.take 1 rfl)).ent (Ent.take 5 rfl)).ent (Ent.take 6 rfl)).ent (Ent.take 4 rfl)).ent (Ent.take 5 rfl)).ent (Ent.take 6 rfl)))

end Go.Proofs.Ytfonekhhbmlkbaa
