/- Mirrors of functions, and that the Go functions compute them. Printed by gofun.py. -/
import Derived.Test.YtfonekhhbmlkbaaG8
set_option linter.unusedVariables false
set_option linter.unusedSimpArgs false
namespace Go.Proofs.Ytfonekhhbmlkbaa
open Go Go.Sym
def f95.l1 : Nat → (List Int) → Int → Option Int
  | 0, _, _ => none
  | k + 1, v0, v130 => (if (decide (v130 < (v0.length : Int))) = true then ((at? v0 v130).bind fun v138 => (if (v138 != 0) = true then some v138 else f95.l1 k v0 (IntKind.i64.wrap (v130 + 1)))) else some 0)
/-- creel/check.same -/
def f95.f (v0 : List Int) : Option Int :=
  f95.l1 rounds v0 0
set_option maxRecDepth 20000 in
set_option maxHeartbeats 1000000 in
theorem f95.ok {W w : World} {R : List Assn} (v0 : List Int) (a0 : Option Addr) (n0 : Nat) {r : Int} (hm : f95.f v0 = some r) (hs : St W w (ro (rI .i64) a0 n0 v0 :: R)) :
    Calls Try.prog 95 #[.slice a0 v0.length n0] w (fun e w' => ∃ x : Unit, e = .returned (.int .i64 r) ∧ St W w' (R)) := by
  unfold f95.f at hm
  refine calls_sym (vs := [.slice a0 v0.length n0]) Try.func95 rfl rfl hs ?_
  refine T.seq rfl ?_
  refine T.region rfl ?_
  refine TO.go rfl rfl rfl (Does.assign (v := .int .i64 0) rfl rfl) fun _ => ?_
  refine TO.end rfl ?_
  refine TQ.then ?_
  refine T.seq rfl ?_
  refine T.seq rfl ?_
  refine T.region rfl ?_
  refine TO.go rfl rfl rfl (Does.move rfl rfl) fun _ => ?_
  refine TO.go rfl rfl rfl (Does.lenSl rfl rfl sl_170) fun _ => ?_
  refine TO.go rfl rfl rfl (Does.move (v := .int .i64 0) rfl rfl) fun _ => ?_
  refine TO.end rfl ?_
  refine TQ.then ?_
  refine T.block rfl ?_
  refine T.loopJ (X := Int) rfl rounds (fun x => [(7, .int .i64 x), (6, .int .i64 (v0.length : Int)), (5, .slice a0 v0.length n0)]) (fun x => ro (rI .i64) a0 n0 v0 :: R) (fun n x => f95.l1 n v0 x = some r) (fun x h => by simp [f95.l1] at h) ?_ 0 hm (Sub.cons rfl (Sub.cons rfl (Sub.cons rfl (Sub.nil _)))) (fun w h => (((h).ent (Ent.copy 0 rfl)).ent (Ent.take 1 rfl)).ent (Ent.drop _ _))
  intro k131 h132
  rintro v130 hm
  try dsimp only
  rw [f95.l1.eq_2] at hm
  refine T.seq rfl ?_
  refine T.region rfl ?_
  refine TO.go rfl rfl rfl (Does.bin (v := .bool (decide (v130 < (v0.length : Int)))) rfl rfl rfl g_int b_lt) fun _ => ?_
  refine TO.end rfl ?_
  refine TQ.then ?_
  refine T.seq rfl ?_
  refine T.cond rfl (b := (decide (v130 < (v0.length : Int)))) rfl (fun h134 => ?_) (fun h134 => ?_)
  · replace hm := ite_t hm h134
    refine T.skip rfl ?_
    refine TQ.then ?_
    refine T.seq rfl ?_
    refine T.block rfl ?_
    refine T.seq rfl ?_
    refine T.region rfl ?_
    obtain ⟨v138, h139, hm⟩ := bind_o hm
    refine TO.go rfl rfl rfl (Does.indexSl (r := (rI .i64)) (k := 0) rfl rfl rfl sl_170 rfl Arrd.ro h139) fun _ => ?_
    refine TO.go rfl rfl rfl (Does.loadFlat (r := (rI .i64)) (k := 0) (f := 0) (v := .int .i64 v138) rfl rfl sc_35 rfl Arrd.ro (at?_out h139).2.2 rfl) fun _ => ?_
    refine TO.go rfl rfl rfl (Does.assign rfl rfl) fun _ => ?_
    refine TO.end rfl ?_
    refine TQ.then ?_
    refine T.seq rfl ?_
    refine T.region rfl ?_
    refine TO.go rfl rfl rfl (Does.move rfl rfl) fun _ => ?_
    refine TO.go rfl rfl rfl (Does.bin (v := .bool (v138 != 0)) (vy := .int .i64 0) rfl rfl rfl g_int b_ne) fun _ => ?_
    refine TO.end rfl ?_
    refine TQ.then ?_
    refine T.cond rfl (b := (v138 != 0)) rfl (fun h140 => ?_) (fun h140 => ?_)
    · replace hm := ite_t hm h140
      refine T.seq rfl ?_
      refine T.region rfl ?_
      refine TO.go rfl rfl rfl (Does.move rfl rfl) fun _ => ?_
      refine TO.go rfl rfl rfl (Does.assign rfl rfl) fun _ => ?_
      refine TO.end rfl ?_
      refine TQ.then ?_
      refine T.ret rfl ?_
      refine TQ.passBlockRet ?_
      refine TQ.passThenRet ?_
      refine TQ.passThenRet ?_
      refine TQ.passBlockRet ?_
      refine TQ.passThenRet ?_
      refine TQ.result (.inl rfl) rfl (Res.tmp rfl Res.nil) rfl (fun w h => ?_)
      cases hm
      exact ⟨(), rfl, (h).ent (Ent.drop _ _)⟩
    · replace hm := ite_f hm h140
      refine T.skip rfl ?_
      refine TQ.passBlockNormal ?_
      refine TQ.then ?_
      refine T.region rfl ?_
      refine TO.go rfl rfl rfl (Does.bin (v := .int .i64 (IntKind.i64.wrap (v130 + 1))) (vy := .int .i64 1) rfl rfl rfl g_int b_add) fun _ => ?_
      refine TO.go rfl rfl rfl (Does.move rfl rfl) fun _ => ?_
      refine TO.end rfl ?_
      exact TQ.again (TR.sub (h132 (IntKind.i64.wrap (v130 + 1)) hm) (Sub.cons rfl (Sub.cons rfl (Sub.cons rfl (Sub.nil _)))) (fun w h => (((h).ent (Ent.copy 0 rfl)).ent (Ent.take 1 rfl)).ent (Ent.drop _ _)))
  · replace hm := ite_f hm h134
    refine T.exit rfl ?_
    refine TQ.passThenExit ?_
    refine TQ.passThenExit ?_
    refine TQ.exitHere ?_
    refine TQ.then ?_
    refine T.seq rfl ?_
    refine T.region rfl ?_
    refine TO.go rfl rfl rfl (Does.assign (v := .int .i64 0) rfl rfl) fun _ => ?_
    refine TO.end rfl ?_
    refine TQ.then ?_
    refine T.ret rfl ?_
    refine TQ.result (.inl rfl) rfl (Res.tmp rfl Res.nil) rfl (fun w h => ?_)
    cases hm
    exact ⟨(), rfl, (h).ent (Ent.drop _ _)⟩

def f82.j1 (v0 : check_checker) (v141 : (List UInt8) × Int) (v253 : ctrl_Control) : Option (Int × check_checker) :=
  ((f81.f v253 v141.1).bind fun v258 => (if (v258.1 != 0) = true then some (v258.1, ({ env := v0.env, locals := v0.locals, c := v258.2, result := v0.result } : check_checker)) else ((f77.f v258.2).bind fun v261 => some (0, ({ env := v0.env, locals := v0.locals, c := v261, result := v0.result } : check_checker)))))
def f82.l2 : Nat → check_checker → ((List UInt8) × Int) → api_Instr → (Int × check_checker) → Int → Option (Int × check_checker)
  | 0, _, _, _, _, _ => none
  | k + 1, v0, v141, v1, v401, v437 => (if (decide (v437 < (v1.L.length : Int))) = true then ((at? v1.L v437).bind fun v448 => ((f94.f v401.2.c (IntKind.u64.wrap v448)).bind fun v450 => (if (v450.2 != 0) = true then some (v450.2, ({ env := v0.env, locals := v0.locals, c := v401.2.c, result := v0.result } : check_checker)) else (if (v450.1 != v141.1) = true then some (21, ({ env := v0.env, locals := v0.locals, c := v401.2.c, result := v0.result } : check_checker)) else f82.l2 k v0 v141 v1 v401 (IntKind.i64.wrap (v437 + 1)))))) else f82.j1 v0 v141 v401.2.c)
/-- (*creel/check.checker).branch -/
def f82.f (v0 : check_checker) (v1 : api_Instr) : Option (Int × check_checker) :=
  ((f94.f v0.c v1.A).bind fun v141 => (if (v141.2 != 0) = true then some (v141.2, v0) else (if (v1.Op == (13 : UInt8)) = true then ((f73.f v0 (127 : UInt8)).bind fun v366 => ((f81.f v366.2.c v141.1).bind fun v369 => ((f95.f ([v366.1, v369.1])).bind fun v378 => (if (v378 != 0) = true then some (v378, ({ env := v0.env, locals := v0.locals, c := v369.2, result := v0.result } : check_checker)) else ((f84.f v369.2.Stack v141.1).bind fun v389 => some (0, ({ env := v0.env, locals := v0.locals, c := ({ frames := v369.2.frames, Stack := v389 } : ctrl_Control), result := v0.result } : check_checker))))))) else (if (v1.Op == (14 : UInt8)) = true then ((f73.f v0 (127 : UInt8)).bind fun v401 => (if (v401.1 != 0) = true then some (v401.1, ({ env := v0.env, locals := v0.locals, c := v401.2.c, result := v0.result } : check_checker)) else f82.l2 rounds v0 v141 v1 v401 0)) else f82.j1 v0 v141 v0.c))))
set_option maxRecDepth 20000 in
set_option maxHeartbeats 1000000 in
theorem f82.ok {W w : World} {R : List Assn} (v0 : check_checker) (b0 : Nat) (a101 : Option Addr) (n102 : Nat) (a104 : Option Addr) (n105 : Nat) (a107 : Option Addr) (n108 : Nat) (b110 : Nat) (v1 : api_Instr) (a112 : Option Addr) (n113 : Nat) {r : Int × check_checker} (hm : f82.f v0 v1 = some r) (hs : St W w (pts b0 [.slice a101 v0.env.Types.length n102, .slice a104 v0.env.Funcs.length n105, .slice a107 v0.env.Globals.length n108, .bool v0.env.Table, .bool v0.env.Mem, .string ⟨v0.locals.toArray⟩, .pointer (some ⟨b110, 0, none⟩), .string ⟨v0.result.toArray⟩] :: ptr ctrl_Control.rep b110 v0.c :: ro api_GlobalType.rep a107 n108 v0.env.Globals :: ro (rI .u32) a104 n105 v0.env.Funcs :: ro api_FuncType.rep a101 n102 v0.env.Types :: ro (rI .u32) a112 n113 v1.L :: R)) :
    Calls Try.prog 82 #[.pointer (some ⟨b0, 0, none⟩), .agg #[.int .u8 v1.Op.toNat, .int .u64 v1.A, .int .u64 v1.B, .slice a112 v1.L.length n113]] w (fun e w' => ∃ x : Unit, e = .returned (.int .i64 r.1) ∧ St W w' (pts b0 [.slice a101 v0.env.Types.length n102, .slice a104 v0.env.Funcs.length n105, .slice a107 v0.env.Globals.length n108, .bool v0.env.Table, .bool v0.env.Mem, .string ⟨v0.locals.toArray⟩, .pointer (some ⟨b110, 0, none⟩), .string ⟨v0.result.toArray⟩] :: ptr ctrl_Control.rep b110 r.2.c :: R)) := by
  unfold f82.f at hm
  refine calls_sym (vs := [.pointer (some ⟨b0, 0, none⟩), .agg #[.int .u8 v1.Op.toNat, .int .u64 v1.A, .int .u64 v1.B, .slice a112 v1.L.length n113]]) Try.func82 rfl rfl hs ?_
  refine T.seq rfl ?_
  refine T.region rfl ?_
  refine TO.go rfl rfl rfl (Does.box (vs := [.int .u8 v1.Op.toNat, .int .u64 v1.A, .int .u64 v1.B, .slice a112 v1.L.length n113]) rfl rfl rfl) fun b115 => ?_
  refine TO.ent (L' := pts b115 [.int .u8 v1.Op.toNat, .int .u64 v1.A, .int .u64 v1.B, .slice a112 v1.L.length n113] :: pts b0 [.slice a101 v0.env.Types.length n102, .slice a104 v0.env.Funcs.length n105, .slice a107 v0.env.Globals.length n108, .bool v0.env.Table, .bool v0.env.Mem, .string ⟨v0.locals.toArray⟩, .pointer (some ⟨b110, 0, none⟩), .string ⟨v0.result.toArray⟩] :: ptr ctrl_Control.rep b110 v0.c :: ro api_GlobalType.rep a107 n108 v0.env.Globals :: ro (rI .u32) a104 n105 v0.env.Funcs :: ro api_FuncType.rep a101 n102 v0.env.Types :: ro (rI .u32) a112 n113 v1.L :: R) (fun w h => h) ?_
  refine TO.go rfl rfl rfl (Does.assign (v := .int .i64 0) rfl rfl) fun _ => ?_
  refine TO.end rfl ?_
  refine TQ.then ?_
  refine T.seq rfl ?_
  refine T.draw [0, 1, 2, 3, 4, 5, 6, 7, 8, 9] rfl mixed ?_
  refine RA.quiet (i := 0) (v := .pointer (some ⟨b0, 0, none⟩)) PendOK.nil rfl rfl rfl rfl rfl rfl (Does.move rfl rfl) fun h135 => ?_
  refine RA.quiet (i := 1) (v := .pointer (some ⟨b0, 0, none⟩)) h135 rfl rfl rfl rfl rfl rfl (Does.nilCheck rfl rfl) fun h136 => ?_
  refine RA.quiet (i := 2) (v := .pointer (some ⟨b0, 6, none⟩)) h136 rfl rfl rfl rfl rfl rfl (Does.fieldAddr (o' := 6) rfl rfl fo_76_2 rfl) fun h137 => ?_
  refine RA.quiet (i := 3) (v := .pointer (some ⟨b110, 0, none⟩)) h137 rfl rfl rfl rfl rfl rfl (Does.loadPts (k := 1) (v := .pointer (some ⟨b110, 0, none⟩)) rfl rfl sc_73 rfl rfl) fun h138 => ?_
  refine RA.quiet (i := 4) (v := .pointer (some ⟨b115, 1, none⟩)) h138 rfl rfl rfl rfl rfl rfl (Does.fieldAddr (o' := 1) rfl rfl fo_40_1 rfl) fun h139 => ?_
  refine RA.quiet (i := 5) (v := .int .u64 v1.A) h139 rfl rfl rfl rfl rfl rfl (Does.loadPts (k := 0) (v := .int .u64 v1.A) rfl rfl sc_38 rfl rfl) fun h140 => ?_
  obtain ⟨v141, h142, hm⟩ := bind_o hm
  refine RA.quiet (i := 6) (v := .tuple #[.string ⟨v141.1.toArray⟩, .int .i64 v141.2]) h140 rfl rfl rfl rfl rfl rfl (Does.conseq (Does.call (vs := [.pointer (some ⟨b110, 0, none⟩), .int .u64 v1.A]) rfl co_94 rfl (fun w h => f94.ok v0.c b110 v1.A h142 ((h).ent (Ent.take 2 rfl)))) (fun w h => h) (fun x w h => (((((((h).ent (Ent.take 6 rfl)).ent (Ent.take 6 rfl)).ent (Ent.take 6 rfl)).ent (Ent.take 6 rfl)).ent (Ent.take 4 rfl)).ent (Ent.take 6 rfl)).ent (Ent.take 6 rfl))) fun h143 => ?_
  refine RA.quiet (i := 7) (v := .tuple #[.string ⟨v141.1.toArray⟩, .int .i64 v141.2]) h143 rfl rfl rfl rfl rfl rfl (Does.move rfl rfl) fun h144 => ?_
  refine RA.quiet (i := 8) (v := .string ⟨v141.1.toArray⟩) h144 rfl rfl rfl rfl rfl rfl (Does.extract rfl rfl rfl) fun h145 => ?_
  refine RA.quiet (i := 9) (v := .int .i64 v141.2) h145 rfl rfl rfl rfl rfl rfl (Does.extract rfl rfl rfl) fun h146 => ?_
  refine RA.eff (k := 10) (pend' := [(9, .int .i64 v141.2)]) (by kernel_rfl) h146 rfl (.inl ⟨_, rfl, rfl, fun _ => rfl⟩) rfl (by kernel_rfl) (Does.assign rfl rfl) rfl (fun _ => (List.forall_mem_cons.2 ⟨⟨_, rfl, Does.extract rfl rfl rfl⟩, (fun _ h => by cases h)⟩)) (fun _ h147 => ?_)
  refine RA.eff (k := 11) (pend' := []) (by kernel_rfl) h147 rfl (.inl ⟨_, rfl, rfl, fun _ => rfl⟩) rfl (by kernel_rfl) (Does.assign rfl rfl) rfl (fun _ => (fun _ h => by cases h)) (fun _ h148 => ?_)
  refine RA.done (by kernel_rfl) h148 rfl ?_
  refine TQ.then ?_
  refine T.seq rfl ?_
  refine T.seq rfl ?_
  refine T.region rfl ?_
  refine TO.go rfl rfl rfl (Does.move rfl rfl) fun _ => ?_
  refine TO.go rfl rfl rfl (Does.bin (v := .bool (v141.2 != 0)) (vy := .int .i64 0) rfl rfl rfl g_int b_ne) fun _ => ?_
  refine TO.end rfl ?_
  refine TQ.then ?_
  refine T.cond rfl (b := (v141.2 != 0)) rfl (fun h150 => ?_) (fun h150 => ?_)
  · replace hm := ite_t hm h150
    refine T.seq rfl ?_
    refine T.region rfl ?_
    refine TO.go rfl rfl rfl (Does.move rfl rfl) fun _ => ?_
    refine TO.go rfl rfl rfl (Does.assign rfl rfl) fun _ => ?_
    refine TO.end rfl ?_
    refine TQ.then ?_
    refine T.ret rfl ?_
    refine TQ.passThenRet ?_
    refine TQ.result (.inl rfl) rfl (Res.tmp rfl Res.nil) rfl (fun w h => ?_)
    cases hm
    exact ⟨(), rfl, (((((((((((h).ent (Ent.drop _ _)).ent (Ent.take 2 rfl)).ent (Ent.drop _ _)).ent (Ent.take 2 rfl)).ent (Ent.drop _ _)).ent (Ent.take 2 rfl)).ent (Ent.drop _ _)).ent (Ent.take 2 rfl)).ent (Ent.drop _ _)).ent (Ent.take 1 rfl)).ent (Ent.take 1 rfl)⟩
  · replace hm := ite_f hm h150
    refine T.skip rfl ?_
    refine TQ.then ?_
    refine T.seqJ (X := ctrl_Control) rfl (fun x => [(5, .string ⟨v141.1.toArray⟩), (0, .pointer (some ⟨b0, 0, none⟩))]) (fun x => ro api_FuncType.rep a101 n102 v0.env.Types :: ro (rI .u32) a104 n105 v0.env.Funcs :: ro api_GlobalType.rep a107 n108 v0.env.Globals :: ptr ctrl_Control.rep b110 x :: pts b0 [.slice a101 v0.env.Types.length n102, .slice a104 v0.env.Funcs.length n105, .slice a107 v0.env.Globals.length n108, .bool v0.env.Table, .bool v0.env.Mem, .string ⟨v0.locals.toArray⟩, .pointer (some ⟨b110, 0, none⟩), .string ⟨v0.result.toArray⟩] :: R) (fun x => f82.j1 v0 v141 x = some r) ?_ ?_
    · rintro v253 hm
      try dsimp only
      unfold f82.j1 at hm
      refine T.seq rfl ?_
      refine T.seq rfl ?_
      refine T.region rfl ?_
      refine TO.go rfl rfl rfl (Does.move rfl rfl) fun _ => ?_
      refine TO.go rfl rfl rfl (Does.nilCheck rfl rfl) fun _ => ?_
      refine TO.go rfl rfl rfl (Does.fieldAddr (o' := 6) rfl rfl fo_76_2 rfl) fun _ => ?_
      refine TO.go rfl rfl rfl (Does.loadPts (k := 4) (v := .pointer (some ⟨b110, 0, none⟩)) rfl rfl sc_73 rfl rfl) fun _ => ?_
      refine TO.go rfl rfl rfl (Does.move rfl rfl) fun _ => ?_
      obtain ⟨v258, h259, hm⟩ := bind_o hm
      refine TO.go rfl rfl rfl (Does.call (vs := [.pointer (some ⟨b110, 0, none⟩), .string ⟨v141.1.toArray⟩]) rfl co_81 rfl (fun w h => f81.ok v253 b110 v141.1 h259 ((h).ent (Ent.take 3 rfl)))) fun _ => ?_
      refine TO.ent (L' := ptr ctrl_Control.rep b110 v258.2 :: ro api_FuncType.rep a101 n102 v0.env.Types :: ro (rI .u32) a104 n105 v0.env.Funcs :: ro api_GlobalType.rep a107 n108 v0.env.Globals :: pts b0 [.slice a101 v0.env.Types.length n102, .slice a104 v0.env.Funcs.length n105, .slice a107 v0.env.Globals.length n108, .bool v0.env.Table, .bool v0.env.Mem, .string ⟨v0.locals.toArray⟩, .pointer (some ⟨b110, 0, none⟩), .string ⟨v0.result.toArray⟩] :: R) (fun w h => h) ?_
      refine TO.go rfl rfl rfl (Does.assign rfl rfl) fun _ => ?_
      refine TO.end rfl ?_
      refine TQ.then ?_
      refine T.seq rfl ?_
      refine T.region rfl ?_
      refine TO.go rfl rfl rfl (Does.move rfl rfl) fun _ => ?_
      refine TO.go rfl rfl rfl (Does.bin (v := .bool (v258.1 != 0)) (vy := .int .i64 0) rfl rfl rfl g_int b_ne) fun _ => ?_
      refine TO.end rfl ?_
      refine TQ.then ?_
      refine T.cond rfl (b := (v258.1 != 0)) rfl (fun h260 => ?_) (fun h260 => ?_)
      · replace hm := ite_t hm h260
        refine T.seq rfl ?_
        refine T.region rfl ?_
        refine TO.go rfl rfl rfl (Does.move rfl rfl) fun _ => ?_
        refine TO.go rfl rfl rfl (Does.assign rfl rfl) fun _ => ?_
        refine TO.end rfl ?_
        refine TQ.then ?_
        refine T.ret rfl ?_
        refine TQ.passThenRet ?_
        refine TQ.result (.inl rfl) rfl (Res.tmp rfl Res.nil) rfl (fun w h => ?_)
        cases hm
        exact ⟨(), rfl, (((((((h).ent (Ent.take 1 rfl)).ent (Ent.drop _ _)).ent (Ent.take 1 rfl)).ent (Ent.drop _ _)).ent (Ent.take 1 rfl)).ent (Ent.drop _ _)).ent (Ent.take 1 rfl)⟩
      · replace hm := ite_f hm h260
        refine T.skip rfl ?_
        refine TQ.then ?_
        refine T.seq rfl ?_
        refine T.region rfl ?_
        refine TO.go rfl rfl rfl (Does.move rfl rfl) fun _ => ?_
        refine TO.go rfl rfl rfl (Does.nilCheck rfl rfl) fun _ => ?_
        refine TO.go rfl rfl rfl (Does.fieldAddr (o' := 6) rfl rfl fo_76_2 rfl) fun _ => ?_
        refine TO.go rfl rfl rfl (Does.loadPts (k := 4) (v := .pointer (some ⟨b110, 0, none⟩)) rfl rfl sc_73 rfl rfl) fun _ => ?_
        obtain ⟨v261, h262, hm⟩ := bind_o hm
        refine TO.go rfl rfl rfl (Does.call (vs := [.pointer (some ⟨b110, 0, none⟩)]) rfl co_77 rfl (fun w h => f77.ok v258.2 b110 h262 (h))) fun _ => ?_
        refine TO.ent (L' := ptr ctrl_Control.rep b110 v261 :: ro api_FuncType.rep a101 n102 v0.env.Types :: ro (rI .u32) a104 n105 v0.env.Funcs :: ro api_GlobalType.rep a107 n108 v0.env.Globals :: pts b0 [.slice a101 v0.env.Types.length n102, .slice a104 v0.env.Funcs.length n105, .slice a107 v0.env.Globals.length n108, .bool v0.env.Table, .bool v0.env.Mem, .string ⟨v0.locals.toArray⟩, .pointer (some ⟨b110, 0, none⟩), .string ⟨v0.result.toArray⟩] :: R) (fun w h => h) ?_
        refine TO.end rfl ?_
        refine TQ.then ?_
        refine T.seq rfl ?_
        refine T.region rfl ?_
        refine TO.go rfl rfl rfl (Does.assign (v := .int .i64 0) rfl rfl) fun _ => ?_
        refine TO.end rfl ?_
        refine TQ.then ?_
        refine T.ret rfl ?_
        refine TQ.result (.inl rfl) rfl (Res.tmp rfl Res.nil) rfl (fun w h => ?_)
        cases hm
        exact ⟨(), rfl, (((((((h).ent (Ent.take 1 rfl)).ent (Ent.drop _ _)).ent (Ent.take 1 rfl)).ent (Ent.drop _ _)).ent (Ent.take 1 rfl)).ent (Ent.drop _ _)).ent (Ent.take 1 rfl)⟩
    · intro h254
      refine T.seq rfl ?_
      refine T.region rfl ?_
      refine TO.go rfl rfl rfl (Does.fieldAddr (o' := 0) rfl rfl fo_40_0 rfl) fun _ => ?_
      refine TO.go rfl rfl rfl (Does.loadPts (k := 0) (v := .int .u8 v1.Op.toNat) rfl rfl sc_5 rfl rfl) fun _ => ?_
      refine TO.end rfl ?_
      refine TQ.then ?_
      refine T.block rfl ?_
      refine T.seq rfl ?_
      refine T.region rfl ?_
      refine TO.go rfl rfl rfl (Does.bin (v := .bool (v1.Op == (13 : UInt8))) (vy := .int .u8 (13 : UInt8).toNat) rfl rfl rfl g_int b8_eq) fun _ => ?_
      refine TO.go rfl rfl rfl (Does.assign rfl rfl) fun _ => ?_
      refine TO.end rfl ?_
      refine TQ.then ?_
      refine T.cond rfl (b := (v1.Op == (13 : UInt8))) rfl (fun h263 => ?_) (fun h263 => ?_)
      · replace hm := ite_t hm h263
        refine T.seq rfl ?_
        refine T.seq rfl ?_
        refine T.draw [0, 2, 3, 4, 5, 6] rfl mixed ?_
        refine RA.quiet (i := 0) (v := .pointer (some ⟨b0, 0, none⟩)) PendOK.nil rfl rfl rfl rfl rfl rfl (Does.move rfl rfl) fun h357 => ?_
        refine RA.quiet (i := 2) (v := .pointer (some ⟨b0, 0, none⟩)) h357 rfl rfl rfl rfl rfl rfl (Does.move rfl rfl) fun h358 => ?_
        refine RA.quiet (i := 3) (v := .pointer (some ⟨b0, 0, none⟩)) h358 rfl rfl rfl rfl rfl rfl (Does.nilCheck rfl rfl) fun h359 => ?_
        refine RA.quiet (i := 4) (v := .pointer (some ⟨b0, 6, none⟩)) h359 rfl rfl rfl rfl rfl rfl (Does.fieldAddr (o' := 6) rfl rfl fo_76_2 rfl) fun h360 => ?_
        refine RA.quiet (i := 5) (v := .pointer (some ⟨b110, 0, none⟩)) h360 rfl rfl rfl rfl rfl rfl (Does.loadPts (k := 1) (v := .pointer (some ⟨b110, 0, none⟩)) rfl rfl sc_73 rfl rfl) fun h361 => ?_
        refine RA.quiet (i := 6) (v := .string ⟨v141.1.toArray⟩) h361 rfl rfl rfl rfl rfl rfl (Does.move rfl rfl) fun h362 => ?_
        obtain ⟨v366, h367, hm⟩ := bind_o hm
        refine RA.eff (k := 1) (pend' := [(6, .string ⟨v141.1.toArray⟩), (5, .pointer (some ⟨b110, 0, none⟩)), (4, .pointer (some ⟨b0, 6, none⟩)), (3, .pointer (some ⟨b0, 0, none⟩)), (2, .pointer (some ⟨b0, 0, none⟩))]) (by kernel_rfl) h362 rfl (.inl ⟨_, rfl, rfl, fun _ => rfl⟩) rfl (by kernel_rfl) (Does.call (vs := [.pointer (some ⟨b0, 0, none⟩), .int .u8 (127 : UInt8).toNat]) rfl co_73 rfl (fun w h => f73.ok v0 b0 a101 n102 a104 n105 a107 n108 b110 (127 : UInt8) h367 ((((((((h).ent (Ent.copy 3 rfl)).ent (Ent.copy 5 rfl)).ent (Ent.copy 7 rfl)).ent (Ent.take 1 rfl)).ent (Ent.take 2 rfl)).ent (Ent.take 5 rfl)).ent (Ent.take 5 rfl)))) rfl (fun _ => (List.forall_mem_cons.2 ⟨⟨_, rfl, Does.move rfl rfl⟩, (List.forall_mem_cons.2 ⟨⟨_, rfl, Does.loadPts (k := 0) (v := .pointer (some ⟨b110, 0, none⟩)) rfl rfl sc_73 rfl rfl⟩, (List.forall_mem_cons.2 ⟨⟨_, rfl, Does.fieldAddr (o' := 6) rfl rfl fo_76_2 rfl⟩, (List.forall_mem_cons.2 ⟨⟨_, rfl, Does.nilCheck rfl rfl⟩, (List.forall_mem_cons.2 ⟨⟨_, rfl, Does.move rfl rfl⟩, (fun _ h => by cases h)⟩)⟩)⟩)⟩)⟩)) (fun _ h368 => ?_)
        obtain ⟨v369, h370, hm⟩ := bind_o hm
        refine RA.eff (k := 7) (pend' := [(4, .pointer (some ⟨b0, 6, none⟩)), (3, .pointer (some ⟨b0, 0, none⟩)), (2, .pointer (some ⟨b0, 0, none⟩))]) (by kernel_rfl) h368 rfl (.inl ⟨_, rfl, rfl, fun _ => rfl⟩) rfl (by kernel_rfl) (Does.call (vs := [.pointer (some ⟨b110, 0, none⟩), .string ⟨v141.1.toArray⟩]) rfl co_81 rfl (fun w h => f81.ok v366.2.c b110 v141.1 h370 ((h).ent (Ent.take 1 rfl)))) rfl (fun _ => (List.forall_mem_cons.2 ⟨⟨_, rfl, Does.fieldAddr (o' := 6) rfl rfl fo_76_2 rfl⟩, (List.forall_mem_cons.2 ⟨⟨_, rfl, Does.nilCheck rfl rfl⟩, (List.forall_mem_cons.2 ⟨⟨_, rfl, Does.move rfl rfl⟩, (fun _ h => by cases h)⟩)⟩)⟩)) (fun _ h371 => ?_)
        refine RA.eff (k := 8) (pend' := [(4, .pointer (some ⟨b0, 6, none⟩)), (3, .pointer (some ⟨b0, 0, none⟩)), (2, .pointer (some ⟨b0, 0, none⟩))]) (by kernel_rfl) h371 rfl (.inl ⟨_, rfl, rfl, fun _ => rfl⟩) rfl (by kernel_rfl) (Does.buildSlice (r := (rI .i64)) (l := [v366.1, v369.1]) (cs := [.int .i64 v366.1, .int .i64 v369.1]) (vs := [(0, .int .i64 v366.1), (1, .int .i64 v369.1)]) rfl rfl sl_170 (fun w => by kernel_rfl) rfl rfl (fun w h => (flat_add (r := (rI .i64)) v366.1 rfl (flat_add (r := (rI .i64)) v369.1 rfl (h))).ent (Ent.unstar (L := [_, _])))) rfl (fun a374 => (List.forall_mem_cons.2 ⟨⟨_, rfl, Does.fieldAddr (o' := 6) rfl rfl fo_76_2 rfl⟩, (List.forall_mem_cons.2 ⟨⟨_, rfl, Does.nilCheck rfl rfl⟩, (List.forall_mem_cons.2 ⟨⟨_, rfl, Does.move rfl rfl⟩, (fun _ h => by cases h)⟩)⟩)⟩)) (fun a374 h375 => ?_)
        obtain ⟨v378, h379, hm⟩ := bind_o hm
        refine RA.eff (k := 9) (pend' := [(4, .pointer (some ⟨b0, 6, none⟩)), (3, .pointer (some ⟨b0, 0, none⟩)), (2, .pointer (some ⟨b0, 0, none⟩))]) (by kernel_rfl) h375 rfl (.inl ⟨_, rfl, rfl, fun _ => rfl⟩) rfl (by kernel_rfl) (Does.call (vs := [.slice a374 ([v366.1, v369.1]).length 2]) rfl co_95 rfl (fun w h => f95.ok ([v366.1, v369.1]) a374 2 h379 ((Go.Sym.freeze (h)).ent (Ent.copy 0 rfl)))) rfl (fun _ => (List.forall_mem_cons.2 ⟨⟨_, rfl, Does.fieldAddr (o' := 6) rfl rfl fo_76_2 rfl⟩, (List.forall_mem_cons.2 ⟨⟨_, rfl, Does.nilCheck rfl rfl⟩, (List.forall_mem_cons.2 ⟨⟨_, rfl, Does.move rfl rfl⟩, (fun _ h => by cases h)⟩)⟩)⟩)) (fun _ h380 => ?_)
        refine RA.eff (k := 10) (pend' := []) (by kernel_rfl) h380 rfl (.inl ⟨_, rfl, rfl, fun _ => rfl⟩) rfl (by kernel_rfl) (Does.assign rfl rfl) rfl (fun _ => (fun _ h => by cases h)) (fun _ h381 => ?_)
        refine RA.done (by kernel_rfl) h381 rfl ?_
        refine TQ.then ?_
        refine T.seq rfl ?_
        refine T.region rfl ?_
        refine TO.go rfl rfl rfl (Does.move rfl rfl) fun _ => ?_
        refine TO.go rfl rfl rfl (Does.bin (v := .bool (v378 != 0)) (vy := .int .i64 0) rfl rfl rfl g_int b_ne) fun _ => ?_
        refine TO.end rfl ?_
        refine TQ.then ?_
        refine T.cond rfl (b := (v378 != 0)) rfl (fun h382 => ?_) (fun h382 => ?_)
        · replace hm := ite_t hm h382
          refine T.seq rfl ?_
          refine T.region rfl ?_
          refine TO.go rfl rfl rfl (Does.move rfl rfl) fun _ => ?_
          refine TO.go rfl rfl rfl (Does.assign rfl rfl) fun _ => ?_
          refine TO.end rfl ?_
          refine TQ.then ?_
          refine T.ret rfl ?_
          refine TQ.passThenRet ?_
          refine TQ.passBlockRet ?_
          refine TQ.passThenRet ?_
          refine TQ.result (.inl rfl) rfl (Res.tmp rfl Res.nil) rfl (fun w h => ?_)
          cases hm
          exact ⟨(), rfl, ((((((((((((h).ent (Ent.drop _ _)).ent (Ent.take 2 rfl)).ent (Ent.drop _ _)).ent (Ent.take 2 rfl)).ent (Ent.drop _ _)).ent (Ent.take 2 rfl)).ent (Ent.drop _ _)).ent (Ent.take 2 rfl)).ent (Ent.drop _ _)).ent (Ent.take 2 rfl)).ent (Ent.drop _ _)).ent (Ent.take 1 rfl)⟩
        · replace hm := ite_f hm h382
          refine T.skip rfl ?_
          refine TQ.then ?_
          refine T.seq rfl ?_
          refine T.region rfl ?_
          refine TO.go rfl rfl rfl (Does.move rfl rfl) fun _ => ?_
          refine TO.go rfl rfl rfl (Does.nilCheck rfl rfl) fun _ => ?_
          refine TO.go rfl rfl rfl (Does.fieldAddr (o' := 6) rfl rfl fo_76_2 rfl) fun _ => ?_
          refine TO.go rfl rfl rfl (Does.loadPts (k := 2) (v := .pointer (some ⟨b110, 0, none⟩)) rfl rfl sc_73 rfl rfl) fun _ => ?_
          refine TO.go rfl rfl rfl (Does.nilCheck rfl rfl) fun _ => ?_
          refine TO.go rfl rfl rfl (Does.fieldAddr (o' := 1) rfl rfl fo_113_1 rfl) fun _ => ?_
          refine TO.st (X := List Value) (p := fun _ => True) (fun w h => let ⟨cs, h⟩ := open_ptr (h.ent (Ent.take 1 rfl)); ⟨cs, trivial, h⟩) ?_
          intro cs388 _
          refine TO.st (fun w h => ctrl_Control.open h) ?_
          rintro ⟨a383, n384, b386⟩ rfl
          refine TO.go rfl rfl rfl (Does.loadPts (k := 2) (v := .pointer (some ⟨b386, 0, none⟩)) rfl rfl sc_108 rfl rfl) fun _ => ?_
          refine TO.go rfl rfl rfl (Does.move rfl rfl) fun _ => ?_
          obtain ⟨v389, h390, hm⟩ := bind_o hm
          refine TO.go rfl rfl rfl (Does.call (vs := [.pointer (some ⟨b386, 0, none⟩), .string ⟨v141.1.toArray⟩]) rfl co_84 rfl (fun w h => f84.ok v369.2.Stack b386 v141.1 h390 (h))) fun _ => ?_
          refine TO.ent (L' := ptr opstack_Stack.rep b386 v389 :: own ctrl_Frame.rep a383 n384 v369.2.frames :: pts b110 [.slice a383 v369.2.frames.length n384, .pointer (some ⟨b386, 0, none⟩)] :: ro (rI .i64) a374 2 ([v366.1, v369.1]) :: pts b0 [.slice a101 v0.env.Types.length n102, .slice a104 v0.env.Funcs.length n105, .slice a107 v0.env.Globals.length n108, .bool v0.env.Table, .bool v0.env.Mem, .string ⟨v0.locals.toArray⟩, .pointer (some ⟨b110, 0, none⟩), .string ⟨v0.result.toArray⟩] :: pts b115 [.int .u8 v1.Op.toNat, .int .u64 v1.A, .int .u64 v1.B, .slice a112 v1.L.length n113] :: ro api_GlobalType.rep a107 n108 v0.env.Globals :: ro (rI .u32) a104 n105 v0.env.Funcs :: ro api_FuncType.rep a101 n102 v0.env.Types :: ro (rI .u32) a112 n113 v1.L :: R) (fun w h => h) ?_
          refine TO.end rfl ?_
          refine TQ.then ?_
          refine T.seq rfl ?_
          refine T.region rfl ?_
          refine TO.go rfl rfl rfl (Does.assign (v := .int .i64 0) rfl rfl) fun _ => ?_
          refine TO.end rfl ?_
          refine TQ.then ?_
          refine T.ret rfl ?_
          refine TQ.passBlockRet ?_
          refine TQ.passThenRet ?_
          refine TQ.result (.inl rfl) rfl (Res.tmp rfl Res.nil) rfl (fun w h => ?_)
          cases hm
          exact ⟨(), rfl, (((((((((((((shut_ptr (ctrl_Control.shut (x := ({ frames := v369.2.frames, Stack := v389 } : ctrl_Control)) (a383, n384, b386) ((((h).ent (Ent.take 2 rfl)).ent (Ent.take 2 rfl)).ent (Ent.take 2 rfl)))).ent (Ent.take 1 rfl)).ent (Ent.drop _ _)).ent (Ent.take 2 rfl)).ent (Ent.drop _ _)).ent (Ent.take 2 rfl)).ent (Ent.drop _ _)).ent (Ent.take 2 rfl)).ent (Ent.drop _ _)).ent (Ent.take 2 rfl)).ent (Ent.drop _ _)).ent (Ent.take 2 rfl)).ent (Ent.drop _ _)).ent (Ent.take 1 rfl)⟩
      · replace hm := ite_f hm h263
        refine T.seq rfl ?_
        refine T.region rfl ?_
        refine TO.go rfl rfl rfl (Does.bin (v := .bool (v1.Op == (14 : UInt8))) (vy := .int .u8 (14 : UInt8).toNat) rfl rfl rfl g_int b8_eq) fun _ => ?_
        refine TO.go rfl rfl rfl (Does.assign rfl rfl) fun _ => ?_
        refine TO.end rfl ?_
        refine TQ.then ?_
        refine T.cond rfl (b := (v1.Op == (14 : UInt8))) rfl (fun h391 => ?_) (fun h391 => ?_)
        · replace hm := ite_t hm h391
          refine T.seq rfl ?_
          refine T.seq rfl ?_
          refine T.region rfl ?_
          refine TO.go rfl rfl rfl (Does.move rfl rfl) fun _ => ?_
          obtain ⟨v401, h402, hm⟩ := bind_o hm
          refine TO.go rfl rfl rfl (Does.call (vs := [.pointer (some ⟨b0, 0, none⟩), .int .u8 (127 : UInt8).toNat]) rfl co_73 rfl (fun w h => f73.ok v0 b0 a101 n102 a104 n105 a107 n108 b110 (127 : UInt8) h402 ((((((((h).ent (Ent.copy 3 rfl)).ent (Ent.copy 5 rfl)).ent (Ent.copy 7 rfl)).ent (Ent.take 1 rfl)).ent (Ent.take 2 rfl)).ent (Ent.take 5 rfl)).ent (Ent.take 5 rfl)))) fun _ => ?_
          refine TO.ent (L' := pts b0 [.slice a101 v0.env.Types.length n102, .slice a104 v0.env.Funcs.length n105, .slice a107 v0.env.Globals.length n108, .bool v0.env.Table, .bool v0.env.Mem, .string ⟨v0.locals.toArray⟩, .pointer (some ⟨b110, 0, none⟩), .string ⟨v0.result.toArray⟩] :: ptr ctrl_Control.rep b110 v401.2.c :: pts b115 [.int .u8 v1.Op.toNat, .int .u64 v1.A, .int .u64 v1.B, .slice a112 v1.L.length n113] :: ro api_GlobalType.rep a107 n108 v0.env.Globals :: ro (rI .u32) a104 n105 v0.env.Funcs :: ro api_FuncType.rep a101 n102 v0.env.Types :: ro (rI .u32) a112 n113 v1.L :: R) (fun w h => h) ?_
          refine TO.go rfl rfl rfl (Does.assign rfl rfl) fun _ => ?_
          refine TO.end rfl ?_
          refine TQ.then ?_
          refine T.seq rfl ?_
          refine T.region rfl ?_
          refine TO.go rfl rfl rfl (Does.move rfl rfl) fun _ => ?_
          refine TO.go rfl rfl rfl (Does.bin (v := .bool (v401.1 != 0)) (vy := .int .i64 0) rfl rfl rfl g_int b_ne) fun _ => ?_
          refine TO.end rfl ?_
          refine TQ.then ?_
          refine T.cond rfl (b := (v401.1 != 0)) rfl (fun h403 => ?_) (fun h403 => ?_)
          · replace hm := ite_t hm h403
            refine T.seq rfl ?_
            refine T.region rfl ?_
            refine TO.go rfl rfl rfl (Does.move rfl rfl) fun _ => ?_
            refine TO.go rfl rfl rfl (Does.assign rfl rfl) fun _ => ?_
            refine TO.end rfl ?_
            refine TQ.then ?_
            refine T.ret rfl ?_
            refine TQ.passThenRet ?_
            refine TQ.passBlockRet ?_
            refine TQ.passThenRet ?_
            refine TQ.result (.inl rfl) rfl (Res.tmp rfl Res.nil) rfl (fun w h => ?_)
            cases hm
            exact ⟨(), rfl, ((((((((((((h).ent (Ent.take 2 rfl)).ent (Ent.drop _ _)).ent (Ent.take 2 rfl)).ent (Ent.drop _ _)).ent (Ent.take 2 rfl)).ent (Ent.drop _ _)).ent (Ent.take 2 rfl)).ent (Ent.drop _ _)).ent (Ent.take 2 rfl)).ent (Ent.drop _ _)).ent (Ent.take 1 rfl)).ent (Ent.take 1 rfl)⟩
          · replace hm := ite_f hm h403
            refine T.skip rfl ?_
            refine TQ.then ?_
            refine T.seq rfl ?_
            refine T.region rfl ?_
            refine TO.go rfl rfl rfl (Does.fieldAddr (o' := 3) rfl rfl fo_40_3 rfl) fun _ => ?_
            refine TO.go rfl rfl rfl (Does.loadPts (k := 2) (v := .slice a112 v1.L.length n113) rfl rfl sc_23 rfl rfl) fun _ => ?_
            refine TO.go rfl rfl rfl (Does.lenSl rfl rfl sl_23) fun _ => ?_
            refine TO.go rfl rfl rfl (Does.move (v := .int .i64 0) rfl rfl) fun _ => ?_
            refine TO.end rfl ?_
            refine TQ.then ?_
            refine T.block rfl ?_
            refine T.loopJ (X := Int) rfl rounds (fun x => [(63, .int .i64 x), (62, .int .i64 (v1.L.length : Int)), (61, .slice a112 v1.L.length n113), (5, .string ⟨v141.1.toArray⟩), (0, .pointer (some ⟨b0, 0, none⟩))]) (fun x => ro api_FuncType.rep a101 n102 v0.env.Types :: ro (rI .u32) a104 n105 v0.env.Funcs :: ro api_GlobalType.rep a107 n108 v0.env.Globals :: ptr ctrl_Control.rep b110 v401.2.c :: pts b0 [.slice a101 v0.env.Types.length n102, .slice a104 v0.env.Funcs.length n105, .slice a107 v0.env.Globals.length n108, .bool v0.env.Table, .bool v0.env.Mem, .string ⟨v0.locals.toArray⟩, .pointer (some ⟨b110, 0, none⟩), .string ⟨v0.result.toArray⟩] :: ro (rI .u32) a112 n113 v1.L :: R) (fun n x => f82.l2 n v0 v141 v1 v401 x = some r) (fun x h => by simp [f82.l2] at h) ?_ 0 hm (Sub.cons rfl (Sub.cons rfl (Sub.cons rfl (Sub.cons rfl (Sub.cons rfl (Sub.nil _)))))) (fun w h => (((((((((((((((((((h).ent (Ent.copy 5 rfl)).ent (Ent.copy 5 rfl)).ent (Ent.copy 5 rfl)).ent (Ent.copy 9 rfl)).ent (Ent.take 6 rfl)).ent (Ent.drop _ _)).ent (Ent.take 6 rfl)).ent (Ent.drop _ _)).ent (Ent.take 6 rfl)).ent (Ent.drop _ _)).ent (Ent.take 6 rfl)).ent (Ent.drop _ _)).ent (Ent.take 6 rfl)).ent (Ent.drop _ _)).ent (Ent.take 4 rfl)).ent (Ent.take 5 rfl)).ent (Ent.take 3 rfl)).ent (Ent.take 4 rfl)).ent (Ent.take 5 rfl))
            intro k438 h439
            rintro v437 hm
            try dsimp only
            rw [f82.l2.eq_2] at hm
            refine T.seq rfl ?_
            refine T.region rfl ?_
            refine TO.go rfl rfl rfl (Does.bin (v := .bool (decide (v437 < (v1.L.length : Int)))) rfl rfl rfl g_int b_lt) fun _ => ?_
            refine TO.end rfl ?_
            refine TQ.then ?_
            refine T.seq rfl ?_
            refine T.cond rfl (b := (decide (v437 < (v1.L.length : Int)))) rfl (fun h441 => ?_) (fun h441 => ?_)
            · replace hm := ite_t hm h441
              refine T.skip rfl ?_
              refine TQ.then ?_
              refine T.seq rfl ?_
              refine T.block rfl ?_
              refine T.seq rfl ?_
              refine T.region rfl ?_
              obtain ⟨v448, h449, hm⟩ := bind_o hm
              refine TO.go rfl rfl rfl (Does.indexSl (r := (rI .u32)) (k := 5) rfl rfl rfl sl_23 rfl Arrd.ro h449) fun _ => ?_
              refine TO.go rfl rfl rfl (Does.loadFlat (r := (rI .u32)) (k := 5) (f := 0) (v := .int .u32 v448) rfl rfl sc_48 rfl Arrd.ro (at?_out h449).2.2 rfl) fun _ => ?_
              refine TO.go rfl rfl rfl (Does.assign rfl rfl) fun _ => ?_
              refine TO.end rfl ?_
              refine TQ.then ?_
              refine T.seq rfl ?_
              refine T.region rfl ?_
              refine TO.go rfl rfl rfl (Does.move rfl rfl) fun _ => ?_
              refine TO.go rfl rfl rfl (Does.nilCheck rfl rfl) fun _ => ?_
              refine TO.go rfl rfl rfl (Does.fieldAddr (o' := 6) rfl rfl fo_76_2 rfl) fun _ => ?_
              refine TO.go rfl rfl rfl (Does.loadPts (k := 4) (v := .pointer (some ⟨b110, 0, none⟩)) rfl rfl sc_73 rfl rfl) fun _ => ?_
              refine TO.go rfl rfl rfl (Does.move rfl rfl) fun _ => ?_
              refine TO.go rfl rfl rfl (Does.conv (v := .int .u64 (IntKind.u64.wrap v448)) rfl rfl (c_int un_48 ii_38)) fun _ => ?_
              obtain ⟨v450, h451, hm⟩ := bind_o hm
              refine TO.go rfl rfl rfl (Does.conseq (Does.call (vs := [.pointer (some ⟨b110, 0, none⟩), .int .u64 (IntKind.u64.wrap v448)]) rfl co_94 rfl (fun w h => f94.ok v401.2.c b110 (IntKind.u64.wrap v448) h451 ((h).ent (Ent.take 3 rfl)))) (fun w h => h) (fun x w h => ((((((h).ent (Ent.take 5 rfl)).ent (Ent.take 5 rfl)).ent (Ent.take 2 rfl)).ent (Ent.take 5 rfl)).ent (Ent.take 5 rfl)).ent (Ent.take 5 rfl))) fun _ => ?_
              refine TO.go rfl rfl rfl (Does.move rfl rfl) fun _ => ?_
              refine TO.go rfl rfl rfl (Does.extract rfl rfl rfl) fun _ => ?_
              refine TO.go rfl rfl rfl (Does.extract rfl rfl rfl) fun _ => ?_
              refine TO.go rfl rfl rfl (Does.assign rfl rfl) fun _ => ?_
              refine TO.go rfl rfl rfl (Does.assign rfl rfl) fun _ => ?_
              refine TO.end rfl ?_
              refine TQ.then ?_
              refine T.seq rfl ?_
              refine T.seq rfl ?_
              refine T.region rfl ?_
              refine TO.go rfl rfl rfl (Does.move rfl rfl) fun _ => ?_
              refine TO.go rfl rfl rfl (Does.bin (v := .bool (v450.2 != 0)) (vy := .int .i64 0) rfl rfl rfl g_int b_ne) fun _ => ?_
              refine TO.end rfl ?_
              refine TQ.then ?_
              refine T.cond rfl (b := (v450.2 != 0)) rfl (fun h453 => ?_) (fun h453 => ?_)
              · replace hm := ite_t hm h453
                refine T.seq rfl ?_
                refine T.region rfl ?_
                refine TO.go rfl rfl rfl (Does.move rfl rfl) fun _ => ?_
                refine TO.go rfl rfl rfl (Does.assign rfl rfl) fun _ => ?_
                refine TO.end rfl ?_
                refine TQ.then ?_
                refine T.ret rfl ?_
                refine TQ.passThenRet ?_
                refine TQ.passBlockRet ?_
                refine TQ.passThenRet ?_
                refine TQ.passThenRet ?_
                refine TQ.passBlockRet ?_
                refine TQ.passBlockRet ?_
                refine TQ.passThenRet ?_
                refine TQ.result (.inl rfl) rfl (Res.tmp rfl Res.nil) rfl (fun w h => ?_)
                cases hm
                exact ⟨(), rfl, ((((((h).ent (Ent.drop _ _)).ent (Ent.drop _ _)).ent (Ent.drop _ _)).ent (Ent.take 2 rfl)).ent (Ent.drop _ _)).ent (Ent.take 1 rfl)⟩
              · replace hm := ite_f hm h453
                refine T.skip rfl ?_
                refine TQ.then ?_
                refine T.seq rfl ?_
                refine T.region rfl ?_
                refine TO.go rfl rfl rfl (Does.move rfl rfl) fun _ => ?_
                refine TO.go rfl rfl rfl (Does.move rfl rfl) fun _ => ?_
                refine TO.go rfl rfl rfl (Does.bin (v := .bool (v450.1 != v141.1)) rfl rfl rfl g_str s_ne) fun _ => ?_
                refine TO.end rfl ?_
                refine TQ.then ?_
                refine T.cond rfl (b := (v450.1 != v141.1)) rfl (fun h454 => ?_) (fun h454 => ?_)
                · replace hm := ite_t hm h454
                  refine T.seq rfl ?_
                  refine T.region rfl ?_
                  refine TO.go rfl rfl rfl (Does.assign (v := .int .i64 21) rfl rfl) fun _ => ?_
                  refine TO.end rfl ?_
                  refine TQ.then ?_
                  refine T.ret rfl ?_
                  refine TQ.passBlockRet ?_
                  refine TQ.passThenRet ?_
                  refine TQ.passThenRet ?_
                  refine TQ.passBlockRet ?_
                  refine TQ.passBlockRet ?_
                  refine TQ.passThenRet ?_
                  refine TQ.result (.inl rfl) rfl (Res.tmp rfl Res.nil) rfl (fun w h => ?_)
                  cases hm
                  exact ⟨(), rfl, ((((((h).ent (Ent.drop _ _)).ent (Ent.drop _ _)).ent (Ent.drop _ _)).ent (Ent.take 2 rfl)).ent (Ent.drop _ _)).ent (Ent.take 1 rfl)⟩
                · replace hm := ite_f hm h454
                  refine T.skip rfl ?_
                  refine TQ.passBlockNormal ?_
                  refine TQ.then ?_
                  refine T.region rfl ?_
                  refine TO.go rfl rfl rfl (Does.bin (v := .int .i64 (IntKind.i64.wrap (v437 + 1))) (vy := .int .i64 1) rfl rfl rfl g_int b_add) fun _ => ?_
                  refine TO.go rfl rfl rfl (Does.move rfl rfl) fun _ => ?_
                  refine TO.end rfl ?_
                  exact TQ.again (TR.sub (h439 (IntKind.i64.wrap (v437 + 1)) hm) (Sub.cons rfl (Sub.cons rfl (Sub.cons rfl (Sub.cons rfl (Sub.cons rfl (Sub.nil _)))))) (fun w h => (((((((((((((((((h).ent (Ent.copy 0 rfl)).ent (Ent.copy 2 rfl)).ent (Ent.copy 4 rfl)).ent (Ent.copy 8 rfl)).ent (Ent.take 4 rfl)).ent (Ent.drop _ _)).ent (Ent.take 4 rfl)).ent (Ent.drop _ _)).ent (Ent.take 4 rfl)).ent (Ent.drop _ _)).ent (Ent.take 6 rfl)).ent (Ent.drop _ _)).ent (Ent.take 5 rfl)).ent (Ent.take 5 rfl)).ent (Ent.take 3 rfl)).ent (Ent.take 4 rfl)).ent (Ent.take 5 rfl)))
            · replace hm := ite_f hm h441
              refine T.exit rfl ?_
              refine TQ.passThenExit ?_
              refine TQ.passThenExit ?_
              refine TQ.exitHere ?_
              refine TQ.passBlockNormal ?_
              exact TQ.then (T.sub (h254 v401.2.c hm) (Sub.cons rfl (Sub.cons rfl (Sub.nil _))) (fun w h => ((((((((((((((((h).ent (Ent.copy 0 rfl)).ent (Ent.copy 2 rfl)).ent (Ent.copy 4 rfl)).ent (Ent.take 3 rfl)).ent (Ent.drop _ _)).ent (Ent.take 3 rfl)).ent (Ent.drop _ _)).ent (Ent.take 3 rfl)).ent (Ent.drop _ _)).ent (Ent.take 5 rfl)).ent (Ent.drop _ _)).ent (Ent.take 4 rfl)).ent (Ent.take 4 rfl)).ent (Ent.take 2 rfl)).ent (Ent.take 3 rfl)).ent (Ent.take 4 rfl)))
        · replace hm := ite_f hm h391
          refine T.skip rfl ?_
          refine TQ.passBlockNormal ?_
          exact TQ.then (T.sub (h254 v0.c hm) (Sub.cons rfl (Sub.cons rfl (Sub.nil _))) (fun w h => ((((((((((((((((((h).ent (Ent.copy 5 rfl)).ent (Ent.copy 5 rfl)).ent (Ent.copy 5 rfl)).ent (Ent.take 3 rfl)).ent (Ent.drop _ _)).ent (Ent.take 5 rfl)).ent (Ent.drop _ _)).ent (Ent.take 5 rfl)).ent (Ent.drop _ _)).ent (Ent.take 5 rfl)).ent (Ent.drop _ _)).ent (Ent.take 5 rfl)).ent (Ent.drop _ _)).ent (Ent.take 3 rfl)).ent (Ent.take 4 rfl)).ent (Ent.take 2 rfl)).ent (Ent.take 3 rfl)).ent (Ent.take 4 rfl)))

end Go.Proofs.Ytfonekhhbmlkbaa
