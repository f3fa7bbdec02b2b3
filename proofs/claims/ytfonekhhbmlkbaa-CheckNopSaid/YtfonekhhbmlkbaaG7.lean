/- Mirrors of functions, and that the Go functions compute them. Printed by gofun.py. -/
import Derived.Test.YtfonekhhbmlkbaaG6
set_option linter.unusedVariables false
set_option linter.unusedSimpArgs false
namespace Go.Proofs.Ytfonekhhbmlkbaa
open Go Go.Sym
/-- (*creel/opstack.Stack).Push -/
def f76.f (v0 : opstack_Stack) (v1 : UInt8) : Option opstack_Stack :=
  ((ap 1 v0.list ([v1])).bind fun v108 => some ({ list := v108 } : opstack_Stack))
set_option maxRecDepth 20000 in
set_option maxHeartbeats 1000000 in
theorem f76.ok {W w : World} {R : List Assn} (v0 : opstack_Stack) (b0 : Nat) (v1 : UInt8) {r : opstack_Stack} (hm : f76.f v0 v1 = some r) (hs : St W w (ptr opstack_Stack.rep b0 v0 :: R)) :
    Calls Try.prog 76 #[.pointer (some ⟨b0, 0, none⟩), .int .u8 v1.toNat] w (fun e w' => ∃ x : Unit, e = .returned (.tuple #[]) ∧ St W w' (ptr opstack_Stack.rep b0 r :: R)) := by
  unfold f76.f at hm
  refine calls_sym (vs := [.pointer (some ⟨b0, 0, none⟩), .int .u8 v1.toNat]) Try.func76 rfl rfl hs ?_
  refine T.region rfl ?_
  refine TO.go rfl rfl rfl (Does.move rfl rfl) fun _ => ?_
  refine TO.go rfl rfl rfl (Does.move rfl rfl) fun _ => ?_
  refine TO.go rfl rfl rfl (Does.nilCheck rfl rfl) fun _ => ?_
  refine TO.go rfl rfl rfl (Does.fieldAddr (o' := 0) rfl rfl fo_110_0 rfl) fun _ => ?_
  refine TO.st (X := List Value) (p := fun _ => True) (fun w h => let ⟨cs, h⟩ := open_ptr (h); ⟨cs, trivial, h⟩) ?_
  intro cs104 _
  refine TO.st (fun w h => opstack_Stack.open h) ?_
  rintro ⟨a101, n102⟩ rfl
  refine TO.go rfl rfl rfl (Does.loadPts (k := 1) (v := .slice a101 v0.list.length n102) rfl rfl sc_107 rfl rfl) fun _ => ?_
  refine TO.go rfl rfl rfl (Does.move rfl rfl) fun _ => ?_
  refine TO.go rfl rfl rfl (Does.buildSlice (r := rU8) (l := [v1]) (cs := [.int .u8 v1.toNat]) (vs := [(0, .int .u8 v1.toNat)]) rfl rfl sl_107 (fun w => by kernel_rfl) rfl rfl (fun w h => (flat_add (r := rU8) v1 rfl (h)).ent (Ent.unstar (L := [_])))) fun a106 => ?_
  refine TO.ent (L' := own rU8 a106 1 ([v1]) :: own rU8 a101 n102 v0.list :: pts b0 [.slice a101 v0.list.length n102] :: R) (fun w h => h) ?_
  obtain ⟨v108, h109, hm⟩ := bind_o hm
  refine TO.go rfl rfl rfl (Does.append (r := rU8) (k := 1) (l := v0.list) (l2 := [v1]) rfl rfl rfl sl_107 zn_5 rfl rfl (Srcs.sl sl_107 (k := 0) rfl Arrd.own) h109) (fun ⟨a110, n111⟩ => ?_)
  refine TO.ent (L' := own rU8 a106 1 ([v1]) :: own rU8 a110 n111 v108 :: pts b0 [.slice a101 v0.list.length n102] :: R) (fun w h => h) ?_
  refine TO.go rfl rfl rfl (Does.nilCheck rfl rfl) fun _ => ?_
  refine TO.go rfl rfl rfl (Does.fieldAddr (o' := 0) rfl rfl fo_110_0 rfl) fun _ => ?_
  refine TO.go0 rfl rfl (Does.storePts (k := 2) (vs := [.slice a110 v108.length n111]) (cs' := [.slice a110 v108.length n111]) rfl rfl rfl rfl rfl cn_107 rfl rfl rfl rfl) fun _ => ?_
  refine TO.ent (L' := own rU8 a106 1 ([v1]) :: own rU8 a110 n111 v108 :: pts b0 [.slice a110 v108.length n111] :: R) (fun w h => h) ?_
  refine TO.end rfl ?_
  refine TQ.result (.inr rfl) rfl Res.nil rfl (fun w h => ?_)
  cases hm
  exact ⟨(), rfl, ((shut_ptr (opstack_Stack.shut (x := ({ list := v108 } : opstack_Stack)) (a110, n111) (((h).ent (Ent.take 2 rfl)).ent (Ent.take 2 rfl)))).ent (Ent.take 1 rfl)).ent (Ent.drop _ _)⟩

/-- (*creel/check.checker).choose -/
def f49.f (v0 : check_checker) (v1 : api_Instr) : Option (Int × check_checker) :=
  (if (v1.Op == (26 : UInt8)) = true then ((f74.f v0.c).bind fun v121 => some (v121.2.1, ({ env := v0.env, locals := v0.locals, c := v121.2.2, result := v0.result } : check_checker))) else ((f73.f v0 (127 : UInt8)).bind fun v132 => (if (v132.1 != 0) = true then some (v132.1, ({ env := v0.env, locals := v0.locals, c := v132.2.c, result := v0.result } : check_checker)) else ((f74.f v132.2.c).bind fun v135 => (if (v135.2.1 != 0) = true then some (v135.2.1, ({ env := v0.env, locals := v0.locals, c := v135.2.2, result := v0.result } : check_checker)) else ((f75.f v135.2.2 v135.1).bind fun v139 => (if (v139.2.1 != 0) = true then some (v139.2.1, ({ env := v0.env, locals := v0.locals, c := v139.2.2, result := v0.result } : check_checker)) else ((f76.f v139.2.2.Stack v139.1).bind fun v149 => some (0, ({ env := v0.env, locals := v0.locals, c := ({ frames := v139.2.2.frames, Stack := v149 } : ctrl_Control), result := v0.result } : check_checker))))))))))
set_option maxRecDepth 20000 in
set_option maxHeartbeats 1000000 in
theorem f49.ok {W w : World} {R : List Assn} (v0 : check_checker) (b0 : Nat) (a101 : Option Addr) (n102 : Nat) (a104 : Option Addr) (n105 : Nat) (a107 : Option Addr) (n108 : Nat) (b110 : Nat) (v1 : api_Instr) (a112 : Option Addr) (n113 : Nat) {r : Int × check_checker} (hm : f49.f v0 v1 = some r) (hs : St W w (pts b0 [.slice a101 v0.env.Types.length n102, .slice a104 v0.env.Funcs.length n105, .slice a107 v0.env.Globals.length n108, .bool v0.env.Table, .bool v0.env.Mem, .string ⟨v0.locals.toArray⟩, .pointer (some ⟨b110, 0, none⟩), .string ⟨v0.result.toArray⟩] :: ptr ctrl_Control.rep b110 v0.c :: ro api_GlobalType.rep a107 n108 v0.env.Globals :: ro (rI .u32) a104 n105 v0.env.Funcs :: ro api_FuncType.rep a101 n102 v0.env.Types :: ro (rI .u32) a112 n113 v1.L :: R)) :
    Calls Try.prog 49 #[.pointer (some ⟨b0, 0, none⟩), .agg #[.int .u8 v1.Op.toNat, .int .u64 v1.A, .int .u64 v1.B, .slice a112 v1.L.length n113]] w (fun e w' => ∃ x : Unit, e = .returned (.int .i64 r.1) ∧ St W w' (pts b0 [.slice a101 v0.env.Types.length n102, .slice a104 v0.env.Funcs.length n105, .slice a107 v0.env.Globals.length n108, .bool v0.env.Table, .bool v0.env.Mem, .string ⟨v0.locals.toArray⟩, .pointer (some ⟨b110, 0, none⟩), .string ⟨v0.result.toArray⟩] :: ptr ctrl_Control.rep b110 r.2.c :: R)) := by
  unfold f49.f at hm
  refine calls_sym (vs := [.pointer (some ⟨b0, 0, none⟩), .agg #[.int .u8 v1.Op.toNat, .int .u64 v1.A, .int .u64 v1.B, .slice a112 v1.L.length n113]]) Try.func49 rfl rfl hs ?_
  refine T.seq rfl ?_
  refine T.region rfl ?_
  refine TO.go rfl rfl rfl (Does.box (vs := [.int .u8 v1.Op.toNat, .int .u64 v1.A, .int .u64 v1.B, .slice a112 v1.L.length n113]) rfl rfl rfl) fun b115 => ?_
  refine TO.ent (L' := pts b115 [.int .u8 v1.Op.toNat, .int .u64 v1.A, .int .u64 v1.B, .slice a112 v1.L.length n113] :: pts b0 [.slice a101 v0.env.Types.length n102, .slice a104 v0.env.Funcs.length n105, .slice a107 v0.env.Globals.length n108, .bool v0.env.Table, .bool v0.env.Mem, .string ⟨v0.locals.toArray⟩, .pointer (some ⟨b110, 0, none⟩), .string ⟨v0.result.toArray⟩] :: ptr ctrl_Control.rep b110 v0.c :: ro api_GlobalType.rep a107 n108 v0.env.Globals :: ro (rI .u32) a104 n105 v0.env.Funcs :: ro api_FuncType.rep a101 n102 v0.env.Types :: ro (rI .u32) a112 n113 v1.L :: R) (fun w h => h) ?_
  refine TO.go rfl rfl rfl (Does.assign (v := .int .i64 0) rfl rfl) fun _ => ?_
  refine TO.end rfl ?_
  refine TQ.then ?_
  refine T.seq rfl ?_
  refine T.seq rfl ?_
  refine T.region rfl ?_
  refine TO.go rfl rfl rfl (Does.fieldAddr (o' := 0) rfl rfl fo_40_0 rfl) fun _ => ?_
  refine TO.go rfl rfl rfl (Does.loadPts (k := 0) (v := .int .u8 v1.Op.toNat) rfl rfl sc_5 rfl rfl) fun _ => ?_
  refine TO.go rfl rfl rfl (Does.bin (v := .bool (v1.Op == (26 : UInt8))) (vy := .int .u8 (26 : UInt8).toNat) rfl rfl rfl g_int b8_eq) fun _ => ?_
  refine TO.end rfl ?_
  refine TQ.then ?_
  refine T.cond rfl (b := (v1.Op == (26 : UInt8))) rfl (fun h120 => ?_) (fun h120 => ?_)
  · replace hm := ite_t hm h120
    refine T.seq rfl ?_
    refine T.region rfl ?_
    refine TO.go rfl rfl rfl (Does.move rfl rfl) fun _ => ?_
    refine TO.go rfl rfl rfl (Does.nilCheck rfl rfl) fun _ => ?_
    refine TO.go rfl rfl rfl (Does.fieldAddr (o' := 6) rfl rfl fo_76_2 rfl) fun _ => ?_
    refine TO.go rfl rfl rfl (Does.loadPts (k := 1) (v := .pointer (some ⟨b110, 0, none⟩)) rfl rfl sc_73 rfl rfl) fun _ => ?_
    obtain ⟨v121, h122, hm⟩ := bind_o hm
    refine TO.go rfl rfl rfl (Does.call (vs := [.pointer (some ⟨b110, 0, none⟩)]) rfl co_74 rfl (fun w h => f74.ok v0.c b110 h122 ((h).ent (Ent.take 2 rfl)))) fun _ => ?_
    refine TO.ent (L' := ptr ctrl_Control.rep b110 v121.2.2 :: pts b115 [.int .u8 v1.Op.toNat, .int .u64 v1.A, .int .u64 v1.B, .slice a112 v1.L.length n113] :: pts b0 [.slice a101 v0.env.Types.length n102, .slice a104 v0.env.Funcs.length n105, .slice a107 v0.env.Globals.length n108, .bool v0.env.Table, .bool v0.env.Mem, .string ⟨v0.locals.toArray⟩, .pointer (some ⟨b110, 0, none⟩), .string ⟨v0.result.toArray⟩] :: ro api_GlobalType.rep a107 n108 v0.env.Globals :: ro (rI .u32) a104 n105 v0.env.Funcs :: ro api_FuncType.rep a101 n102 v0.env.Types :: ro (rI .u32) a112 n113 v1.L :: R) (fun w h => h) ?_
    refine TO.go rfl rfl rfl (Does.move rfl rfl) fun _ => ?_
    refine TO.go rfl rfl rfl (Does.extract rfl rfl rfl) fun _ => ?_
    refine TO.go rfl rfl rfl (Does.extract rfl rfl rfl) fun _ => ?_
    refine TO.go rfl rfl rfl (Does.assign rfl rfl) fun _ => ?_
    refine TO.go rfl rfl rfl (Does.assign rfl rfl) fun _ => ?_
    refine TO.end rfl ?_
    refine TQ.then ?_
    refine T.seq rfl ?_
    refine T.region rfl ?_
    refine TO.go rfl rfl rfl (Does.move rfl rfl) fun _ => ?_
    refine TO.go rfl rfl rfl (Does.assign rfl rfl) fun _ => ?_
    refine TO.end rfl ?_
    refine TQ.then ?_
    refine T.ret rfl ?_
    refine TQ.passThenRet ?_
    refine TQ.result (.inl rfl) rfl (Res.tmp rfl Res.nil) rfl (fun w h => ?_)
    cases hm
    exact ⟨(), rfl, (((((((((((h).ent (Ent.take 1 rfl)).ent (Ent.drop _ _)).ent (Ent.take 2 rfl)).ent (Ent.drop _ _)).ent (Ent.take 2 rfl)).ent (Ent.drop _ _)).ent (Ent.take 2 rfl)).ent (Ent.drop _ _)).ent (Ent.take 2 rfl)).ent (Ent.drop _ _)).ent (Ent.take 1 rfl)⟩
  · replace hm := ite_f hm h120
    refine T.skip rfl ?_
    refine TQ.then ?_
    refine T.seq rfl ?_
    refine T.seq rfl ?_
    refine T.region rfl ?_
    refine TO.go rfl rfl rfl (Does.move rfl rfl) fun _ => ?_
    obtain ⟨v132, h133, hm⟩ := bind_o hm
    refine TO.go rfl rfl rfl (Does.call (vs := [.pointer (some ⟨b0, 0, none⟩), .int .u8 (127 : UInt8).toNat]) rfl co_73 rfl (fun w h => f73.ok v0 b0 a101 n102 a104 n105 a107 n108 b110 (127 : UInt8) h133 ((((((((h).ent (Ent.copy 3 rfl)).ent (Ent.copy 5 rfl)).ent (Ent.copy 7 rfl)).ent (Ent.take 1 rfl)).ent (Ent.take 2 rfl)).ent (Ent.take 5 rfl)).ent (Ent.take 5 rfl)))) fun _ => ?_
    refine TO.ent (L' := pts b0 [.slice a101 v0.env.Types.length n102, .slice a104 v0.env.Funcs.length n105, .slice a107 v0.env.Globals.length n108, .bool v0.env.Table, .bool v0.env.Mem, .string ⟨v0.locals.toArray⟩, .pointer (some ⟨b110, 0, none⟩), .string ⟨v0.result.toArray⟩] :: ptr ctrl_Control.rep b110 v132.2.c :: pts b115 [.int .u8 v1.Op.toNat, .int .u64 v1.A, .int .u64 v1.B, .slice a112 v1.L.length n113] :: ro api_GlobalType.rep a107 n108 v0.env.Globals :: ro (rI .u32) a104 n105 v0.env.Funcs :: ro api_FuncType.rep a101 n102 v0.env.Types :: ro (rI .u32) a112 n113 v1.L :: R) (fun w h => h) ?_
    refine TO.go rfl rfl rfl (Does.assign rfl rfl) fun _ => ?_
    refine TO.end rfl ?_
    refine TQ.then ?_
    refine T.seq rfl ?_
    refine T.region rfl ?_
    refine TO.go rfl rfl rfl (Does.move rfl rfl) fun _ => ?_
    refine TO.go rfl rfl rfl (Does.bin (v := .bool (v132.1 != 0)) (vy := .int .i64 0) rfl rfl rfl g_int b_ne) fun _ => ?_
    refine TO.end rfl ?_
    refine TQ.then ?_
    refine T.cond rfl (b := (v132.1 != 0)) rfl (fun h134 => ?_) (fun h134 => ?_)
    · replace hm := ite_t hm h134
      refine T.seq rfl ?_
      refine T.region rfl ?_
      refine TO.go rfl rfl rfl (Does.move rfl rfl) fun _ => ?_
      refine TO.go rfl rfl rfl (Does.assign rfl rfl) fun _ => ?_
      refine TO.end rfl ?_
      refine TQ.then ?_
      refine T.ret rfl ?_
      refine TQ.passThenRet ?_
      refine TQ.result (.inl rfl) rfl (Res.tmp rfl Res.nil) rfl (fun w h => ?_)
      cases hm
      exact ⟨(), rfl, ((((((((((((h).ent (Ent.take 2 rfl)).ent (Ent.drop _ _)).ent (Ent.take 2 rfl)).ent (Ent.drop _ _)).ent (Ent.take 2 rfl)).ent (Ent.drop _ _)).ent (Ent.take 2 rfl)).ent (Ent.drop _ _)).ent (Ent.take 2 rfl)).ent (Ent.drop _ _)).ent (Ent.take 1 rfl)).ent (Ent.take 1 rfl)⟩
    · replace hm := ite_f hm h134
      refine T.skip rfl ?_
      refine TQ.then ?_
      refine T.seq rfl ?_
      refine T.region rfl ?_
      refine TO.go rfl rfl rfl (Does.move rfl rfl) fun _ => ?_
      refine TO.go rfl rfl rfl (Does.nilCheck rfl rfl) fun _ => ?_
      refine TO.go rfl rfl rfl (Does.fieldAddr (o' := 6) rfl rfl fo_76_2 rfl) fun _ => ?_
      refine TO.go rfl rfl rfl (Does.loadPts (k := 0) (v := .pointer (some ⟨b110, 0, none⟩)) rfl rfl sc_73 rfl rfl) fun _ => ?_
      obtain ⟨v135, h136, hm⟩ := bind_o hm
      refine TO.go rfl rfl rfl (Does.call (vs := [.pointer (some ⟨b110, 0, none⟩)]) rfl co_74 rfl (fun w h => f74.ok v132.2.c b110 h136 ((h).ent (Ent.take 1 rfl)))) fun _ => ?_
      refine TO.ent (L' := ptr ctrl_Control.rep b110 v135.2.2 :: pts b0 [.slice a101 v0.env.Types.length n102, .slice a104 v0.env.Funcs.length n105, .slice a107 v0.env.Globals.length n108, .bool v0.env.Table, .bool v0.env.Mem, .string ⟨v0.locals.toArray⟩, .pointer (some ⟨b110, 0, none⟩), .string ⟨v0.result.toArray⟩] :: pts b115 [.int .u8 v1.Op.toNat, .int .u64 v1.A, .int .u64 v1.B, .slice a112 v1.L.length n113] :: ro api_GlobalType.rep a107 n108 v0.env.Globals :: ro (rI .u32) a104 n105 v0.env.Funcs :: ro api_FuncType.rep a101 n102 v0.env.Types :: ro (rI .u32) a112 n113 v1.L :: R) (fun w h => h) ?_
      refine TO.go rfl rfl rfl (Does.move rfl rfl) fun _ => ?_
      refine TO.go rfl rfl rfl (Does.extract rfl rfl rfl) fun _ => ?_
      refine TO.go rfl rfl rfl (Does.extract rfl rfl rfl) fun _ => ?_
      refine TO.go rfl rfl rfl (Does.assign rfl rfl) fun _ => ?_
      refine TO.go rfl rfl rfl (Does.assign rfl rfl) fun _ => ?_
      refine TO.end rfl ?_
      refine TQ.then ?_
      refine T.seq rfl ?_
      refine T.seq rfl ?_
      refine T.region rfl ?_
      refine TO.go rfl rfl rfl (Does.move rfl rfl) fun _ => ?_
      refine TO.go rfl rfl rfl (Does.bin (v := .bool (v135.2.1 != 0)) (vy := .int .i64 0) rfl rfl rfl g_int b_ne) fun _ => ?_
      refine TO.end rfl ?_
      refine TQ.then ?_
      refine T.cond rfl (b := (v135.2.1 != 0)) rfl (fun h138 => ?_) (fun h138 => ?_)
      · replace hm := ite_t hm h138
        refine T.seq rfl ?_
        refine T.region rfl ?_
        refine TO.go rfl rfl rfl (Does.move rfl rfl) fun _ => ?_
        refine TO.go rfl rfl rfl (Does.assign rfl rfl) fun _ => ?_
        refine TO.end rfl ?_
        refine TQ.then ?_
        refine T.ret rfl ?_
        refine TQ.passThenRet ?_
        refine TQ.result (.inl rfl) rfl (Res.tmp rfl Res.nil) rfl (fun w h => ?_)
        cases hm
        exact ⟨(), rfl, (((((((((((h).ent (Ent.take 2 rfl)).ent (Ent.drop _ _)).ent (Ent.take 2 rfl)).ent (Ent.drop _ _)).ent (Ent.take 2 rfl)).ent (Ent.drop _ _)).ent (Ent.take 2 rfl)).ent (Ent.drop _ _)).ent (Ent.take 2 rfl)).ent (Ent.drop _ _)).ent (Ent.take 1 rfl)⟩
      · replace hm := ite_f hm h138
        refine T.skip rfl ?_
        refine TQ.then ?_
        refine T.seq rfl ?_
        refine T.region rfl ?_
        refine TO.go rfl rfl rfl (Does.move rfl rfl) fun _ => ?_
        refine TO.go rfl rfl rfl (Does.nilCheck rfl rfl) fun _ => ?_
        refine TO.go rfl rfl rfl (Does.fieldAddr (o' := 6) rfl rfl fo_76_2 rfl) fun _ => ?_
        refine TO.go rfl rfl rfl (Does.loadPts (k := 1) (v := .pointer (some ⟨b110, 0, none⟩)) rfl rfl sc_73 rfl rfl) fun _ => ?_
        refine TO.go rfl rfl rfl (Does.move rfl rfl) fun _ => ?_
        obtain ⟨v139, h140, hm⟩ := bind_o hm
        refine TO.go rfl rfl rfl (Does.call (vs := [.pointer (some ⟨b110, 0, none⟩), .int .u8 v135.1.toNat]) rfl co_75 rfl (fun w h => f75.ok v135.2.2 b110 v135.1 h140 (h))) fun _ => ?_
        refine TO.ent (L' := ptr ctrl_Control.rep b110 v139.2.2 :: pts b0 [.slice a101 v0.env.Types.length n102, .slice a104 v0.env.Funcs.length n105, .slice a107 v0.env.Globals.length n108, .bool v0.env.Table, .bool v0.env.Mem, .string ⟨v0.locals.toArray⟩, .pointer (some ⟨b110, 0, none⟩), .string ⟨v0.result.toArray⟩] :: pts b115 [.int .u8 v1.Op.toNat, .int .u64 v1.A, .int .u64 v1.B, .slice a112 v1.L.length n113] :: ro api_GlobalType.rep a107 n108 v0.env.Globals :: ro (rI .u32) a104 n105 v0.env.Funcs :: ro api_FuncType.rep a101 n102 v0.env.Types :: ro (rI .u32) a112 n113 v1.L :: R) (fun w h => h) ?_
        refine TO.go rfl rfl rfl (Does.move rfl rfl) fun _ => ?_
        refine TO.go rfl rfl rfl (Does.extract rfl rfl rfl) fun _ => ?_
        refine TO.go rfl rfl rfl (Does.extract rfl rfl rfl) fun _ => ?_
        refine TO.go rfl rfl rfl (Does.assign rfl rfl) fun _ => ?_
        refine TO.go rfl rfl rfl (Does.assign rfl rfl) fun _ => ?_
        refine TO.end rfl ?_
        refine TQ.then ?_
        refine T.seq rfl ?_
        refine T.seq rfl ?_
        refine T.region rfl ?_
        refine TO.go rfl rfl rfl (Does.move rfl rfl) fun _ => ?_
        refine TO.go rfl rfl rfl (Does.bin (v := .bool (v139.2.1 != 0)) (vy := .int .i64 0) rfl rfl rfl g_int b_ne) fun _ => ?_
        refine TO.end rfl ?_
        refine TQ.then ?_
        refine T.cond rfl (b := (v139.2.1 != 0)) rfl (fun h142 => ?_) (fun h142 => ?_)
        · replace hm := ite_t hm h142
          refine T.seq rfl ?_
          refine T.region rfl ?_
          refine TO.go rfl rfl rfl (Does.move rfl rfl) fun _ => ?_
          refine TO.go rfl rfl rfl (Does.assign rfl rfl) fun _ => ?_
          refine TO.end rfl ?_
          refine TQ.then ?_
          refine T.ret rfl ?_
          refine TQ.passThenRet ?_
          refine TQ.result (.inl rfl) rfl (Res.tmp rfl Res.nil) rfl (fun w h => ?_)
          cases hm
          exact ⟨(), rfl, (((((((((((h).ent (Ent.take 2 rfl)).ent (Ent.drop _ _)).ent (Ent.take 2 rfl)).ent (Ent.drop _ _)).ent (Ent.take 2 rfl)).ent (Ent.drop _ _)).ent (Ent.take 2 rfl)).ent (Ent.drop _ _)).ent (Ent.take 2 rfl)).ent (Ent.drop _ _)).ent (Ent.take 1 rfl)⟩
        · replace hm := ite_f hm h142
          refine T.skip rfl ?_
          refine TQ.then ?_
          refine T.seq rfl ?_
          refine T.region rfl ?_
          refine TO.go rfl rfl rfl (Does.move rfl rfl) fun _ => ?_
          refine TO.go rfl rfl rfl (Does.nilCheck rfl rfl) fun _ => ?_
          refine TO.go rfl rfl rfl (Does.fieldAddr (o' := 6) rfl rfl fo_76_2 rfl) fun _ => ?_
          refine TO.go rfl rfl rfl (Does.loadPts (k := 1) (v := .pointer (some ⟨b110, 0, none⟩)) rfl rfl sc_73 rfl rfl) fun _ => ?_
          refine TO.go rfl rfl rfl (Does.nilCheck rfl rfl) fun _ => ?_
          refine TO.go rfl rfl rfl (Does.fieldAddr (o' := 1) rfl rfl fo_113_1 rfl) fun _ => ?_
          refine TO.st (X := List Value) (p := fun _ => True) (fun w h => let ⟨cs, h⟩ := open_ptr (h); ⟨cs, trivial, h⟩) ?_
          intro cs148 _
          refine TO.st (fun w h => ctrl_Control.open h) ?_
          rintro ⟨a143, n144, b146⟩ rfl
          refine TO.go rfl rfl rfl (Does.loadPts (k := 2) (v := .pointer (some ⟨b146, 0, none⟩)) rfl rfl sc_108 rfl rfl) fun _ => ?_
          refine TO.go rfl rfl rfl (Does.move rfl rfl) fun _ => ?_
          obtain ⟨v149, h150, hm⟩ := bind_o hm
          refine TO.go rfl rfl rfl (Does.call (vs := [.pointer (some ⟨b146, 0, none⟩), .int .u8 v139.1.toNat]) rfl co_76 rfl (fun w h => f76.ok v139.2.2.Stack b146 v139.1 h150 (h))) fun _ => ?_
          refine TO.ent (L' := ptr opstack_Stack.rep b146 v149 :: own ctrl_Frame.rep a143 n144 v139.2.2.frames :: pts b110 [.slice a143 v139.2.2.frames.length n144, .pointer (some ⟨b146, 0, none⟩)] :: pts b0 [.slice a101 v0.env.Types.length n102, .slice a104 v0.env.Funcs.length n105, .slice a107 v0.env.Globals.length n108, .bool v0.env.Table, .bool v0.env.Mem, .string ⟨v0.locals.toArray⟩, .pointer (some ⟨b110, 0, none⟩), .string ⟨v0.result.toArray⟩] :: pts b115 [.int .u8 v1.Op.toNat, .int .u64 v1.A, .int .u64 v1.B, .slice a112 v1.L.length n113] :: ro api_GlobalType.rep a107 n108 v0.env.Globals :: ro (rI .u32) a104 n105 v0.env.Funcs :: ro api_FuncType.rep a101 n102 v0.env.Types :: ro (rI .u32) a112 n113 v1.L :: R) (fun w h => h) ?_
          refine TO.end rfl ?_
          refine TQ.then ?_
          refine T.seq rfl ?_
          refine T.region rfl ?_
          refine TO.go rfl rfl rfl (Does.assign (v := .int .i64 0) rfl rfl) fun _ => ?_
          refine TO.end rfl ?_
          refine TQ.then ?_
          refine T.ret rfl ?_
          refine TQ.result (.inl rfl) rfl (Res.tmp rfl Res.nil) rfl (fun w h => ?_)
          cases hm
          exact ⟨(), rfl, (((((((((((shut_ptr (ctrl_Control.shut (x := ({ frames := v139.2.2.frames, Stack := v149 } : ctrl_Control)) (a143, n144, b146) ((((h).ent (Ent.take 2 rfl)).ent (Ent.take 2 rfl)).ent (Ent.take 2 rfl)))).ent (Ent.take 2 rfl)).ent (Ent.drop _ _)).ent (Ent.take 2 rfl)).ent (Ent.drop _ _)).ent (Ent.take 2 rfl)).ent (Ent.drop _ _)).ent (Ent.take 2 rfl)).ent (Ent.drop _ _)).ent (Ent.take 2 rfl)).ent (Ent.drop _ _)).ent (Ent.take 1 rfl)⟩

/-- (*creel/check.checker).variable -/
def f50.f (v0 : check_checker) (v1 : api_Instr) : Option (Int × check_checker) :=
  (if (decide (v1.Op ≤ (34 : UInt8))) = true then (if (decide ((IntKind.u64.wrap (v0.locals.length : Int)) ≤ v1.A)) = true then some (23, v0) else ((sl? v0.locals v1.A (IntKind.u64.wrap (v1.A + 1))).bind fun v216 => (if (v1.Op == (32 : UInt8)) = true then ((f53.f v0 ([] : List UInt8) v216).bind fun v236 => some (v236.1, ({ env := v0.env, locals := v0.locals, c := v236.2.c, result := v0.result } : check_checker))) else (if (v1.Op == (33 : UInt8)) = true then ((f53.f v0 v216 ([] : List UInt8)).bind fun v242 => some (v242.1, ({ env := v0.env, locals := v0.locals, c := v242.2.c, result := v0.result } : check_checker))) else ((f53.f v0 v216 v216).bind fun v247 => some (v247.1, ({ env := v0.env, locals := v0.locals, c := v247.2.c, result := v0.result } : check_checker))))))) else (if (decide ((IntKind.u64.wrap (v0.env.Globals.length : Int)) ≤ v1.A)) = true then some (24, v0) else ((at? v0.env.Globals v1.A).bind fun v311 => (if (v1.Op == (35 : UInt8)) = true then ((f53.f v0 ([] : List UInt8) ([v311.T])).bind fun v333 => some (v333.1, ({ env := v0.env, locals := v0.locals, c := v333.2.c, result := v0.result } : check_checker))) else (if (!v311.Mut) = true then some (24, v0) else ((f53.f v0 ([v311.T]) ([] : List UInt8)).bind fun v339 => some (v339.1, ({ env := v0.env, locals := v0.locals, c := v339.2.c, result := v0.result } : check_checker))))))))
set_option maxRecDepth 20000 in
set_option maxHeartbeats 1000000 in
theorem f50.ok {W w : World} {R : List Assn} (v0 : check_checker) (b0 : Nat) (a101 : Option Addr) (n102 : Nat) (a104 : Option Addr) (n105 : Nat) (a107 : Option Addr) (n108 : Nat) (b110 : Nat) (v1 : api_Instr) (a112 : Option Addr) (n113 : Nat) {r : Int × check_checker} (hm : f50.f v0 v1 = some r) (hs : St W w (pts b0 [.slice a101 v0.env.Types.length n102, .slice a104 v0.env.Funcs.length n105, .slice a107 v0.env.Globals.length n108, .bool v0.env.Table, .bool v0.env.Mem, .string ⟨v0.locals.toArray⟩, .pointer (some ⟨b110, 0, none⟩), .string ⟨v0.result.toArray⟩] :: ptr ctrl_Control.rep b110 v0.c :: ro api_GlobalType.rep a107 n108 v0.env.Globals :: ro (rI .u32) a104 n105 v0.env.Funcs :: ro api_FuncType.rep a101 n102 v0.env.Types :: ro (rI .u32) a112 n113 v1.L :: R)) :
    Calls Try.prog 50 #[.pointer (some ⟨b0, 0, none⟩), .agg #[.int .u8 v1.Op.toNat, .int .u64 v1.A, .int .u64 v1.B, .slice a112 v1.L.length n113]] w (fun e w' => ∃ x : Unit, e = .returned (.int .i64 r.1) ∧ St W w' (pts b0 [.slice a101 v0.env.Types.length n102, .slice a104 v0.env.Funcs.length n105, .slice a107 v0.env.Globals.length n108, .bool v0.env.Table, .bool v0.env.Mem, .string ⟨v0.locals.toArray⟩, .pointer (some ⟨b110, 0, none⟩), .string ⟨v0.result.toArray⟩] :: ptr ctrl_Control.rep b110 r.2.c :: R)) := by
  unfold f50.f at hm
  refine calls_sym (vs := [.pointer (some ⟨b0, 0, none⟩), .agg #[.int .u8 v1.Op.toNat, .int .u64 v1.A, .int .u64 v1.B, .slice a112 v1.L.length n113]]) Try.func50 rfl rfl hs ?_
  refine T.seq rfl ?_
  refine T.region rfl ?_
  refine TO.go rfl rfl rfl (Does.box (vs := [.int .u8 v1.Op.toNat, .int .u64 v1.A, .int .u64 v1.B, .slice a112 v1.L.length n113]) rfl rfl rfl) fun b115 => ?_
  refine TO.ent (L' := pts b115 [.int .u8 v1.Op.toNat, .int .u64 v1.A, .int .u64 v1.B, .slice a112 v1.L.length n113] :: pts b0 [.slice a101 v0.env.Types.length n102, .slice a104 v0.env.Funcs.length n105, .slice a107 v0.env.Globals.length n108, .bool v0.env.Table, .bool v0.env.Mem, .string ⟨v0.locals.toArray⟩, .pointer (some ⟨b110, 0, none⟩), .string ⟨v0.result.toArray⟩] :: ptr ctrl_Control.rep b110 v0.c :: ro api_GlobalType.rep a107 n108 v0.env.Globals :: ro (rI .u32) a104 n105 v0.env.Funcs :: ro api_FuncType.rep a101 n102 v0.env.Types :: ro (rI .u32) a112 n113 v1.L :: R) (fun w h => h) ?_
  refine TO.go rfl rfl rfl (Does.assign (v := .int .i64 0) rfl rfl) fun _ => ?_
  refine TO.end rfl ?_
  refine TQ.then ?_
  refine T.seq rfl ?_
  refine T.seq rfl ?_
  refine T.region rfl ?_
  refine TO.go rfl rfl rfl (Does.fieldAddr (o' := 0) rfl rfl fo_40_0 rfl) fun _ => ?_
  refine TO.go rfl rfl rfl (Does.loadPts (k := 0) (v := .int .u8 v1.Op.toNat) rfl rfl sc_5 rfl rfl) fun _ => ?_
  refine TO.go rfl rfl rfl (Does.bin (v := .bool (decide (v1.Op ≤ (34 : UInt8)))) (vy := .int .u8 (34 : UInt8).toNat) rfl rfl rfl g_int b8_le) fun _ => ?_
  refine TO.end rfl ?_
  refine TQ.then ?_
  refine T.cond rfl (b := (decide (v1.Op ≤ (34 : UInt8)))) rfl (fun h160 => ?_) (fun h160 => ?_)
  · replace hm := ite_t hm h160
    refine T.seq rfl ?_
    refine T.seq rfl ?_
    refine T.draw [0, 1, 2, 3, 4, 5, 6, 7, 8] rfl mixed ?_
    refine RA.quiet (i := 0) (v := .pointer (some ⟨b115, 1, none⟩)) PendOK.nil rfl rfl rfl rfl rfl rfl (Does.fieldAddr (o' := 1) rfl rfl fo_40_1 rfl) fun h180 => ?_
    refine RA.quiet (i := 1) (v := .int .u64 v1.A) h180 rfl rfl rfl rfl rfl rfl (Does.loadPts (k := 0) (v := .int .u64 v1.A) rfl rfl sc_38 rfl rfl) fun h181 => ?_
    refine RA.quiet (i := 2) (v := .pointer (some ⟨b0, 0, none⟩)) h181 rfl rfl rfl rfl rfl rfl (Does.move rfl rfl) fun h182 => ?_
    refine RA.quiet (i := 3) (v := .pointer (some ⟨b0, 0, none⟩)) h182 rfl rfl rfl rfl rfl rfl (Does.nilCheck rfl rfl) fun h183 => ?_
    refine RA.quiet (i := 4) (v := .pointer (some ⟨b0, 5, none⟩)) h183 rfl rfl rfl rfl rfl rfl (Does.fieldAddr (o' := 5) rfl rfl fo_76_1 rfl) fun h184 => ?_
    refine RA.quiet (i := 5) (v := .string ⟨v0.locals.toArray⟩) h184 rfl rfl rfl rfl rfl rfl (Does.loadPts (k := 1) (v := .string ⟨v0.locals.toArray⟩) rfl rfl sc_9 rfl rfl) fun h185 => ?_
    refine RA.quiet (i := 6) (v := .int .i64 (v0.locals.length : Int)) h185 rfl rfl rfl rfl rfl rfl (Does.lenStr (l := v0.locals) rfl rfl ss_9) fun h186 => ?_
    refine RA.quiet (i := 7) (v := .int .u64 (IntKind.u64.wrap (v0.locals.length : Int))) h186 rfl rfl rfl rfl rfl rfl (Does.conv (v := .int .u64 (IntKind.u64.wrap (v0.locals.length : Int))) rfl rfl (c_int un_3 ii_38)) fun h187 => ?_
    refine RA.quiet (i := 8) (v := .bool (decide ((IntKind.u64.wrap (v0.locals.length : Int)) ≤ v1.A))) h187 rfl rfl rfl rfl rfl rfl (Does.bin (v := .bool (decide ((IntKind.u64.wrap (v0.locals.length : Int)) ≤ v1.A))) rfl rfl rfl g_int b_ge) fun h188 => ?_
    refine RA.done (by kernel_rfl) h188 rfl ?_
    refine TQ.then ?_
    refine T.cond rfl (b := (decide ((IntKind.u64.wrap (v0.locals.length : Int)) ≤ v1.A))) rfl (fun h189 => ?_) (fun h189 => ?_)
    · replace hm := ite_t hm h189
      refine T.seq rfl ?_
      refine T.region rfl ?_
      refine TO.go rfl rfl rfl (Does.assign (v := .int .i64 23) rfl rfl) fun _ => ?_
      refine TO.end rfl ?_
      refine TQ.then ?_
      refine T.ret rfl ?_
      refine TQ.passThenRet ?_
      refine TQ.passThenRet ?_
      refine TQ.result (.inl rfl) rfl (Res.tmp rfl Res.nil) rfl (fun w h => ?_)
      cases hm
      exact ⟨(), rfl, (((((((((((h).ent (Ent.drop _ _)).ent (Ent.take 2 rfl)).ent (Ent.drop _ _)).ent (Ent.take 2 rfl)).ent (Ent.drop _ _)).ent (Ent.take 2 rfl)).ent (Ent.drop _ _)).ent (Ent.take 2 rfl)).ent (Ent.drop _ _)).ent (Ent.take 1 rfl)).ent (Ent.take 1 rfl)⟩
    · replace hm := ite_f hm h189
      refine T.skip rfl ?_
      refine TQ.then ?_
      refine T.seq rfl ?_
      refine T.draw [0, 1, 2, 3, 4, 5, 6, 7, 8, 9] rfl mixed ?_
      refine RA.quiet (i := 0) (v := .pointer (some ⟨b0, 0, none⟩)) PendOK.nil rfl rfl rfl rfl rfl rfl (Does.move rfl rfl) fun h207 => ?_
      refine RA.quiet (i := 1) (v := .pointer (some ⟨b0, 0, none⟩)) h207 rfl rfl rfl rfl rfl rfl (Does.nilCheck rfl rfl) fun h208 => ?_
      refine RA.quiet (i := 2) (v := .pointer (some ⟨b0, 5, none⟩)) h208 rfl rfl rfl rfl rfl rfl (Does.fieldAddr (o' := 5) rfl rfl fo_76_1 rfl) fun h209 => ?_
      refine RA.quiet (i := 3) (v := .string ⟨v0.locals.toArray⟩) h209 rfl rfl rfl rfl rfl rfl (Does.loadPts (k := 1) (v := .string ⟨v0.locals.toArray⟩) rfl rfl sc_9 rfl rfl) fun h210 => ?_
      refine RA.quiet (i := 4) (v := .pointer (some ⟨b115, 1, none⟩)) h210 rfl rfl rfl rfl rfl rfl (Does.fieldAddr (o' := 1) rfl rfl fo_40_1 rfl) fun h211 => ?_
      refine RA.quiet (i := 5) (v := .int .u64 v1.A) h211 rfl rfl rfl rfl rfl rfl (Does.loadPts (k := 0) (v := .int .u64 v1.A) rfl rfl sc_38 rfl rfl) fun h212 => ?_
      refine RA.quiet (i := 6) (v := .pointer (some ⟨b115, 1, none⟩)) h212 rfl rfl rfl rfl rfl rfl (Does.fieldAddr (o' := 1) rfl rfl fo_40_1 rfl) fun h213 => ?_
      refine RA.quiet (i := 7) (v := .int .u64 v1.A) h213 rfl rfl rfl rfl rfl rfl (Does.loadPts (k := 0) (v := .int .u64 v1.A) rfl rfl sc_38 rfl rfl) fun h214 => ?_
      refine RA.quiet (i := 8) (v := .int .u64 (IntKind.u64.wrap (v1.A + 1))) h214 rfl rfl rfl rfl rfl rfl (Does.bin (v := .int .u64 (IntKind.u64.wrap (v1.A + 1))) (vy := .int .u64 1) rfl rfl rfl g_int b_add) fun h215 => ?_
      obtain ⟨v216, h217, hm⟩ := bind_o hm
      refine RA.quiet (i := 9) (v := .string ⟨v216.toArray⟩) h215 rfl rfl rfl rfl rfl rfl (Does.sliceStr rfl rfl rfl rfl ss_9 h217) fun h218 => ?_
      refine RA.eff (k := 10) (pend' := []) (by kernel_rfl) h218 rfl (.inl ⟨_, rfl, rfl, fun _ => rfl⟩) rfl (by kernel_rfl) (Does.assign rfl rfl) rfl (fun _ => (fun _ h => by cases h)) (fun _ h219 => ?_)
      refine RA.done (by kernel_rfl) h219 rfl ?_
      refine TQ.then ?_
      refine T.seq rfl ?_
      refine T.seq rfl ?_
      refine T.region rfl ?_
      refine TO.go rfl rfl rfl (Does.fieldAddr (o' := 0) rfl rfl fo_40_0 rfl) fun _ => ?_
      refine TO.go rfl rfl rfl (Does.loadPts (k := 0) (v := .int .u8 v1.Op.toNat) rfl rfl sc_5 rfl rfl) fun _ => ?_
      refine TO.end rfl ?_
      refine TQ.then ?_
      refine T.block rfl ?_
      refine T.seq rfl ?_
      refine T.region rfl ?_
      refine TO.go rfl rfl rfl (Does.bin (v := .bool (v1.Op == (32 : UInt8))) (vy := .int .u8 (32 : UInt8).toNat) rfl rfl rfl g_int b8_eq) fun _ => ?_
      refine TO.go rfl rfl rfl (Does.assign rfl rfl) fun _ => ?_
      refine TO.end rfl ?_
      refine TQ.then ?_
      refine T.cond rfl (b := (v1.Op == (32 : UInt8))) rfl (fun h232 => ?_) (fun h232 => ?_)
      · replace hm := ite_t hm h232
        refine T.seq rfl ?_
        refine T.region rfl ?_
        refine TO.go rfl rfl rfl (Does.move rfl rfl) fun _ => ?_
        refine TO.go rfl rfl rfl (Does.move rfl rfl) fun _ => ?_
        obtain ⟨v236, h237, hm⟩ := bind_o hm
        refine TO.go rfl rfl rfl (Does.call (vs := [.pointer (some ⟨b0, 0, none⟩), .string ⟨([] : List UInt8).toArray⟩, .string ⟨v216.toArray⟩]) rfl co_53 rfl (fun w h => f53.ok v0 b0 a101 n102 a104 n105 a107 n108 b110 ([] : List UInt8) v216 h237 ((((((((h).ent (Ent.copy 3 rfl)).ent (Ent.copy 5 rfl)).ent (Ent.copy 7 rfl)).ent (Ent.take 1 rfl)).ent (Ent.take 2 rfl)).ent (Ent.take 5 rfl)).ent (Ent.take 5 rfl)))) fun _ => ?_
        refine TO.ent (L' := pts b0 [.slice a101 v0.env.Types.length n102, .slice a104 v0.env.Funcs.length n105, .slice a107 v0.env.Globals.length n108, .bool v0.env.Table, .bool v0.env.Mem, .string ⟨v0.locals.toArray⟩, .pointer (some ⟨b110, 0, none⟩), .string ⟨v0.result.toArray⟩] :: ptr ctrl_Control.rep b110 v236.2.c :: pts b115 [.int .u8 v1.Op.toNat, .int .u64 v1.A, .int .u64 v1.B, .slice a112 v1.L.length n113] :: ro api_GlobalType.rep a107 n108 v0.env.Globals :: ro (rI .u32) a104 n105 v0.env.Funcs :: ro api_FuncType.rep a101 n102 v0.env.Types :: ro (rI .u32) a112 n113 v1.L :: R) (fun w h => h) ?_
        refine TO.go rfl rfl rfl (Does.assign rfl rfl) fun _ => ?_
        refine TO.end rfl ?_
        refine TQ.then ?_
        refine T.ret rfl ?_
        refine TQ.passBlockRet ?_
        refine TQ.passThenRet ?_
        refine TQ.passThenRet ?_
        refine TQ.result (.inl rfl) rfl (Res.tmp rfl Res.nil) rfl (fun w h => ?_)
        cases hm
        exact ⟨(), rfl, ((((((((((((h).ent (Ent.take 2 rfl)).ent (Ent.drop _ _)).ent (Ent.take 2 rfl)).ent (Ent.drop _ _)).ent (Ent.take 2 rfl)).ent (Ent.drop _ _)).ent (Ent.take 2 rfl)).ent (Ent.drop _ _)).ent (Ent.take 2 rfl)).ent (Ent.drop _ _)).ent (Ent.take 1 rfl)).ent (Ent.take 1 rfl)⟩
      · replace hm := ite_f hm h232
        refine T.seq rfl ?_
        refine T.region rfl ?_
        refine TO.go rfl rfl rfl (Does.bin (v := .bool (v1.Op == (33 : UInt8))) (vy := .int .u8 (33 : UInt8).toNat) rfl rfl rfl g_int b8_eq) fun _ => ?_
        refine TO.go rfl rfl rfl (Does.assign rfl rfl) fun _ => ?_
        refine TO.end rfl ?_
        refine TQ.then ?_
        refine T.cond rfl (b := (v1.Op == (33 : UInt8))) rfl (fun h238 => ?_) (fun h238 => ?_)
        · replace hm := ite_t hm h238
          refine T.seq rfl ?_
          refine T.region rfl ?_
          refine TO.go rfl rfl rfl (Does.move rfl rfl) fun _ => ?_
          refine TO.go rfl rfl rfl (Does.move rfl rfl) fun _ => ?_
          obtain ⟨v242, h243, hm⟩ := bind_o hm
          refine TO.go rfl rfl rfl (Does.call (vs := [.pointer (some ⟨b0, 0, none⟩), .string ⟨v216.toArray⟩, .string ⟨([] : List UInt8).toArray⟩]) rfl co_53 rfl (fun w h => f53.ok v0 b0 a101 n102 a104 n105 a107 n108 b110 v216 ([] : List UInt8) h243 ((((((((h).ent (Ent.copy 3 rfl)).ent (Ent.copy 5 rfl)).ent (Ent.copy 7 rfl)).ent (Ent.take 1 rfl)).ent (Ent.take 2 rfl)).ent (Ent.take 5 rfl)).ent (Ent.take 5 rfl)))) fun _ => ?_
          refine TO.ent (L' := pts b0 [.slice a101 v0.env.Types.length n102, .slice a104 v0.env.Funcs.length n105, .slice a107 v0.env.Globals.length n108, .bool v0.env.Table, .bool v0.env.Mem, .string ⟨v0.locals.toArray⟩, .pointer (some ⟨b110, 0, none⟩), .string ⟨v0.result.toArray⟩] :: ptr ctrl_Control.rep b110 v242.2.c :: pts b115 [.int .u8 v1.Op.toNat, .int .u64 v1.A, .int .u64 v1.B, .slice a112 v1.L.length n113] :: ro api_GlobalType.rep a107 n108 v0.env.Globals :: ro (rI .u32) a104 n105 v0.env.Funcs :: ro api_FuncType.rep a101 n102 v0.env.Types :: ro (rI .u32) a112 n113 v1.L :: R) (fun w h => h) ?_
          refine TO.go rfl rfl rfl (Does.assign rfl rfl) fun _ => ?_
          refine TO.end rfl ?_
          refine TQ.then ?_
          refine T.ret rfl ?_
          refine TQ.passBlockRet ?_
          refine TQ.passThenRet ?_
          refine TQ.passThenRet ?_
          refine TQ.result (.inl rfl) rfl (Res.tmp rfl Res.nil) rfl (fun w h => ?_)
          cases hm
          exact ⟨(), rfl, ((((((((((((h).ent (Ent.take 2 rfl)).ent (Ent.drop _ _)).ent (Ent.take 2 rfl)).ent (Ent.drop _ _)).ent (Ent.take 2 rfl)).ent (Ent.drop _ _)).ent (Ent.take 2 rfl)).ent (Ent.drop _ _)).ent (Ent.take 2 rfl)).ent (Ent.drop _ _)).ent (Ent.take 1 rfl)).ent (Ent.take 1 rfl)⟩
        · replace hm := ite_f hm h238
          refine T.skip rfl ?_
          refine TQ.passBlockNormal ?_
          refine TQ.then ?_
          refine T.seq rfl ?_
          refine T.region rfl ?_
          refine TO.go rfl rfl rfl (Does.move rfl rfl) fun _ => ?_
          refine TO.go rfl rfl rfl (Does.move rfl rfl) fun _ => ?_
          refine TO.go rfl rfl rfl (Does.move rfl rfl) fun _ => ?_
          obtain ⟨v247, h248, hm⟩ := bind_o hm
          refine TO.go rfl rfl rfl (Does.call (vs := [.pointer (some ⟨b0, 0, none⟩), .string ⟨v216.toArray⟩, .string ⟨v216.toArray⟩]) rfl co_53 rfl (fun w h => f53.ok v0 b0 a101 n102 a104 n105 a107 n108 b110 v216 v216 h248 ((((((((h).ent (Ent.copy 3 rfl)).ent (Ent.copy 5 rfl)).ent (Ent.copy 7 rfl)).ent (Ent.take 1 rfl)).ent (Ent.take 2 rfl)).ent (Ent.take 5 rfl)).ent (Ent.take 5 rfl)))) fun _ => ?_
          refine TO.ent (L' := pts b0 [.slice a101 v0.env.Types.length n102, .slice a104 v0.env.Funcs.length n105, .slice a107 v0.env.Globals.length n108, .bool v0.env.Table, .bool v0.env.Mem, .string ⟨v0.locals.toArray⟩, .pointer (some ⟨b110, 0, none⟩), .string ⟨v0.result.toArray⟩] :: ptr ctrl_Control.rep b110 v247.2.c :: pts b115 [.int .u8 v1.Op.toNat, .int .u64 v1.A, .int .u64 v1.B, .slice a112 v1.L.length n113] :: ro api_GlobalType.rep a107 n108 v0.env.Globals :: ro (rI .u32) a104 n105 v0.env.Funcs :: ro api_FuncType.rep a101 n102 v0.env.Types :: ro (rI .u32) a112 n113 v1.L :: R) (fun w h => h) ?_
          refine TO.go rfl rfl rfl (Does.assign rfl rfl) fun _ => ?_
          refine TO.end rfl ?_
          refine TQ.then ?_
          refine T.ret rfl ?_
          refine TQ.passThenRet ?_
          refine TQ.result (.inl rfl) rfl (Res.tmp rfl Res.nil) rfl (fun w h => ?_)
          cases hm
          exact ⟨(), rfl, ((((((((((((h).ent (Ent.take 2 rfl)).ent (Ent.drop _ _)).ent (Ent.take 2 rfl)).ent (Ent.drop _ _)).ent (Ent.take 2 rfl)).ent (Ent.drop _ _)).ent (Ent.take 2 rfl)).ent (Ent.drop _ _)).ent (Ent.take 2 rfl)).ent (Ent.drop _ _)).ent (Ent.take 1 rfl)).ent (Ent.take 1 rfl)⟩
  · replace hm := ite_f hm h160
    refine T.skip rfl ?_
    refine TQ.then ?_
    refine T.seq rfl ?_
    refine T.seq rfl ?_
    refine T.draw [0, 1, 2, 3, 4, 5, 6, 7, 8, 9] rfl mixed ?_
    refine RA.quiet (i := 0) (v := .pointer (some ⟨b115, 1, none⟩)) PendOK.nil rfl rfl rfl rfl rfl rfl (Does.fieldAddr (o' := 1) rfl rfl fo_40_1 rfl) fun h270 => ?_
    refine RA.quiet (i := 1) (v := .int .u64 v1.A) h270 rfl rfl rfl rfl rfl rfl (Does.loadPts (k := 0) (v := .int .u64 v1.A) rfl rfl sc_38 rfl rfl) fun h271 => ?_
    refine RA.quiet (i := 2) (v := .pointer (some ⟨b0, 0, none⟩)) h271 rfl rfl rfl rfl rfl rfl (Does.move rfl rfl) fun h272 => ?_
    refine RA.quiet (i := 3) (v := .pointer (some ⟨b0, 0, none⟩)) h272 rfl rfl rfl rfl rfl rfl (Does.nilCheck rfl rfl) fun h273 => ?_
    refine RA.quiet (i := 4) (v := .pointer (some ⟨b0, 0, none⟩)) h273 rfl rfl rfl rfl rfl rfl (Does.fieldAddr (o' := 0) rfl rfl fo_76_0 rfl) fun h274 => ?_
    refine RA.quiet (i := 5) (v := .pointer (some ⟨b0, 2, none⟩)) h274 rfl rfl rfl rfl rfl rfl (Does.fieldAddr (o' := 2) rfl rfl fo_26_2 rfl) fun h275 => ?_
    refine RA.quiet (i := 6) (v := .slice a107 v0.env.Globals.length n108) h275 rfl rfl rfl rfl rfl rfl (Does.loadPts (k := 1) (v := .slice a107 v0.env.Globals.length n108) rfl rfl sc_24 rfl rfl) fun h276 => ?_
    refine RA.quiet (i := 7) (v := .int .i64 (v0.env.Globals.length : Int)) h276 rfl rfl rfl rfl rfl rfl (Does.lenSl rfl rfl sl_24) fun h277 => ?_
    refine RA.quiet (i := 8) (v := .int .u64 (IntKind.u64.wrap (v0.env.Globals.length : Int))) h277 rfl rfl rfl rfl rfl rfl (Does.conv (v := .int .u64 (IntKind.u64.wrap (v0.env.Globals.length : Int))) rfl rfl (c_int un_3 ii_38)) fun h278 => ?_
    refine RA.quiet (i := 9) (v := .bool (decide ((IntKind.u64.wrap (v0.env.Globals.length : Int)) ≤ v1.A))) h278 rfl rfl rfl rfl rfl rfl (Does.bin (v := .bool (decide ((IntKind.u64.wrap (v0.env.Globals.length : Int)) ≤ v1.A))) rfl rfl rfl g_int b_ge) fun h279 => ?_
    refine RA.done (by kernel_rfl) h279 rfl ?_
    refine TQ.then ?_
    refine T.cond rfl (b := (decide ((IntKind.u64.wrap (v0.env.Globals.length : Int)) ≤ v1.A))) rfl (fun h280 => ?_) (fun h280 => ?_)
    · replace hm := ite_t hm h280
      refine T.seq rfl ?_
      refine T.region rfl ?_
      refine TO.go rfl rfl rfl (Does.assign (v := .int .i64 24) rfl rfl) fun _ => ?_
      refine TO.end rfl ?_
      refine TQ.then ?_
      refine T.ret rfl ?_
      refine TQ.passThenRet ?_
      refine TQ.result (.inl rfl) rfl (Res.tmp rfl Res.nil) rfl (fun w h => ?_)
      cases hm
      exact ⟨(), rfl, (((((((((((h).ent (Ent.drop _ _)).ent (Ent.take 2 rfl)).ent (Ent.drop _ _)).ent (Ent.take 2 rfl)).ent (Ent.drop _ _)).ent (Ent.take 2 rfl)).ent (Ent.drop _ _)).ent (Ent.take 2 rfl)).ent (Ent.drop _ _)).ent (Ent.take 1 rfl)).ent (Ent.take 1 rfl)⟩
    · replace hm := ite_f hm h280
      refine T.skip rfl ?_
      refine TQ.then ?_
      refine T.seq rfl ?_
      refine T.draw [0, 1, 2, 3, 4, 5, 6, 7, 8] rfl mixed ?_
      refine RA.quiet (i := 0) (v := .pointer (some ⟨b0, 0, none⟩)) PendOK.nil rfl rfl rfl rfl rfl rfl (Does.move rfl rfl) fun h304 => ?_
      refine RA.quiet (i := 1) (v := .pointer (some ⟨b0, 0, none⟩)) h304 rfl rfl rfl rfl rfl rfl (Does.nilCheck rfl rfl) fun h305 => ?_
      refine RA.quiet (i := 2) (v := .pointer (some ⟨b0, 0, none⟩)) h305 rfl rfl rfl rfl rfl rfl (Does.fieldAddr (o' := 0) rfl rfl fo_76_0 rfl) fun h306 => ?_
      refine RA.quiet (i := 3) (v := .pointer (some ⟨b0, 2, none⟩)) h306 rfl rfl rfl rfl rfl rfl (Does.fieldAddr (o' := 2) rfl rfl fo_26_2 rfl) fun h307 => ?_
      refine RA.quiet (i := 4) (v := .slice a107 v0.env.Globals.length n108) h307 rfl rfl rfl rfl rfl rfl (Does.loadPts (k := 1) (v := .slice a107 v0.env.Globals.length n108) rfl rfl sc_24 rfl rfl) fun h308 => ?_
      refine RA.quiet (i := 5) (v := .pointer (some ⟨b115, 1, none⟩)) h308 rfl rfl rfl rfl rfl rfl (Does.fieldAddr (o' := 1) rfl rfl fo_40_1 rfl) fun h309 => ?_
      refine RA.quiet (i := 6) (v := .int .u64 v1.A) h309 rfl rfl rfl rfl rfl rfl (Does.loadPts (k := 0) (v := .int .u64 v1.A) rfl rfl sc_38 rfl rfl) fun h310 => ?_
      obtain ⟨v311, h312, hm⟩ := bind_o hm
      refine RA.quiet (i := 7) (v := .pointer (some (adA a107 (((v1.A).toNat) * api_GlobalType.rep.n) 0))) h310 rfl rfl rfl rfl rfl rfl (Does.indexSl (r := api_GlobalType.rep) (k := 3) rfl rfl rfl sl_24 rfl Arrd.ro h312) fun h313 => ?_
      refine RA.quiet (i := 8) (v := .agg #[.int .u8 v311.T.toNat, .bool v311.Mut]) h313 rfl rfl rfl rfl rfl rfl (Does.loadFlatN (r := api_GlobalType.rep) (k := 3) (f := 0) (vs := [.int .u8 v311.T.toNat, .bool v311.Mut]) rfl rfl ag_62 rfl Arrd.ro (at?_out h312).2.2 rfl rfl) fun h314 => ?_
      refine RA.eff (k := 9) (pend' := [(8, .agg #[.int .u8 v311.T.toNat, .bool v311.Mut]), (7, .pointer (some (adA a107 (((v1.A).toNat) * api_GlobalType.rep.n) 0))), (6, .int .u64 v1.A), (5, .pointer (some ⟨b115, 1, none⟩)), (4, .slice a107 v0.env.Globals.length n108), (3, .pointer (some ⟨b0, 2, none⟩)), (2, .pointer (some ⟨b0, 0, none⟩)), (1, .pointer (some ⟨b0, 0, none⟩)), (0, .pointer (some ⟨b0, 0, none⟩))]) (by kernel_rfl) h314 rfl (.inl ⟨_, rfl, rfl, fun _ => rfl⟩) rfl (by kernel_rfl) (Does.alloc rfl zn_62) rfl (fun b315 => (List.forall_mem_cons.2 ⟨⟨_, rfl, Does.loadFlatN (r := api_GlobalType.rep) (k := 4) (f := 0) (vs := [.int .u8 v311.T.toNat, .bool v311.Mut]) rfl rfl ag_62 rfl Arrd.ro (at?_out h312).2.2 rfl rfl⟩, (List.forall_mem_cons.2 ⟨⟨_, rfl, Does.indexSl (r := api_GlobalType.rep) (k := 4) rfl rfl rfl sl_24 rfl Arrd.ro h312⟩, (List.forall_mem_cons.2 ⟨⟨_, rfl, Does.loadPts (k := 1) (v := .int .u64 v1.A) rfl rfl sc_38 rfl rfl⟩, (List.forall_mem_cons.2 ⟨⟨_, rfl, Does.fieldAddr (o' := 1) rfl rfl fo_40_1 rfl⟩, (List.forall_mem_cons.2 ⟨⟨_, rfl, Does.loadPts (k := 2) (v := .slice a107 v0.env.Globals.length n108) rfl rfl sc_24 rfl rfl⟩, (List.forall_mem_cons.2 ⟨⟨_, rfl, Does.fieldAddr (o' := 2) rfl rfl fo_26_2 rfl⟩, (List.forall_mem_cons.2 ⟨⟨_, rfl, Does.fieldAddr (o' := 0) rfl rfl fo_76_0 rfl⟩, (List.forall_mem_cons.2 ⟨⟨_, rfl, Does.nilCheck rfl rfl⟩, (List.forall_mem_cons.2 ⟨⟨_, rfl, Does.move rfl rfl⟩, (fun _ h => by cases h)⟩)⟩)⟩)⟩)⟩)⟩)⟩)⟩)⟩)) (fun b315 h316 => ?_)
      refine RA.eff (k := 10) (pend' := []) (by kernel_rfl) h316 rfl (.inr ⟨rfl, fun _ => rfl⟩) rfl (by kernel_rfl) (Does.storePts (k := 0) (vs := [.int .u8 v311.T.toNat, .bool v311.Mut]) (cs' := [.int .u8 v311.T.toNat, .bool v311.Mut]) rfl rfl rfl rfl rfl cn_62 rfl rfl rfl rfl) rfl (fun _ => (fun _ h => by cases h)) (fun _ h318 => ?_)
      refine RA.done (by kernel_rfl) h318 rfl ?_
      refine TQ.then ?_
      refine T.seq rfl ?_
      refine T.region rfl ?_
      refine TO.go rfl rfl rfl (Does.fieldAddr (o' := 0) rfl rfl fo_62_0 rfl) fun _ => ?_
      refine TO.go rfl rfl rfl (Does.loadPts (k := 0) (v := .int .u8 v311.T.toNat) rfl rfl sc_5 rfl rfl) fun _ => ?_
      refine TO.go rfl rfl rfl (Does.buildSlice (r := rU8) (l := [v311.T]) (cs := [.int .u8 v311.T.toNat]) (vs := [(0, .int .u8 v311.T.toNat)]) rfl rfl sl_107 (fun w => by kernel_rfl) rfl rfl (fun w h => (flat_add (r := rU8) v311.T rfl (h)).ent (Ent.unstar (L := [_])))) fun a320 => ?_
      refine TO.ent (L' := own rU8 a320 1 ([v311.T]) :: pts b315 [.int .u8 v311.T.toNat, .bool v311.Mut] :: pts b115 [.int .u8 v1.Op.toNat, .int .u64 v1.A, .int .u64 v1.B, .slice a112 v1.L.length n113] :: pts b0 [.slice a101 v0.env.Types.length n102, .slice a104 v0.env.Funcs.length n105, .slice a107 v0.env.Globals.length n108, .bool v0.env.Table, .bool v0.env.Mem, .string ⟨v0.locals.toArray⟩, .pointer (some ⟨b110, 0, none⟩), .string ⟨v0.result.toArray⟩] :: ptr ctrl_Control.rep b110 v0.c :: ro api_GlobalType.rep a107 n108 v0.env.Globals :: ro (rI .u32) a104 n105 v0.env.Funcs :: ro api_FuncType.rep a101 n102 v0.env.Types :: ro (rI .u32) a112 n113 v1.L :: R) (fun w h => h) ?_
      refine TO.go rfl rfl rfl (Does.bytesToStr (k := 0) (l := [v311.T]) rfl rfl sl_107 ii_5 ss_9 rfl Arrd.own) fun _ => ?_
      refine TO.go rfl rfl rfl (Does.assign rfl rfl) fun _ => ?_
      refine TO.end rfl ?_
      refine TQ.then ?_
      refine T.seq rfl ?_
      refine T.block rfl ?_
      refine T.seq rfl ?_
      refine T.region rfl ?_
      refine TO.go rfl rfl rfl (Does.fieldAddr (o' := 0) rfl rfl fo_40_0 rfl) fun _ => ?_
      refine TO.go rfl rfl rfl (Does.loadPts (k := 2) (v := .int .u8 v1.Op.toNat) rfl rfl sc_5 rfl rfl) fun _ => ?_
      refine TO.go rfl rfl rfl (Does.bin (v := .bool (v1.Op == (35 : UInt8))) (vy := .int .u8 (35 : UInt8).toNat) rfl rfl rfl g_int b8_eq) fun _ => ?_
      refine TO.go rfl rfl rfl (Does.assign rfl rfl) fun _ => ?_
      refine TO.end rfl ?_
      refine TQ.then ?_
      refine T.cond rfl (b := (v1.Op == (35 : UInt8))) rfl (fun h329 => ?_) (fun h329 => ?_)
      · replace hm := ite_t hm h329
        refine T.seq rfl ?_
        refine T.region rfl ?_
        refine TO.go rfl rfl rfl (Does.move rfl rfl) fun _ => ?_
        refine TO.go rfl rfl rfl (Does.move rfl rfl) fun _ => ?_
        obtain ⟨v333, h334, hm⟩ := bind_o hm
        refine TO.go rfl rfl rfl (Does.call (vs := [.pointer (some ⟨b0, 0, none⟩), .string ⟨([] : List UInt8).toArray⟩, .string ⟨([v311.T]).toArray⟩]) rfl co_53 rfl (fun w h => f53.ok v0 b0 a101 n102 a104 n105 a107 n108 b110 ([] : List UInt8) ([v311.T]) h334 ((((((((h).ent (Ent.copy 5 rfl)).ent (Ent.copy 7 rfl)).ent (Ent.copy 9 rfl)).ent (Ent.take 1 rfl)).ent (Ent.take 2 rfl)).ent (Ent.take 7 rfl)).ent (Ent.take 7 rfl)))) fun _ => ?_
        refine TO.ent (L' := pts b0 [.slice a101 v0.env.Types.length n102, .slice a104 v0.env.Funcs.length n105, .slice a107 v0.env.Globals.length n108, .bool v0.env.Table, .bool v0.env.Mem, .string ⟨v0.locals.toArray⟩, .pointer (some ⟨b110, 0, none⟩), .string ⟨v0.result.toArray⟩] :: ptr ctrl_Control.rep b110 v333.2.c :: own rU8 a320 1 ([v311.T]) :: pts b315 [.int .u8 v311.T.toNat, .bool v311.Mut] :: pts b115 [.int .u8 v1.Op.toNat, .int .u64 v1.A, .int .u64 v1.B, .slice a112 v1.L.length n113] :: ro api_GlobalType.rep a107 n108 v0.env.Globals :: ro (rI .u32) a104 n105 v0.env.Funcs :: ro api_FuncType.rep a101 n102 v0.env.Types :: ro (rI .u32) a112 n113 v1.L :: R) (fun w h => h) ?_
        refine TO.go rfl rfl rfl (Does.assign rfl rfl) fun _ => ?_
        refine TO.end rfl ?_
        refine TQ.then ?_
        refine T.ret rfl ?_
        refine TQ.passBlockRet ?_
        refine TQ.passThenRet ?_
        refine TQ.result (.inl rfl) rfl (Res.tmp rfl Res.nil) rfl (fun w h => ?_)
        cases hm
        exact ⟨(), rfl, ((((((((((((((((h).ent (Ent.take 2 rfl)).ent (Ent.drop _ _)).ent (Ent.take 2 rfl)).ent (Ent.drop _ _)).ent (Ent.take 2 rfl)).ent (Ent.drop _ _)).ent (Ent.take 2 rfl)).ent (Ent.drop _ _)).ent (Ent.take 2 rfl)).ent (Ent.drop _ _)).ent (Ent.take 2 rfl)).ent (Ent.drop _ _)).ent (Ent.take 2 rfl)).ent (Ent.drop _ _)).ent (Ent.take 1 rfl)).ent (Ent.take 1 rfl)⟩
      · replace hm := ite_f hm h329
        refine T.seq rfl ?_
        refine T.region rfl ?_
        refine TO.go rfl rfl rfl (Does.fieldAddr (o' := 1) rfl rfl fo_62_1 rfl) fun _ => ?_
        refine TO.go rfl rfl rfl (Does.loadPts (k := 1) (v := .bool v311.Mut) rfl rfl sc_4 rfl rfl) fun _ => ?_
        refine TO.go rfl rfl rfl (Does.un (v := .bool (!v311.Mut)) rfl rfl (fun w => rfl)) fun _ => ?_
        refine TO.go rfl rfl rfl (Does.assign rfl rfl) fun _ => ?_
        refine TO.end rfl ?_
        refine TQ.then ?_
        refine T.cond rfl (b := (!v311.Mut)) rfl (fun h335 => ?_) (fun h335 => ?_)
        · replace hm := ite_t hm h335
          refine T.seq rfl ?_
          refine T.region rfl ?_
          refine TO.go rfl rfl rfl (Does.assign (v := .int .i64 24) rfl rfl) fun _ => ?_
          refine TO.end rfl ?_
          refine TQ.then ?_
          refine T.ret rfl ?_
          refine TQ.passBlockRet ?_
          refine TQ.passThenRet ?_
          refine TQ.result (.inl rfl) rfl (Res.tmp rfl Res.nil) rfl (fun w h => ?_)
          cases hm
          exact ⟨(), rfl, (((((((((((((h).ent (Ent.drop _ _)).ent (Ent.drop _ _)).ent (Ent.drop _ _)).ent (Ent.take 2 rfl)).ent (Ent.drop _ _)).ent (Ent.take 2 rfl)).ent (Ent.drop _ _)).ent (Ent.take 2 rfl)).ent (Ent.drop _ _)).ent (Ent.take 2 rfl)).ent (Ent.drop _ _)).ent (Ent.take 1 rfl)).ent (Ent.take 1 rfl)⟩
        · replace hm := ite_f hm h335
          refine T.skip rfl ?_
          refine TQ.passBlockNormal ?_
          refine TQ.then ?_
          refine T.seq rfl ?_
          refine T.region rfl ?_
          refine TO.go rfl rfl rfl (Does.move rfl rfl) fun _ => ?_
          refine TO.go rfl rfl rfl (Does.move rfl rfl) fun _ => ?_
          obtain ⟨v339, h340, hm⟩ := bind_o hm
          refine TO.go rfl rfl rfl (Does.call (vs := [.pointer (some ⟨b0, 0, none⟩), .string ⟨([v311.T]).toArray⟩, .string ⟨([] : List UInt8).toArray⟩]) rfl co_53 rfl (fun w h => f53.ok v0 b0 a101 n102 a104 n105 a107 n108 b110 ([v311.T]) ([] : List UInt8) h340 ((((((((h).ent (Ent.copy 5 rfl)).ent (Ent.copy 7 rfl)).ent (Ent.copy 9 rfl)).ent (Ent.take 1 rfl)).ent (Ent.take 2 rfl)).ent (Ent.take 7 rfl)).ent (Ent.take 7 rfl)))) fun _ => ?_
          refine TO.ent (L' := pts b0 [.slice a101 v0.env.Types.length n102, .slice a104 v0.env.Funcs.length n105, .slice a107 v0.env.Globals.length n108, .bool v0.env.Table, .bool v0.env.Mem, .string ⟨v0.locals.toArray⟩, .pointer (some ⟨b110, 0, none⟩), .string ⟨v0.result.toArray⟩] :: ptr ctrl_Control.rep b110 v339.2.c :: own rU8 a320 1 ([v311.T]) :: pts b315 [.int .u8 v311.T.toNat, .bool v311.Mut] :: pts b115 [.int .u8 v1.Op.toNat, .int .u64 v1.A, .int .u64 v1.B, .slice a112 v1.L.length n113] :: ro api_GlobalType.rep a107 n108 v0.env.Globals :: ro (rI .u32) a104 n105 v0.env.Funcs :: ro api_FuncType.rep a101 n102 v0.env.Types :: ro (rI .u32) a112 n113 v1.L :: R) (fun w h => h) ?_
          refine TO.go rfl rfl rfl (Does.assign rfl rfl) fun _ => ?_
          refine TO.end rfl ?_
          refine TQ.then ?_
          refine T.ret rfl ?_
          refine TQ.result (.inl rfl) rfl (Res.tmp rfl Res.nil) rfl (fun w h => ?_)
          cases hm
          exact ⟨(), rfl, ((((((((((((((((h).ent (Ent.take 2 rfl)).ent (Ent.drop _ _)).ent (Ent.take 2 rfl)).ent (Ent.drop _ _)).ent (Ent.take 2 rfl)).ent (Ent.drop _ _)).ent (Ent.take 2 rfl)).ent (Ent.drop _ _)).ent (Ent.take 2 rfl)).ent (Ent.drop _ _)).ent (Ent.take 2 rfl)).ent (Ent.drop _ _)).ent (Ent.take 2 rfl)).ent (Ent.drop _ _)).ent (Ent.take 1 rfl)).ent (Ent.take 1 rfl)⟩

def f92.j1 (v0 : opstack_Stack) (v1 : Int) (v107 : Bool) : Option opstack_Stack :=
  (if v107 = true then ((sl? v0.list (0 : Int) v1).bind fun v114 => some ({ list := v114 } : opstack_Stack)) else some v0)
/-- (*creel/opstack.Stack).Cut -/
def f92.f (v0 : opstack_Stack) (v1 : Int) : Option opstack_Stack :=
  (if (decide (0 ≤ v1)) = true then f92.j1 v0 v1 (decide (v1 < (v0.list.length : Int))) else f92.j1 v0 v1 false)
set_option maxRecDepth 20000 in
set_option maxHeartbeats 1000000 in
theorem f92.ok {W w : World} {R : List Assn} (v0 : opstack_Stack) (b0 : Nat) (v1 : Int) {r : opstack_Stack} (hm : f92.f v0 v1 = some r) (hs : St W w (ptr opstack_Stack.rep b0 v0 :: R)) :
    Calls Try.prog 92 #[.pointer (some ⟨b0, 0, none⟩), .int .i64 v1] w (fun e w' => ∃ x : Unit, e = .returned (.tuple #[]) ∧ St W w' (ptr opstack_Stack.rep b0 r :: R)) := by
  unfold f92.f at hm
  refine calls_sym (vs := [.pointer (some ⟨b0, 0, none⟩), .int .i64 v1]) Try.func92 rfl rfl hs ?_
  refine T.seqJ (X := Bool) rfl (fun x => [(14, .bool x), (1, .int .i64 v1), (0, .pointer (some ⟨b0, 0, none⟩))]) (fun x => ptr opstack_Stack.rep b0 v0 :: R) (fun x => f92.j1 v0 v1 x = some r) ?_ ?_
  · rintro v107 hm
    try dsimp only
    unfold f92.j1 at hm
    refine T.cond rfl (b := v107) rfl (fun h109 => ?_) (fun h109 => ?_)
    · replace hm := ite_t hm h109
      refine T.region rfl ?_
      refine TO.go rfl rfl rfl (Does.move rfl rfl) fun _ => ?_
      refine TO.go rfl rfl rfl (Does.move rfl rfl) fun _ => ?_
      refine TO.go rfl rfl rfl (Does.nilCheck rfl rfl) fun _ => ?_
      refine TO.go rfl rfl rfl (Does.fieldAddr (o' := 0) rfl rfl fo_110_0 rfl) fun _ => ?_
      refine TO.st (X := List Value) (p := fun _ => True) (fun w h => let ⟨cs, h⟩ := open_ptr (h); ⟨cs, trivial, h⟩) ?_
      intro cs113 _
      refine TO.st (fun w h => opstack_Stack.open h) ?_
      rintro ⟨a110, n111⟩ rfl
      refine TO.go rfl rfl rfl (Does.loadPts (k := 1) (v := .slice a110 v0.list.length n111) rfl rfl sc_107 rfl rfl) fun _ => ?_
      refine TO.go rfl rfl rfl (Does.move rfl rfl) fun _ => ?_
      obtain ⟨v114, h115, hm⟩ := bind_o hm
      refine TO.go rfl rfl rfl (Does.sliceOwn (r := rU8) (k := 0) rfl rfl rfl rfl sl_107 rfl h115) fun _ => ?_
      refine TO.ent (L' := own rU8 (subA a110 ((0 : Int)).toNat n111 rU8.n) (n111 - ((0 : Int)).toNat) v114 :: pts b0 [.slice a110 v0.list.length n111] :: R) (fun w h => h) ?_
      refine TO.go rfl rfl rfl (Does.nilCheck rfl rfl) fun _ => ?_
      refine TO.go rfl rfl rfl (Does.fieldAddr (o' := 0) rfl rfl fo_110_0 rfl) fun _ => ?_
      refine TO.go0 rfl rfl (Does.storePts (k := 1) (vs := [.slice (subA a110 ((0 : Int)).toNat n111 rU8.n) v114.length (n111 - ((0 : Int)).toNat)]) (cs' := [.slice (subA a110 ((0 : Int)).toNat n111 rU8.n) v114.length (n111 - ((0 : Int)).toNat)]) rfl rfl rfl rfl rfl cn_107 rfl rfl rfl rfl) fun _ => ?_
      refine TO.ent (L' := own rU8 (subA a110 ((0 : Int)).toNat n111 rU8.n) (n111 - ((0 : Int)).toNat) v114 :: pts b0 [.slice (subA a110 ((0 : Int)).toNat n111 rU8.n) v114.length (n111 - ((0 : Int)).toNat)] :: R) (fun w h => h) ?_
      refine TO.end rfl ?_
      refine TQ.result (.inr rfl) rfl Res.nil rfl (fun w h => ?_)
      cases hm
      exact ⟨(), rfl, shut_ptr (opstack_Stack.shut (x := ({ list := v114 } : opstack_Stack)) ((subA a110 ((0 : Int)).toNat n111 rU8.n), (n111 - ((0 : Int)).toNat)) (((h).ent (Ent.take 1 rfl)).ent (Ent.take 1 rfl)))⟩
    · replace hm := ite_f hm h109
      refine T.skip rfl ?_
      refine TQ.result (.inr rfl) rfl Res.nil rfl (fun w h => ?_)
      cases hm
      exact ⟨(), rfl, h⟩
  · intro h108
    refine T.region rfl ?_
    refine TO.go rfl rfl rfl (Does.move rfl rfl) fun _ => ?_
    refine TO.go rfl rfl rfl (Does.bin (v := .bool (decide (0 ≤ v1))) (vy := .int .i64 0) rfl rfl rfl g_int b_ge) fun _ => ?_
    refine TO.go rfl rfl rfl (Does.move rfl rfl) fun _ => ?_
    by_cases h116 : (decide (0 ≤ v1)) = true
    · replace hm := ite_t hm h116
      refine TO.go rfl rfl rfl (Does.move (.inl ⟨_, _, rfl, rfl, by rw [h116]; rfl⟩) rfl) fun _ => ?_
      refine TO.go rfl rfl rfl (Does.move (.inl ⟨_, _, rfl, rfl, by rw [h116]; rfl⟩) rfl) fun _ => ?_
      refine TO.go rfl rfl rfl (Does.nilCheck (.inl ⟨_, _, rfl, rfl, by rw [h116]; rfl⟩) rfl) fun _ => ?_
      refine TO.go rfl rfl rfl (Does.fieldAddr (o' := 0) (.inl ⟨_, _, rfl, rfl, by rw [h116]; rfl⟩) rfl fo_110_0 rfl) fun _ => ?_
      refine TO.st (X := List Value) (p := fun _ => True) (fun w h => let ⟨cs, h⟩ := open_ptr (h); ⟨cs, trivial, h⟩) ?_
      intro cs120 _
      refine TO.st (fun w h => opstack_Stack.open h) ?_
      rintro ⟨a117, n118⟩ rfl
      refine TO.go rfl rfl rfl (Does.loadPts (k := 1) (v := .slice a117 v0.list.length n118) (.inl ⟨_, _, rfl, rfl, by rw [h116]; rfl⟩) rfl sc_107 rfl rfl) fun _ => ?_
      refine TO.go rfl rfl rfl (Does.lenSl (.inl ⟨_, _, rfl, rfl, by rw [h116]; rfl⟩) rfl sl_107) fun _ => ?_
      refine TO.go rfl rfl rfl (Does.bin (v := .bool (decide (v1 < (v0.list.length : Int)))) (.inl ⟨_, _, rfl, rfl, by rw [h116]; rfl⟩) rfl rfl g_int b_lt) fun _ => ?_
      refine TO.go rfl rfl rfl (Does.pickT rfl rfl h116 rfl) fun _ => ?_
      refine TO.end rfl ?_
      exact TQ.then (T.sub (h108 (decide (v1 < (v0.list.length : Int))) hm) (Sub.cons rfl (Sub.cons rfl (Sub.cons rfl (Sub.nil _)))) (fun w h => shut_ptr (opstack_Stack.shut (x := v0) (a117, n118) (((h).ent (Ent.take 1 rfl)).ent (Ent.take 1 rfl)))))
    · replace h116 := bool_f h116
      replace hm := ite_f hm h116
      refine TO.go rfl rfl rfl (Does.not (.inl ⟨_, _, rfl, rfl, by rw [h116]; rfl⟩)) fun _ => ?_
      refine TO.go rfl rfl rfl (Does.not (.inl ⟨_, _, rfl, rfl, by rw [h116]; rfl⟩)) fun _ => ?_
      refine TO.go rfl rfl rfl (Does.not (.inl ⟨_, _, rfl, rfl, by rw [h116]; rfl⟩)) fun _ => ?_
      refine TO.go rfl rfl rfl (Does.not (.inl ⟨_, _, rfl, rfl, by rw [h116]; rfl⟩)) fun _ => ?_
      refine TO.go rfl rfl rfl (Does.not (.inl ⟨_, _, rfl, rfl, by rw [h116]; rfl⟩)) fun _ => ?_
      refine TO.go rfl rfl rfl (Does.not (.inl ⟨_, _, rfl, rfl, by rw [h116]; rfl⟩)) fun _ => ?_
      refine TO.go rfl rfl rfl (Does.not (.inl ⟨_, _, rfl, rfl, by rw [h116]; rfl⟩)) fun _ => ?_
      refine TO.go rfl rfl rfl (Does.pickF (v := .bool false) rfl rfl h116 rfl) fun _ => ?_
      refine TO.end rfl ?_
      exact TQ.then (T.sub (h108 false hm) (Sub.cons rfl (Sub.cons rfl (Sub.cons rfl (Sub.nil _)))) (fun w h => h))

end Go.Proofs.Ytfonekhhbmlkbaa
