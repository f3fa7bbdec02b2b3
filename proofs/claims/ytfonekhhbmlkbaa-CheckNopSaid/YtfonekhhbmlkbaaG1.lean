/- Mirrors of functions, and that the Go functions compute them. Printed by gofun.py. -/
import Derived.Test.YtfonekhhbmlkbaaG0
set_option linter.unusedVariables false
set_option linter.unusedSimpArgs false
namespace Go.Proofs.Ytfonekhhbmlkbaa
open Go Go.Sym
def f14.l2 : Nat → ((List UInt8) → Int → Option ((List UInt8) × Int)) → Int → api_Local → (List UInt8) → Int → Option ((List UInt8) × Int)
  | 0, _, _, _, _, _ => none
  | k + 1, K_l1, v374, v424, v454, v460 => (if (decide (v460 < v424.N)) = true then ((ap 1 v454 ([v424.T])).bind fun v468 => f14.l2 k K_l1 v374 v424 v468 (IntKind.u32.wrap (v460 + 1))) else K_l1 v454 (IntKind.i64.wrap (v374 + 1)))
def f14.l1 : Nat → (List api_Local) → (List UInt8) → Int → Option ((List UInt8) × Int)
  | 0, _, _, _ => none
  | k + 1, v1, v369, v374 => (if (decide (v374 < (v1.length : Int))) = true then ((at? v1 v374).bind fun v424 => f14.l2 rounds (f14.l1 k v1) v374 v424 v369 0) else some (v369, 0))
/-- creel/bodies.Types -/
def f14.f (v0 : api_FuncType) (v1 : List api_Local) : Option ((List UInt8) × Int) :=
  ((f42.f v1).bind fun v104 => (if (v104.2 != 0) = true then some (([] : List UInt8), v104.2) else ((mk? 1 0 (IntKind.i64.wrap ((v0.Params.length : Int) + v104.1)) (0 : UInt8)).bind fun v108 => ((ap 1 v108 v0.Params).bind fun v113 => f14.l1 rounds v1 v113 0))))
set_option maxRecDepth 20000 in
set_option maxHeartbeats 1000000 in
theorem f14.ok {W w : World} {R : List Assn} (v0 : api_FuncType) (v1 : List api_Local) (a1 : Option Addr) (n1 : Nat) {r : (List UInt8) × Int} (hm : f14.f v0 v1 = some r) (hs : St W w (ro api_Local.rep a1 n1 v1 :: R)) :
    Calls Try.prog 14 #[.agg #[.string ⟨v0.Params.toArray⟩, .string ⟨v0.Results.toArray⟩], .slice a1 v1.length n1] w (fun e w' => ∃ x : Unit, e = .returned (.tuple #[.string ⟨r.1.toArray⟩, .int .i64 r.2]) ∧ St W w' (R)) := by
  unfold f14.f at hm
  refine calls_sym (vs := [.agg #[.string ⟨v0.Params.toArray⟩, .string ⟨v0.Results.toArray⟩], .slice a1 v1.length n1]) Try.func14 rfl rfl hs ?_
  refine T.seq rfl ?_
  refine T.region rfl ?_
  refine TO.go rfl rfl rfl (Does.box (vs := [.string ⟨v0.Params.toArray⟩, .string ⟨v0.Results.toArray⟩]) rfl rfl rfl) fun b101 => ?_
  refine TO.ent (L' := pts b101 [.string ⟨v0.Params.toArray⟩, .string ⟨v0.Results.toArray⟩] :: ro api_Local.rep a1 n1 v1 :: R) (fun w h => h) ?_
  refine TO.go rfl rfl rfl (Does.assign (v := .string ⟨([] : List UInt8).toArray⟩) rfl rfl) fun _ => ?_
  refine TO.go rfl rfl rfl (Does.assign (v := .int .i64 0) rfl rfl) fun _ => ?_
  refine TO.end rfl ?_
  refine TQ.then ?_
  refine T.seq rfl ?_
  refine T.region rfl ?_
  refine TO.go rfl rfl rfl (Does.move rfl rfl) fun _ => ?_
  obtain ⟨v104, h105, hm⟩ := bind_o hm
  refine TO.go rfl rfl rfl (Does.conseq (Does.call (vs := [.slice a1 v1.length n1]) rfl co_42 rfl (fun w h => f42.ok v1 a1 n1 h105 ((h).ent (Ent.copy 1 rfl)))) (fun w h => h) (fun x w h => ((h).ent (Ent.take 1 rfl)).ent (Ent.take 1 rfl))) fun _ => ?_
  refine TO.go rfl rfl rfl (Does.move rfl rfl) fun _ => ?_
  refine TO.go rfl rfl rfl (Does.extract rfl rfl rfl) fun _ => ?_
  refine TO.go rfl rfl rfl (Does.extract rfl rfl rfl) fun _ => ?_
  refine TO.go rfl rfl rfl (Does.assign rfl rfl) fun _ => ?_
  refine TO.go rfl rfl rfl (Does.assign rfl rfl) fun _ => ?_
  refine TO.end rfl ?_
  refine TQ.then ?_
  refine T.seq rfl ?_
  refine T.seq rfl ?_
  refine T.region rfl ?_
  refine TO.go rfl rfl rfl (Does.move rfl rfl) fun _ => ?_
  refine TO.go rfl rfl rfl (Does.bin (v := .bool (v104.2 != 0)) (vy := .int .i64 0) rfl rfl rfl g_int b_ne) fun _ => ?_
  refine TO.end rfl ?_
  refine TQ.then ?_
  refine T.cond rfl (b := (v104.2 != 0)) rfl (fun h107 => ?_) (fun h107 => ?_)
  · replace hm := ite_t hm h107
    refine T.seq rfl ?_
    refine T.region rfl ?_
    refine TO.go rfl rfl rfl (Does.move rfl rfl) fun _ => ?_
    refine TO.go rfl rfl rfl (Does.assign (v := .string ⟨([] : List UInt8).toArray⟩) rfl rfl) fun _ => ?_
    refine TO.go rfl rfl rfl (Does.assign rfl rfl) fun _ => ?_
    refine TO.end rfl ?_
    refine TQ.then ?_
    refine T.ret rfl ?_
    refine TQ.passThenRet ?_
    refine TQ.result (.inl rfl) rfl (Res.tmp rfl (Res.tmp rfl Res.nil)) rfl (fun w h => ?_)
    cases hm
    exact ⟨(), rfl, ((h).ent (Ent.drop _ _)).ent (Ent.drop _ _)⟩
  · replace hm := ite_f hm h107
    refine T.skip rfl ?_
    refine TQ.then ?_
    refine T.seq rfl ?_
    refine T.region rfl ?_
    refine TO.go rfl rfl rfl (Does.fieldAddr (o' := 0) rfl rfl fo_28_0 rfl) fun _ => ?_
    refine TO.go rfl rfl rfl (Does.loadPts (k := 0) (v := .string ⟨v0.Params.toArray⟩) rfl rfl sc_9 rfl rfl) fun _ => ?_
    refine TO.go rfl rfl rfl (Does.lenStr (l := v0.Params) rfl rfl ss_9) fun _ => ?_
    refine TO.go rfl rfl rfl (Does.move rfl rfl) fun _ => ?_
    refine TO.go rfl rfl rfl (Does.bin (v := .int .i64 (IntKind.i64.wrap ((v0.Params.length : Int) + v104.1))) rfl rfl rfl g_int b_add) fun _ => ?_
    obtain ⟨v108, h109, hm⟩ := bind_o hm
    refine TO.go rfl rfl rfl (Does.makeSlice (r := rU8) (z := (0 : UInt8)) rfl rfl rfl sl_107 zn_5 rfl rfl (fun G => Flat.rel _ G emp) h109) (fun ⟨a110, n111⟩ => ?_)
    refine TO.ent (L' := own rU8 a110 n111 v108 :: pts b101 [.string ⟨v0.Params.toArray⟩, .string ⟨v0.Results.toArray⟩] :: ro api_Local.rep a1 n1 v1 :: R) (fun w h => h) ?_
    refine TO.go rfl rfl rfl (Does.assign rfl rfl) fun _ => ?_
    refine TO.end rfl ?_
    refine TQ.then ?_
    refine T.seq rfl ?_
    refine T.region rfl ?_
    refine TO.go rfl rfl rfl (Does.move rfl rfl) fun _ => ?_
    refine TO.go rfl rfl rfl (Does.fieldAddr (o' := 0) rfl rfl fo_28_0 rfl) fun _ => ?_
    refine TO.go rfl rfl rfl (Does.loadPts (k := 1) (v := .string ⟨v0.Params.toArray⟩) rfl rfl sc_9 rfl rfl) fun _ => ?_
    obtain ⟨v113, h114, hm⟩ := bind_o hm
    refine TO.go rfl rfl rfl (Does.append (r := rU8) (k := 0) (l := v108) (l2 := v0.Params) rfl rfl rfl sl_107 zn_5 rfl rfl (Srcs.str ss_9) h114) (fun ⟨a115, n116⟩ => ?_)
    refine TO.ent (L' := own rU8 a115 n116 v113 :: pts b101 [.string ⟨v0.Params.toArray⟩, .string ⟨v0.Results.toArray⟩] :: ro api_Local.rep a1 n1 v1 :: R) (fun w h => h) ?_
    refine TO.go rfl rfl rfl (Does.assign rfl rfl) fun _ => ?_
    refine TO.end rfl ?_
    refine TQ.then ?_
    refine T.seq rfl ?_
    refine T.seq rfl ?_
    refine T.region rfl ?_
    refine TO.go rfl rfl rfl (Does.move rfl rfl) fun _ => ?_
    refine TO.go rfl rfl rfl (Does.lenSl rfl rfl sl_29) fun _ => ?_
    refine TO.go rfl rfl rfl (Does.move (v := .int .i64 0) rfl rfl) fun _ => ?_
    refine TO.end rfl ?_
    refine TQ.then ?_
    refine T.block rfl ?_
    refine T.loopJ (X := (List UInt8) × (Option Addr) × Nat × Int) rfl rounds (fun x => [(31, .int .i64 x.2.2.2), (30, .int .i64 (v1.length : Int)), (29, .slice a1 v1.length n1), (8, .slice x.2.1 x.1.length x.2.2.1)]) (fun x => own rU8 x.2.1 x.2.2.1 x.1 :: ro api_Local.rep a1 n1 v1 :: R) (fun n x => f14.l1 n v1 x.1 x.2.2.2 = some r) (fun x h => by simp [f14.l1] at h) ?_ (v113, a115, n116, 0) hm (Sub.cons rfl (Sub.cons rfl (Sub.cons rfl (Sub.cons rfl (Sub.nil _))))) (fun w h => ((((((h).ent (Ent.copy 2 rfl)).ent (Ent.take 2 rfl)).ent (Ent.drop _ _)).ent (Ent.take 2 rfl)).ent (Ent.drop _ _)).ent (Ent.take 1 rfl))
    intro k375 h376
    rintro ⟨v369, a370, n371, v374⟩ hm
    try dsimp only
    rw [f14.l1.eq_2] at hm
    refine T.seq rfl ?_
    refine T.region rfl ?_
    refine TO.go rfl rfl rfl (Does.bin (v := .bool (decide (v374 < (v1.length : Int)))) rfl rfl rfl g_int b_lt) fun _ => ?_
    refine TO.end rfl ?_
    refine TQ.then ?_
    refine T.seq rfl ?_
    refine T.cond rfl (b := (decide (v374 < (v1.length : Int)))) rfl (fun h378 => ?_) (fun h378 => ?_)
    · replace hm := ite_t hm h378
      refine T.skip rfl ?_
      refine TQ.then ?_
      refine T.seq rfl ?_
      refine T.block rfl ?_
      refine T.seq rfl ?_
      refine T.region rfl ?_
      obtain ⟨v424, h425, hm⟩ := bind_o hm
      refine TO.go rfl rfl rfl (Does.indexSl (r := api_Local.rep) (k := 1) rfl rfl rfl sl_29 rfl Arrd.ro h425) fun _ => ?_
      refine TO.go rfl rfl rfl (Does.loadFlatN (r := api_Local.rep) (k := 1) (f := 0) (vs := [.int .u32 v424.N, .int .u8 v424.T.toNat]) rfl rfl ag_104 rfl Arrd.ro (at?_out h425).2.2 rfl rfl) fun _ => ?_
      refine TO.go rfl rfl rfl (Does.alloc rfl zn_104) fun b426 => ?_
      refine TO.ent (L' := pts b426 [.int .u32 0, .int .u8 (0 : UInt8).toNat] :: own rU8 a370 n371 v369 :: ro api_Local.rep a1 n1 v1 :: R) (fun w h => h) ?_
      refine TO.go0 rfl rfl (Does.storePts (k := 0) (vs := [.int .u32 v424.N, .int .u8 v424.T.toNat]) (cs' := [.int .u32 v424.N, .int .u8 v424.T.toNat]) rfl rfl rfl rfl rfl cn_104 rfl rfl rfl rfl) fun _ => ?_
      refine TO.ent (L' := pts b426 [.int .u32 v424.N, .int .u8 v424.T.toNat] :: own rU8 a370 n371 v369 :: ro api_Local.rep a1 n1 v1 :: R) (fun w h => h) ?_
      refine TO.end rfl ?_
      refine TQ.then ?_
      refine T.seq rfl ?_
      refine T.region rfl ?_
      refine TO.go rfl rfl rfl (Does.fieldAddr (o' := 0) rfl rfl fo_104_0 rfl) fun _ => ?_
      refine TO.go rfl rfl rfl (Does.loadPts (k := 0) (v := .int .u32 v424.N) rfl rfl sc_48 rfl rfl) fun _ => ?_
      refine TO.go rfl rfl rfl (Does.move (v := .int .u32 0) rfl rfl) fun _ => ?_
      refine TO.end rfl ?_
      refine TQ.then ?_
      refine T.block rfl ?_
      refine T.loopJ (X := (List UInt8) × (Option Addr) × Nat × Int) rfl rounds (fun x => [(37, .int .u32 x.2.2.2), (36, .int .u32 v424.N), (31, .int .i64 v374), (30, .int .i64 (v1.length : Int)), (29, .slice a1 v1.length n1), (10, .pointer (some ⟨b426, 0, none⟩)), (8, .slice x.2.1 x.1.length x.2.2.1)]) (fun x => own rU8 x.2.1 x.2.2.1 x.1 :: pts b426 [.int .u32 v424.N, .int .u8 v424.T.toNat] :: ro api_Local.rep a1 n1 v1 :: R) (fun n x => f14.l2 n (f14.l1 k375 v1) v374 v424 x.1 x.2.2.2 = some r) (fun x h => by simp [f14.l2] at h) ?_ (v369, a370, n371, 0) hm (Sub.cons rfl (Sub.cons rfl (Sub.cons rfl (Sub.cons rfl (Sub.cons rfl (Sub.cons rfl (Sub.cons rfl (Sub.nil _)))))))) (fun w h => (((((h).ent (Ent.copy 2 rfl)).ent (Ent.take 3 rfl)).ent (Ent.drop _ _)).ent (Ent.take 1 rfl)).ent (Ent.take 2 rfl))
      intro k461 h462
      rintro ⟨v454, a455, n456, v460⟩ hm
      try dsimp only
      rw [f14.l2.eq_2] at hm
      refine T.seq rfl ?_
      refine T.region rfl ?_
      refine TO.go rfl rfl rfl (Does.bin (v := .bool (decide (v460 < v424.N))) rfl rfl rfl g_int b_lt) fun _ => ?_
      refine TO.end rfl ?_
      refine TQ.then ?_
      refine T.seq rfl ?_
      refine T.cond rfl (b := (decide (v460 < v424.N))) rfl (fun h464 => ?_) (fun h464 => ?_)
      · replace hm := ite_t hm h464
        refine T.skip rfl ?_
        refine TQ.then ?_
        refine T.seq rfl ?_
        refine T.block rfl ?_
        refine T.region rfl ?_
        refine TO.go rfl rfl rfl (Does.move rfl rfl) fun _ => ?_
        refine TO.go rfl rfl rfl (Does.fieldAddr (o' := 1) rfl rfl fo_104_1 rfl) fun _ => ?_
        refine TO.go rfl rfl rfl (Does.loadPts (k := 1) (v := .int .u8 v424.T.toNat) rfl rfl sc_5 rfl rfl) fun _ => ?_
        refine TO.go rfl rfl rfl (Does.buildSlice (r := rU8) (l := [v424.T]) (cs := [.int .u8 v424.T.toNat]) (vs := [(0, .int .u8 v424.T.toNat)]) rfl rfl sl_107 (fun w => by kernel_rfl) rfl rfl (fun w h => (flat_add (r := rU8) v424.T rfl (h)).ent (Ent.unstar (L := [_])))) fun a466 => ?_
        refine TO.ent (L' := own rU8 a466 1 ([v424.T]) :: own rU8 a455 n456 v454 :: pts b426 [.int .u32 v424.N, .int .u8 v424.T.toNat] :: ro api_Local.rep a1 n1 v1 :: R) (fun w h => h) ?_
        obtain ⟨v468, h469, hm⟩ := bind_o hm
        refine TO.go rfl rfl rfl (Does.append (r := rU8) (k := 1) (l := v454) (l2 := [v424.T]) rfl rfl rfl sl_107 zn_5 rfl rfl (Srcs.sl sl_107 (k := 0) rfl Arrd.own) h469) (fun ⟨a470, n471⟩ => ?_)
        refine TO.ent (L' := own rU8 a466 1 ([v424.T]) :: own rU8 a470 n471 v468 :: pts b426 [.int .u32 v424.N, .int .u8 v424.T.toNat] :: ro api_Local.rep a1 n1 v1 :: R) (fun w h => h) ?_
        refine TO.go rfl rfl rfl (Does.assign rfl rfl) fun _ => ?_
        refine TO.end rfl ?_
        refine TQ.passBlockNormal ?_
        refine TQ.then ?_
        refine T.region rfl ?_
        refine TO.go rfl rfl rfl (Does.bin (v := .int .u32 (IntKind.u32.wrap (v460 + 1))) (vy := .int .u32 1) rfl rfl rfl g_int b_add) fun _ => ?_
        refine TO.go rfl rfl rfl (Does.move rfl rfl) fun _ => ?_
        refine TO.end rfl ?_
        exact TQ.again (TR.sub (h462 (v468, a470, n471, (IntKind.u32.wrap (v460 + 1))) hm) (Sub.cons rfl (Sub.cons rfl (Sub.cons rfl (Sub.cons rfl (Sub.cons rfl (Sub.cons rfl (Sub.cons rfl (Sub.nil _)))))))) (fun w h => (((((((h).ent (Ent.copy 3 rfl)).ent (Ent.take 1 rfl)).ent (Ent.drop _ _)).ent (Ent.take 3 rfl)).ent (Ent.drop _ _)).ent (Ent.take 2 rfl)).ent (Ent.take 2 rfl)))
      · replace hm := ite_f hm h464
        refine T.exit rfl ?_
        refine TQ.passThenExit ?_
        refine TQ.passThenExit ?_
        refine TQ.exitHere ?_
        refine TQ.passBlockNormal ?_
        refine TQ.then ?_
        refine T.region rfl ?_
        refine TO.go rfl rfl rfl (Does.bin (v := .int .i64 (IntKind.i64.wrap (v374 + 1))) (vy := .int .i64 1) rfl rfl rfl g_int b_add) fun _ => ?_
        refine TO.go rfl rfl rfl (Does.move rfl rfl) fun _ => ?_
        refine TO.end rfl ?_
        exact TQ.again (TR.sub (h376 (v454, a455, n456, (IntKind.i64.wrap (v374 + 1))) hm) (Sub.cons rfl (Sub.cons rfl (Sub.cons rfl (Sub.cons rfl (Sub.nil _))))) (fun w h => ((((((h).ent (Ent.copy 2 rfl)).ent (Ent.take 2 rfl)).ent (Ent.drop _ _)).ent (Ent.take 2 rfl)).ent (Ent.drop _ _)).ent (Ent.take 1 rfl)))
    · replace hm := ite_f hm h378
      refine T.exit rfl ?_
      refine TQ.passThenExit ?_
      refine TQ.passThenExit ?_
      refine TQ.exitHere ?_
      refine TQ.then ?_
      refine T.seq rfl ?_
      refine T.region rfl ?_
      refine TO.go rfl rfl rfl (Does.move rfl rfl) fun _ => ?_
      refine TO.go rfl rfl rfl (Does.bytesToStr (k := 0) (l := v369) rfl rfl sl_107 ii_5 ss_9 rfl Arrd.own) fun _ => ?_
      refine TO.go rfl rfl rfl (Does.assign rfl rfl) fun _ => ?_
      refine TO.go rfl rfl rfl (Does.assign (v := .int .i64 0) rfl rfl) fun _ => ?_
      refine TO.end rfl ?_
      refine TQ.then ?_
      refine T.ret rfl ?_
      refine TQ.result (.inl rfl) rfl (Res.tmp rfl (Res.tmp rfl Res.nil)) rfl (fun w h => ?_)
      cases hm
      exact ⟨(), rfl, ((h).ent (Ent.drop _ _)).ent (Ent.drop _ _)⟩

/-- (*creel/opstack.Stack).Len -/
def f65.f (v0 : opstack_Stack) : Option Int :=
  some (v0.list.length : Int)
set_option maxRecDepth 20000 in
set_option maxHeartbeats 1000000 in
theorem f65.ok {W w : World} {R : List Assn} (v0 : opstack_Stack) (b0 : Nat) {r : Int} (hm : f65.f v0 = some r) (hs : St W w (ptr opstack_Stack.rep b0 v0 :: R)) :
    Calls Try.prog 65 #[.pointer (some ⟨b0, 0, none⟩)] w (fun e w' => ∃ x : Unit, e = .returned (.int .i64 r) ∧ St W w' (ptr opstack_Stack.rep b0 v0 :: R)) := by
  unfold f65.f at hm
  refine calls_sym (vs := [.pointer (some ⟨b0, 0, none⟩)]) Try.func65 rfl rfl hs ?_
  refine T.seq rfl ?_
  refine T.region rfl ?_
  refine TO.go rfl rfl rfl (Does.assign (v := .int .i64 0) rfl rfl) fun _ => ?_
  refine TO.end rfl ?_
  refine TQ.then ?_
  refine T.seq rfl ?_
  refine T.region rfl ?_
  refine TO.go rfl rfl rfl (Does.move rfl rfl) fun _ => ?_
  refine TO.go rfl rfl rfl (Does.nilCheck rfl rfl) fun _ => ?_
  refine TO.go rfl rfl rfl (Does.fieldAddr (o' := 0) rfl rfl fo_110_0 rfl) fun _ => ?_
  refine TO.st (X := List Value) (p := fun _ => True) (fun w h => let ⟨cs, h⟩ := open_ptr (h); ⟨cs, trivial, h⟩) ?_
  intro cs104 _
  refine TO.st (fun w h => opstack_Stack.open h) ?_
  rintro ⟨a101, n102⟩ rfl
  refine TO.go rfl rfl rfl (Does.loadPts (k := 1) (v := .slice a101 v0.list.length n102) rfl rfl sc_107 rfl rfl) fun _ => ?_
  refine TO.go rfl rfl rfl (Does.lenSl rfl rfl sl_107) fun _ => ?_
  refine TO.go rfl rfl rfl (Does.assign rfl rfl) fun _ => ?_
  refine TO.end rfl ?_
  refine TQ.then ?_
  refine T.ret rfl ?_
  refine TQ.result (.inl rfl) rfl (Res.tmp rfl Res.nil) rfl (fun w h => ?_)
  cases hm
  exact ⟨(), rfl, shut_ptr (opstack_Stack.shut (x := v0) (a101, n102) (((h).ent (Ent.take 1 rfl)).ent (Ent.take 1 rfl)))⟩

/-- (*creel/ctrl.Control).Open -/
def f45.f (v0 : ctrl_Control) (v1 : UInt8) (v2 : List UInt8) : Option ctrl_Control :=
  ((f65.f v0.Stack).bind fun v127 => ((ap 40 v0.frames ([({ Op := v1, Results := v2, Height := v127, Dead := false } : ctrl_Frame)])).bind fun v135 => some ({ frames := v135, Stack := v0.Stack } : ctrl_Control)))
set_option maxRecDepth 20000 in
set_option maxHeartbeats 1000000 in
theorem f45.ok {W w : World} {R : List Assn} (v0 : ctrl_Control) (b0 : Nat) (v1 : UInt8) (v2 : List UInt8) {r : ctrl_Control} (hm : f45.f v0 v1 v2 = some r) (hs : St W w (ptr ctrl_Control.rep b0 v0 :: R)) :
    Calls Try.prog 45 #[.pointer (some ⟨b0, 0, none⟩), .int .u8 v1.toNat, .string ⟨v2.toArray⟩] w (fun e w' => ∃ x : Unit, e = .returned (.tuple #[]) ∧ St W w' (ptr ctrl_Control.rep b0 r :: R)) := by
  unfold f45.f at hm
  refine calls_sym (vs := [.pointer (some ⟨b0, 0, none⟩), .int .u8 v1.toNat, .string ⟨v2.toArray⟩]) Try.func45 rfl rfl hs ?_
  refine T.st (X := List Value) (p := fun _ => True) (fun w h => let ⟨cs, h⟩ := open_ptr (h); ⟨cs, trivial, h⟩) ?_
  intro cs106 _
  refine T.st (fun w h => ctrl_Control.open h) ?_
  rintro ⟨a101, n102, b104⟩ rfl
  refine T.draw [0, 1, 2, 3, 4, 5, 6, 7, 8, 9, 10, 11, 12, 15, 16] rfl mixed ?_
  refine RA.quiet (i := 0) (v := .pointer (some ⟨b0, 0, none⟩)) PendOK.nil rfl rfl rfl rfl rfl rfl (Does.move rfl rfl) fun h116 => ?_
  refine RA.quiet (i := 1) (v := .pointer (some ⟨b0, 0, none⟩)) h116 rfl rfl rfl rfl rfl rfl (Does.move rfl rfl) fun h117 => ?_
  refine RA.quiet (i := 2) (v := .pointer (some ⟨b0, 0, none⟩)) h117 rfl rfl rfl rfl rfl rfl (Does.nilCheck rfl rfl) fun h118 => ?_
  refine RA.quiet (i := 3) (v := .pointer (some ⟨b0, 0, none⟩)) h118 rfl rfl rfl rfl rfl rfl (Does.fieldAddr (o' := 0) rfl rfl fo_113_0 rfl) fun h119 => ?_
  refine RA.quiet (i := 4) (v := .slice a101 v0.frames.length n102) h119 rfl rfl rfl rfl rfl rfl (Does.loadPts (k := 2) (v := .slice a101 v0.frames.length n102) rfl rfl sc_111 rfl rfl) fun h120 => ?_
  refine RA.quiet (i := 5) (v := .int .u8 v1.toNat) h120 rfl rfl rfl rfl rfl rfl (Does.move rfl rfl) fun h121 => ?_
  refine RA.quiet (i := 6) (v := .string ⟨v2.toArray⟩) h121 rfl rfl rfl rfl rfl rfl (Does.move rfl rfl) fun h122 => ?_
  refine RA.quiet (i := 7) (v := .pointer (some ⟨b0, 0, none⟩)) h122 rfl rfl rfl rfl rfl rfl (Does.move rfl rfl) fun h123 => ?_
  refine RA.quiet (i := 8) (v := .pointer (some ⟨b0, 0, none⟩)) h123 rfl rfl rfl rfl rfl rfl (Does.nilCheck rfl rfl) fun h124 => ?_
  refine RA.quiet (i := 9) (v := .pointer (some ⟨b0, 1, none⟩)) h124 rfl rfl rfl rfl rfl rfl (Does.fieldAddr (o' := 1) rfl rfl fo_113_1 rfl) fun h125 => ?_
  refine RA.quiet (i := 10) (v := .pointer (some ⟨b104, 0, none⟩)) h125 rfl rfl rfl rfl rfl rfl (Does.loadPts (k := 2) (v := .pointer (some ⟨b104, 0, none⟩)) rfl rfl sc_108 rfl rfl) fun h126 => ?_
  obtain ⟨v127, h128, hm⟩ := bind_o hm
  refine RA.quiet (i := 11) (v := .int .i64 v127) h126 rfl rfl rfl rfl rfl rfl (Does.conseq (Does.call (vs := [.pointer (some ⟨b104, 0, none⟩)]) rfl co_65 rfl (fun w h => f65.ok v0.Stack b104 h128 (h))) (fun w h => h) (fun x w h => (((h).ent (Ent.take 2 rfl)).ent (Ent.take 2 rfl)).ent (Ent.take 2 rfl))) fun h129 => ?_
  refine RA.quiet (i := 12) (v := .agg #[.int .u8 v1.toNat, .string ⟨v2.toArray⟩, .int .i64 v127, .bool false]) h129 rfl rfl rfl rfl rfl rfl (Does.build (v := .agg #[.int .u8 v1.toNat, .string ⟨v2.toArray⟩, .int .i64 v127, .bool false]) (vs := [(0, .int .u8 v1.toNat), (1, .string ⟨v2.toArray⟩), (2, .int .i64 v127)]) rfl rfl (fun w => by kernel_rfl)) fun h130 => ?_
  refine RA.eff (k := 13) (pend' := [(11, .int .i64 v127), (10, .pointer (some ⟨b104, 0, none⟩)), (9, .pointer (some ⟨b0, 1, none⟩)), (8, .pointer (some ⟨b0, 0, none⟩)), (7, .pointer (some ⟨b0, 0, none⟩)), (6, .string ⟨v2.toArray⟩), (5, .int .u8 v1.toNat), (4, .slice a101 v0.frames.length n102), (3, .pointer (some ⟨b0, 0, none⟩)), (2, .pointer (some ⟨b0, 0, none⟩)), (1, .pointer (some ⟨b0, 0, none⟩)), (0, .pointer (some ⟨b0, 0, none⟩))]) (by kernel_rfl) h130 rfl (.inl ⟨_, rfl, rfl, fun _ => rfl⟩) rfl (by kernel_rfl) (Does.buildSlice (r := ctrl_Frame.rep) (l := [({ Op := v1, Results := v2, Height := v127, Dead := false } : ctrl_Frame)]) (cs := [.int .u8 v1.toNat, .string ⟨v2.toArray⟩, .int .i64 v127, .bool false]) (vs := [(0, .agg #[.int .u8 v1.toNat, .string ⟨v2.toArray⟩, .int .i64 v127, .bool false])]) rfl rfl sl_111 (fun w => by kernel_rfl) rfl rfl (fun w h => (flat_add (r := ctrl_Frame.rep) ({ Op := v1, Results := v2, Height := v127, Dead := false } : ctrl_Frame) rfl (h)).ent (Ent.unstar (L := [_])))) rfl (fun a132 => (List.forall_mem_cons.2 ⟨⟨_, rfl, Does.conseq (Does.call (vs := [.pointer (some ⟨b104, 0, none⟩)]) rfl co_65 rfl (fun w h => f65.ok v0.Stack b104 h128 ((h).ent (Ent.take 1 rfl)))) (fun w h => h) (fun x w h => ((((h).ent (Ent.take 3 rfl)).ent (Ent.take 3 rfl)).ent (Ent.take 2 rfl)).ent (Ent.take 3 rfl))⟩, (List.forall_mem_cons.2 ⟨⟨_, rfl, Does.loadPts (k := 3) (v := .pointer (some ⟨b104, 0, none⟩)) rfl rfl sc_108 rfl rfl⟩, (List.forall_mem_cons.2 ⟨⟨_, rfl, Does.fieldAddr (o' := 1) rfl rfl fo_113_1 rfl⟩, (List.forall_mem_cons.2 ⟨⟨_, rfl, Does.nilCheck rfl rfl⟩, (List.forall_mem_cons.2 ⟨⟨_, rfl, Does.move rfl rfl⟩, (List.forall_mem_cons.2 ⟨⟨_, rfl, Does.move rfl rfl⟩, (List.forall_mem_cons.2 ⟨⟨_, rfl, Does.move rfl rfl⟩, (List.forall_mem_cons.2 ⟨⟨_, rfl, Does.loadPts (k := 3) (v := .slice a101 v0.frames.length n102) rfl rfl sc_111 rfl rfl⟩, (List.forall_mem_cons.2 ⟨⟨_, rfl, Does.fieldAddr (o' := 0) rfl rfl fo_113_0 rfl⟩, (List.forall_mem_cons.2 ⟨⟨_, rfl, Does.nilCheck rfl rfl⟩, (List.forall_mem_cons.2 ⟨⟨_, rfl, Does.move rfl rfl⟩, (List.forall_mem_cons.2 ⟨⟨_, rfl, Does.move rfl rfl⟩, (fun _ h => by cases h)⟩)⟩)⟩)⟩)⟩)⟩)⟩)⟩)⟩)⟩)⟩)⟩)) (fun a132 h133 => ?_)
  obtain ⟨v135, h136, hm⟩ := bind_o hm
  refine RA.eff (k := 14) (pend' := [(10, .pointer (some ⟨b104, 0, none⟩)), (9, .pointer (some ⟨b0, 1, none⟩)), (8, .pointer (some ⟨b0, 0, none⟩)), (7, .pointer (some ⟨b0, 0, none⟩)), (6, .string ⟨v2.toArray⟩), (5, .int .u8 v1.toNat), (3, .pointer (some ⟨b0, 0, none⟩)), (2, .pointer (some ⟨b0, 0, none⟩)), (1, .pointer (some ⟨b0, 0, none⟩)), (0, .pointer (some ⟨b0, 0, none⟩))]) (by kernel_rfl) h133 rfl (.inl ⟨_, rfl, rfl, fun _ => rfl⟩) rfl (by kernel_rfl) (Does.append (r := ctrl_Frame.rep) (k := 2) (l := v0.frames) (l2 := [({ Op := v1, Results := v2, Height := v127, Dead := false } : ctrl_Frame)]) rfl rfl rfl sl_111 zn_136 rfl rfl (Srcs.sl sl_111 (k := 0) rfl Arrd.own) h136) rfl (fun ⟨a137, n138⟩ => (List.forall_mem_cons.2 ⟨⟨_, rfl, Does.loadPts (k := 3) (v := .pointer (some ⟨b104, 0, none⟩)) rfl rfl sc_108 rfl rfl⟩, (List.forall_mem_cons.2 ⟨⟨_, rfl, Does.fieldAddr (o' := 1) rfl rfl fo_113_1 rfl⟩, (List.forall_mem_cons.2 ⟨⟨_, rfl, Does.nilCheck rfl rfl⟩, (List.forall_mem_cons.2 ⟨⟨_, rfl, Does.move rfl rfl⟩, (List.forall_mem_cons.2 ⟨⟨_, rfl, Does.move rfl rfl⟩, (List.forall_mem_cons.2 ⟨⟨_, rfl, Does.move rfl rfl⟩, (List.forall_mem_cons.2 ⟨⟨_, rfl, Does.fieldAddr (o' := 0) rfl rfl fo_113_0 rfl⟩, (List.forall_mem_cons.2 ⟨⟨_, rfl, Does.nilCheck rfl rfl⟩, (List.forall_mem_cons.2 ⟨⟨_, rfl, Does.move rfl rfl⟩, (List.forall_mem_cons.2 ⟨⟨_, rfl, Does.move rfl rfl⟩, (fun _ h => by cases h)⟩)⟩)⟩)⟩)⟩)⟩)⟩)⟩)⟩)⟩)) (fun ⟨a137, n138⟩ h139 => ?_)
  refine RA.quiet (i := 15) (v := .pointer (some ⟨b0, 0, none⟩)) h139 rfl rfl rfl rfl rfl rfl (Does.nilCheck rfl rfl) fun h140 => ?_
  refine RA.quiet (i := 16) (v := .pointer (some ⟨b0, 0, none⟩)) h140 rfl rfl rfl rfl rfl rfl (Does.fieldAddr (o' := 0) rfl rfl fo_113_0 rfl) fun h141 => ?_
  refine RA.eff (k := 17) (pend' := [(15, .pointer (some ⟨b0, 0, none⟩))]) (by kernel_rfl) h141 rfl (.inr ⟨rfl, fun _ => rfl⟩) rfl (by kernel_rfl) (Does.storePts (k := 3) (vs := [.slice a137 v135.length n138]) (cs' := [.slice a137 v135.length n138, .pointer (some ⟨b104, 0, none⟩)]) rfl rfl rfl rfl rfl cn_111 rfl rfl rfl rfl) rfl (fun _ => (List.forall_mem_cons.2 ⟨⟨_, rfl, Does.nilCheck rfl rfl⟩, (fun _ h => by cases h)⟩)) (fun _ h142 => ?_)
  refine RA.done (by kernel_rfl) h142 rfl ?_
  refine TQ.result (.inr rfl) rfl Res.nil rfl (fun w h => ?_)
  cases hm
  exact ⟨(), rfl, ((shut_ptr (ctrl_Control.shut (x := ({ frames := v135, Stack := v0.Stack } : ctrl_Control)) (a137, n138, b104) ((((h).ent (Ent.take 3 rfl)).ent (Ent.take 3 rfl)).ent (Ent.take 3 rfl)))).ent (Ent.take 1 rfl)).ent (Ent.drop _ _)⟩

/-- creel/ctrl.New -/
def f15.f (v0 : List UInt8) : Option ctrl_Control :=
  ((f45.f ({ frames := [], Stack := ({ list := [] } : opstack_Stack) } : ctrl_Control) (0 : UInt8) v0).bind fun v107 => some v107)
set_option maxRecDepth 20000 in
set_option maxHeartbeats 1000000 in
theorem f15.ok {W w : World} {R : List Assn} (v0 : List UInt8) {r : ctrl_Control} (hm : f15.f v0 = some r) (hs : St W w (R)) :
    Calls Try.prog 15 #[.string ⟨v0.toArray⟩] w (fun e w' => ∃ x : Nat, e = .returned (.pointer (some ⟨x, 0, none⟩)) ∧ St W w' (ptr ctrl_Control.rep x r :: R)) := by
  unfold f15.f at hm
  refine calls_sym (vs := [.string ⟨v0.toArray⟩]) Try.func15 rfl rfl hs ?_
  refine T.seq rfl ?_
  refine T.region rfl ?_
  refine TO.go rfl rfl rfl (Does.assign (v := .pointer none) rfl rfl) fun _ => ?_
  refine TO.end rfl ?_
  refine TQ.then ?_
  refine T.seq rfl ?_
  refine T.region rfl ?_
  refine TO.go rfl rfl rfl (Does.build (v := .agg #[.slice none 0 0]) (vs := []) rfl rfl (fun w => by kernel_rfl)) fun _ => ?_
  refine TO.go rfl rfl rfl (Does.box (vs := [.slice none 0 0]) rfl rfl rfl) fun b101 => ?_
  refine TO.ent (L' := pts b101 [.slice none 0 0] :: R) (fun w h => h) ?_
  refine TO.go rfl rfl rfl (Does.build (v := .agg #[.slice none 0 0, .pointer (some ⟨b101, 0, none⟩)]) (vs := [(1, .pointer (some ⟨b101, 0, none⟩))]) rfl rfl (fun w => by kernel_rfl)) fun _ => ?_
  refine TO.go rfl rfl rfl (Does.box (vs := [.slice none 0 0, .pointer (some ⟨b101, 0, none⟩)]) rfl rfl rfl) fun b103 => ?_
  refine TO.ent (L' := pts b103 [.slice none 0 0, .pointer (some ⟨b101, 0, none⟩)] :: pts b101 [.slice none 0 0] :: R) (fun w h => h) ?_
  refine TO.go rfl rfl rfl (Does.assign rfl rfl) fun _ => ?_
  refine TO.end rfl ?_
  refine TQ.then ?_
  refine T.seq rfl ?_
  refine T.region rfl ?_
  refine TO.go rfl rfl rfl (Does.move rfl rfl) fun _ => ?_
  refine TO.go rfl rfl rfl (Does.move rfl rfl) fun _ => ?_
  obtain ⟨v107, h108, hm⟩ := bind_o hm
  refine TO.go rfl rfl rfl (Does.call (vs := [.pointer (some ⟨b103, 0, none⟩), .int .u8 (0 : UInt8).toNat, .string ⟨v0.toArray⟩]) rfl co_45 rfl (fun w h => f45.ok ({ frames := [], Stack := ({ list := [] } : opstack_Stack) } : ctrl_Control) b103 (0 : UInt8) v0 h108 (shut_ptr (ctrl_Control.shut (x := ({ frames := [], Stack := ({ list := [] } : opstack_Stack) } : ctrl_Control)) (none, 0, b101) ((((shut_ptr (opstack_Stack.shut (x := ({ list := [] } : opstack_Stack)) (none, 0) (((h).ent (Ent.take 1 rfl)).ent (Ent.add (own_nil rU8))))).ent (Ent.take 1 rfl)).ent (Ent.add (own_nil ctrl_Frame.rep))).ent (Ent.take 2 rfl)))))) fun _ => ?_
  refine TO.ent (L' := ptr ctrl_Control.rep b103 v107 :: R) (fun w h => h) ?_
  refine TO.end rfl ?_
  refine TQ.then ?_
  refine T.seq rfl ?_
  refine T.region rfl ?_
  refine TO.go rfl rfl rfl (Does.move rfl rfl) fun _ => ?_
  refine TO.go rfl rfl rfl (Does.assign rfl rfl) fun _ => ?_
  refine TO.end rfl ?_
  refine TQ.then ?_
  refine T.ret rfl ?_
  refine TQ.result (.inl rfl) rfl (Res.tmp rfl Res.nil) rfl (fun w h => ?_)
  cases hm
  exact ⟨b103, rfl, h⟩

def f70.k0 : List Value := [.string ⟨([117, 110, 114, 101, 97, 99, 104, 97, 98, 108, 101] : List UInt8).toArray⟩, .int .i64 0, .string ⟨([] : List UInt8).toArray⟩, .string ⟨([] : List UInt8).toArray⟩, .bool true, .string ⟨([110, 111, 112] : List UInt8).toArray⟩, .int .i64 0, .string ⟨([] : List UInt8).toArray⟩, .string ⟨([] : List UInt8).toArray⟩, .bool false, .string ⟨([98, 108, 111, 99, 107] : List UInt8).toArray⟩, .int .i64 1, .string ⟨([] : List UInt8).toArray⟩, .string ⟨([] : List UInt8).toArray⟩, .bool true, .string ⟨([108, 111, 111, 112] : List UInt8).toArray⟩, .int .i64 1, .string ⟨([] : List UInt8).toArray⟩, .string ⟨([] : List UInt8).toArray⟩, .bool true, .string ⟨([105, 102] : List UInt8).toArray⟩, .int .i64 1, .string ⟨([] : List UInt8).toArray⟩, .string ⟨([] : List UInt8).toArray⟩, .bool true, .string ⟨([101, 108, 115, 101] : List UInt8).toArray⟩, .int .i64 0, .string ⟨([] : List UInt8).toArray⟩, .string ⟨([] : List UInt8).toArray⟩, .bool true, .string ⟨([] : List UInt8).toArray⟩, .int .i64 0, .string ⟨([] : List UInt8).toArray⟩, .string ⟨([] : List UInt8).toArray⟩, .bool false, .string ⟨([] : List UInt8).toArray⟩, .int .i64 0, .string ⟨([] : List UInt8).toArray⟩, .string ⟨([] : List UInt8).toArray⟩, .bool false, .string ⟨([] : List UInt8).toArray⟩, .int .i64 0, .string ⟨([] : List UInt8).toArray⟩, .string ⟨([] : List UInt8).toArray⟩, .bool false, .string ⟨([] : List UInt8).toArray⟩, .int .i64 0, .string ⟨([] : List UInt8).toArray⟩, .string ⟨([] : List UInt8).toArray⟩, .bool false, .string ⟨([] : List UInt8).toArray⟩, .int .i64 0, .string ⟨([] : List UInt8).toArray⟩, .string ⟨([] : List UInt8).toArray⟩, .bool false, .string ⟨([101, 110, 100] : List UInt8).toArray⟩, .int .i64 0, .string ⟨([] : List UInt8).toArray⟩, .string ⟨([] : List UInt8).toArray⟩, .bool true, .string ⟨([98, 114] : List UInt8).toArray⟩, .int .i64 2, .string ⟨([] : List UInt8).toArray⟩, .string ⟨([] : List UInt8).toArray⟩, .bool true, .string ⟨([98, 114, 95, 105, 102] : List UInt8).toArray⟩, .int .i64 2, .string ⟨([] : List UInt8).toArray⟩, .string ⟨([] : List UInt8).toArray⟩, .bool true, .string ⟨([98, 114, 95, 116, 97, 98, 108, 101] : List UInt8).toArray⟩, .int .i64 3, .string ⟨([] : List UInt8).toArray⟩, .string ⟨([] : List UInt8).toArray⟩, .bool true, .string ⟨([114, 101, 116, 117, 114, 110] : List UInt8).toArray⟩, .int .i64 0, .string ⟨([] : List UInt8).toArray⟩, .string ⟨([] : List UInt8).toArray⟩, .bool true, .string ⟨([99, 97, 108, 108] : List UInt8).toArray⟩, .int .i64 4, .string ⟨([] : List UInt8).toArray⟩, .string ⟨([] : List UInt8).toArray⟩, .bool true, .string ⟨([99, 97, 108, 108, 95, 105, 110, 100, 105, 114, 101, 99, 116] : List UInt8).toArray⟩, .int .i64 5, .string ⟨([] : List UInt8).toArray⟩, .string ⟨([] : List UInt8).toArray⟩, .bool true, .string ⟨([] : List UInt8).toArray⟩, .int .i64 0, .string ⟨([] : List UInt8).toArray⟩, .string ⟨([] : List UInt8).toArray⟩, .bool false, .string ⟨([] : List UInt8).toArray⟩, .int .i64 0, .string ⟨([] : List UInt8).toArray⟩, .string ⟨([] : List UInt8).toArray⟩, .bool false, .string ⟨([] : List UInt8).toArray⟩, .int .i64 0, .string ⟨([] : List UInt8).toArray⟩, .string ⟨([] : List UInt8).toArray⟩, .bool false, .string ⟨([] : List UInt8).toArray⟩, .int .i64 0, .string ⟨([] : List UInt8).toArray⟩, .string ⟨([] : List UInt8).toArray⟩, .bool false, .string ⟨([] : List UInt8).toArray⟩, .int .i64 0, .string ⟨([] : List UInt8).toArray⟩, .string ⟨([] : List UInt8).toArray⟩, .bool false, .string ⟨([] : List UInt8).toArray⟩, .int .i64 0, .string ⟨([] : List UInt8).toArray⟩, .string ⟨([] : List UInt8).toArray⟩, .bool false, .string ⟨([] : List UInt8).toArray⟩, .int .i64 0, .string ⟨([] : List UInt8).toArray⟩, .string ⟨([] : List UInt8).toArray⟩, .bool false, .string ⟨([] : List UInt8).toArray⟩, .int .i64 0, .string ⟨([] : List UInt8).toArray⟩, .string ⟨([] : List UInt8).toArray⟩, .bool false, .string ⟨([100, 114, 111, 112] : List UInt8).toArray⟩, .int .i64 0, .string ⟨([] : List UInt8).toArray⟩, .string ⟨([] : List UInt8).toArray⟩, .bool true, .string ⟨([115, 101, 108, 101, 99, 116] : List UInt8).toArray⟩, .int .i64 0, .string ⟨([] : List UInt8).toArray⟩, .string ⟨([] : List UInt8).toArray⟩, .bool true, .string ⟨([] : List UInt8).toArray⟩, .int .i64 0, .string ⟨([] : List UInt8).toArray⟩, .string ⟨([] : List UInt8).toArray⟩, .bool false, .string ⟨([] : List UInt8).toArray⟩, .int .i64 0, .string ⟨([] : List UInt8).toArray⟩, .string ⟨([] : List UInt8).toArray⟩, .bool false, .string ⟨([] : List UInt8).toArray⟩, .int .i64 0, .string ⟨([] : List UInt8).toArray⟩, .string ⟨([] : List UInt8).toArray⟩, .bool false, .string ⟨([] : List UInt8).toArray⟩, .int .i64 0, .string ⟨([] : List UInt8).toArray⟩, .string ⟨([] : List UInt8).toArray⟩, .bool false, .string ⟨([108, 111, 99, 97, 108, 46, 103, 101, 116] : List UInt8).toArray⟩, .int .i64 6, .string ⟨([] : List UInt8).toArray⟩, .string ⟨([] : List UInt8).toArray⟩, .bool true, .string ⟨([108, 111, 99, 97, 108, 46, 115, 101, 116] : List UInt8).toArray⟩, .int .i64 6, .string ⟨([] : List UInt8).toArray⟩, .string ⟨([] : List UInt8).toArray⟩, .bool true, .string ⟨([108, 111, 99, 97, 108, 46, 116, 101, 101] : List UInt8).toArray⟩, .int .i64 6, .string ⟨([] : List UInt8).toArray⟩, .string ⟨([] : List UInt8).toArray⟩, .bool true, .string ⟨([103, 108, 111, 98, 97, 108, 46, 103, 101, 116] : List UInt8).toArray⟩, .int .i64 7, .string ⟨([] : List UInt8).toArray⟩, .string ⟨([] : List UInt8).toArray⟩, .bool true, .string ⟨([103, 108, 111, 98, 97, 108, 46, 115, 101, 116] : List UInt8).toArray⟩, .int .i64 7, .string ⟨([] : List UInt8).toArray⟩, .string ⟨([] : List UInt8).toArray⟩, .bool true]
def f70.c1 : List ops_Info := [({ Name := ([117, 110, 114, 101, 97, 99, 104, 97, 98, 108, 101] : List UInt8), Imm := 0, Params := ([] : List UInt8), Result := ([] : List UInt8), Free := true } : ops_Info), ({ Name := ([110, 111, 112] : List UInt8), Imm := 0, Params := ([] : List UInt8), Result := ([] : List UInt8), Free := false } : ops_Info), ({ Name := ([98, 108, 111, 99, 107] : List UInt8), Imm := 1, Params := ([] : List UInt8), Result := ([] : List UInt8), Free := true } : ops_Info), ({ Name := ([108, 111, 111, 112] : List UInt8), Imm := 1, Params := ([] : List UInt8), Result := ([] : List UInt8), Free := true } : ops_Info), ({ Name := ([105, 102] : List UInt8), Imm := 1, Params := ([] : List UInt8), Result := ([] : List UInt8), Free := true } : ops_Info), ({ Name := ([101, 108, 115, 101] : List UInt8), Imm := 0, Params := ([] : List UInt8), Result := ([] : List UInt8), Free := true } : ops_Info), ({ Name := ([] : List UInt8), Imm := 0, Params := ([] : List UInt8), Result := ([] : List UInt8), Free := false } : ops_Info), ({ Name := ([] : List UInt8), Imm := 0, Params := ([] : List UInt8), Result := ([] : List UInt8), Free := false } : ops_Info), ({ Name := ([] : List UInt8), Imm := 0, Params := ([] : List UInt8), Result := ([] : List UInt8), Free := false } : ops_Info), ({ Name := ([] : List UInt8), Imm := 0, Params := ([] : List UInt8), Result := ([] : List UInt8), Free := false } : ops_Info), ({ Name := ([] : List UInt8), Imm := 0, Params := ([] : List UInt8), Result := ([] : List UInt8), Free := false } : ops_Info), ({ Name := ([101, 110, 100] : List UInt8), Imm := 0, Params := ([] : List UInt8), Result := ([] : List UInt8), Free := true } : ops_Info), ({ Name := ([98, 114] : List UInt8), Imm := 2, Params := ([] : List UInt8), Result := ([] : List UInt8), Free := true } : ops_Info), ({ Name := ([98, 114, 95, 105, 102] : List UInt8), Imm := 2, Params := ([] : List UInt8), Result := ([] : List UInt8), Free := true } : ops_Info), ({ Name := ([98, 114, 95, 116, 97, 98, 108, 101] : List UInt8), Imm := 3, Params := ([] : List UInt8), Result := ([] : List UInt8), Free := true } : ops_Info), ({ Name := ([114, 101, 116, 117, 114, 110] : List UInt8), Imm := 0, Params := ([] : List UInt8), Result := ([] : List UInt8), Free := true } : ops_Info), ({ Name := ([99, 97, 108, 108] : List UInt8), Imm := 4, Params := ([] : List UInt8), Result := ([] : List UInt8), Free := true } : ops_Info), ({ Name := ([99, 97, 108, 108, 95, 105, 110, 100, 105, 114, 101, 99, 116] : List UInt8), Imm := 5, Params := ([] : List UInt8), Result := ([] : List UInt8), Free := true } : ops_Info), ({ Name := ([] : List UInt8), Imm := 0, Params := ([] : List UInt8), Result := ([] : List UInt8), Free := false } : ops_Info), ({ Name := ([] : List UInt8), Imm := 0, Params := ([] : List UInt8), Result := ([] : List UInt8), Free := false } : ops_Info), ({ Name := ([] : List UInt8), Imm := 0, Params := ([] : List UInt8), Result := ([] : List UInt8), Free := false } : ops_Info), ({ Name := ([] : List UInt8), Imm := 0, Params := ([] : List UInt8), Result := ([] : List UInt8), Free := false } : ops_Info), ({ Name := ([] : List UInt8), Imm := 0, Params := ([] : List UInt8), Result := ([] : List UInt8), Free := false } : ops_Info), ({ Name := ([] : List UInt8), Imm := 0, Params := ([] : List UInt8), Result := ([] : List UInt8), Free := false } : ops_Info), ({ Name := ([] : List UInt8), Imm := 0, Params := ([] : List UInt8), Result := ([] : List UInt8), Free := false } : ops_Info), ({ Name := ([] : List UInt8), Imm := 0, Params := ([] : List UInt8), Result := ([] : List UInt8), Free := false } : ops_Info), ({ Name := ([100, 114, 111, 112] : List UInt8), Imm := 0, Params := ([] : List UInt8), Result := ([] : List UInt8), Free := true } : ops_Info), ({ Name := ([115, 101, 108, 101, 99, 116] : List UInt8), Imm := 0, Params := ([] : List UInt8), Result := ([] : List UInt8), Free := true } : ops_Info), ({ Name := ([] : List UInt8), Imm := 0, Params := ([] : List UInt8), Result := ([] : List UInt8), Free := false } : ops_Info), ({ Name := ([] : List UInt8), Imm := 0, Params := ([] : List UInt8), Result := ([] : List UInt8), Free := false } : ops_Info), ({ Name := ([] : List UInt8), Imm := 0, Params := ([] : List UInt8), Result := ([] : List UInt8), Free := false } : ops_Info), ({ Name := ([] : List UInt8), Imm := 0, Params := ([] : List UInt8), Result := ([] : List UInt8), Free := false } : ops_Info), ({ Name := ([108, 111, 99, 97, 108, 46, 103, 101, 116] : List UInt8), Imm := 6, Params := ([] : List UInt8), Result := ([] : List UInt8), Free := true } : ops_Info), ({ Name := ([108, 111, 99, 97, 108, 46, 115, 101, 116] : List UInt8), Imm := 6, Params := ([] : List UInt8), Result := ([] : List UInt8), Free := true } : ops_Info), ({ Name := ([108, 111, 99, 97, 108, 46, 116, 101, 101] : List UInt8), Imm := 6, Params := ([] : List UInt8), Result := ([] : List UInt8), Free := true } : ops_Info), ({ Name := ([103, 108, 111, 98, 97, 108, 46, 103, 101, 116] : List UInt8), Imm := 7, Params := ([] : List UInt8), Result := ([] : List UInt8), Free := true } : ops_Info), ({ Name := ([103, 108, 111, 98, 97, 108, 46, 115, 101, 116] : List UInt8), Imm := 7, Params := ([] : List UInt8), Result := ([] : List UInt8), Free := true } : ops_Info)]
/-- creel/ops.control -/
def f70.f (v0 : UInt8) : Option ops_Info :=
  (if (decide ((v0.toNat : Int) < 37)) = true then ((at? f70.c1 (v0.toNat : Int)).bind fun v109 => some v109) else some ({ Name := ([] : List UInt8), Imm := 0, Params := ([] : List UInt8), Result := ([] : List UInt8), Free := false } : ops_Info))
set_option maxRecDepth 20000 in
set_option maxHeartbeats 1000000 in
theorem f70.ok {W w : World} {R : List Assn} (v0 : UInt8) {r : ops_Info} (hm : f70.f v0 = some r) (hs : St W w (R)) :
    Calls Try.prog 70 #[.int .u8 v0.toNat] w (fun e w' => ∃ x : Unit, e = .returned (.agg #[.string ⟨r.Name.toArray⟩, .int .i64 r.Imm, .string ⟨r.Params.toArray⟩, .string ⟨r.Result.toArray⟩, .bool r.Free]) ∧ St W w' (R)) := by
  unfold f70.f at hm
  refine calls_sym (vs := [.int .u8 v0.toNat]) Try.func70 rfl rfl hs ?_
  refine T.seq rfl ?_
  refine T.region rfl ?_
  refine TO.go rfl rfl rfl (Does.alloc rfl zn_117) fun b101 => ?_
  refine TO.ent (L' := pts b101 [.string ⟨([] : List UInt8).toArray⟩, .int .i64 0, .string ⟨([] : List UInt8).toArray⟩, .string ⟨([] : List UInt8).toArray⟩, .bool false] :: R) (fun w h => h) ?_
  refine TO.end rfl ?_
  refine TQ.then ?_
  refine T.seq rfl ?_
  refine T.region rfl ?_
  refine TO.go rfl rfl rfl (Does.build (v := .agg #[.string ⟨([117, 110, 114, 101, 97, 99, 104, 97, 98, 108, 101] : List UInt8).toArray⟩, .int .i64 0, .string ⟨([] : List UInt8).toArray⟩, .string ⟨([] : List UInt8).toArray⟩, .bool true]) (vs := [(0, .string ⟨([117, 110, 114, 101, 97, 99, 104, 97, 98, 108, 101] : List UInt8).toArray⟩), (4, .bool true)]) rfl rfl (fun w => by kernel_rfl)) fun _ => ?_
  refine TO.go rfl rfl rfl (Does.build (v := .agg #[.string ⟨([110, 111, 112] : List UInt8).toArray⟩, .int .i64 0, .string ⟨([] : List UInt8).toArray⟩, .string ⟨([] : List UInt8).toArray⟩, .bool false]) (vs := [(0, .string ⟨([110, 111, 112] : List UInt8).toArray⟩)]) rfl rfl (fun w => by kernel_rfl)) fun _ => ?_
  refine TO.go rfl rfl rfl (Does.build (v := .agg #[.string ⟨([98, 108, 111, 99, 107] : List UInt8).toArray⟩, .int .i64 1, .string ⟨([] : List UInt8).toArray⟩, .string ⟨([] : List UInt8).toArray⟩, .bool true]) (vs := [(0, .string ⟨([98, 108, 111, 99, 107] : List UInt8).toArray⟩), (1, .int .i64 1), (4, .bool true)]) rfl rfl (fun w => by kernel_rfl)) fun _ => ?_
  refine TO.go rfl rfl rfl (Does.build (v := .agg #[.string ⟨([108, 111, 111, 112] : List UInt8).toArray⟩, .int .i64 1, .string ⟨([] : List UInt8).toArray⟩, .string ⟨([] : List UInt8).toArray⟩, .bool true]) (vs := [(0, .string ⟨([108, 111, 111, 112] : List UInt8).toArray⟩), (1, .int .i64 1), (4, .bool true)]) rfl rfl (fun w => by kernel_rfl)) fun _ => ?_
  refine TO.go rfl rfl rfl (Does.build (v := .agg #[.string ⟨([105, 102] : List UInt8).toArray⟩, .int .i64 1, .string ⟨([] : List UInt8).toArray⟩, .string ⟨([] : List UInt8).toArray⟩, .bool true]) (vs := [(0, .string ⟨([105, 102] : List UInt8).toArray⟩), (1, .int .i64 1), (4, .bool true)]) rfl rfl (fun w => by kernel_rfl)) fun _ => ?_
  refine TO.go rfl rfl rfl (Does.build (v := .agg #[.string ⟨([101, 108, 115, 101] : List UInt8).toArray⟩, .int .i64 0, .string ⟨([] : List UInt8).toArray⟩, .string ⟨([] : List UInt8).toArray⟩, .bool true]) (vs := [(0, .string ⟨([101, 108, 115, 101] : List UInt8).toArray⟩), (4, .bool true)]) rfl rfl (fun w => by kernel_rfl)) fun _ => ?_
  refine TO.go rfl rfl rfl (Does.build (v := .agg #[.string ⟨([101, 110, 100] : List UInt8).toArray⟩, .int .i64 0, .string ⟨([] : List UInt8).toArray⟩, .string ⟨([] : List UInt8).toArray⟩, .bool true]) (vs := [(0, .string ⟨([101, 110, 100] : List UInt8).toArray⟩), (4, .bool true)]) rfl rfl (fun w => by kernel_rfl)) fun _ => ?_
  refine TO.go rfl rfl rfl (Does.build (v := .agg #[.string ⟨([98, 114] : List UInt8).toArray⟩, .int .i64 2, .string ⟨([] : List UInt8).toArray⟩, .string ⟨([] : List UInt8).toArray⟩, .bool true]) (vs := [(0, .string ⟨([98, 114] : List UInt8).toArray⟩), (1, .int .i64 2), (4, .bool true)]) rfl rfl (fun w => by kernel_rfl)) fun _ => ?_
  refine TO.go rfl rfl rfl (Does.build (v := .agg #[.string ⟨([98, 114, 95, 105, 102] : List UInt8).toArray⟩, .int .i64 2, .string ⟨([] : List UInt8).toArray⟩, .string ⟨([] : List UInt8).toArray⟩, .bool true]) (vs := [(0, .string ⟨([98, 114, 95, 105, 102] : List UInt8).toArray⟩), (1, .int .i64 2), (4, .bool true)]) rfl rfl (fun w => by kernel_rfl)) fun _ => ?_
  refine TO.go rfl rfl rfl (Does.build (v := .agg #[.string ⟨([98, 114, 95, 116, 97, 98, 108, 101] : List UInt8).toArray⟩, .int .i64 3, .string ⟨([] : List UInt8).toArray⟩, .string ⟨([] : List UInt8).toArray⟩, .bool true]) (vs := [(0, .string ⟨([98, 114, 95, 116, 97, 98, 108, 101] : List UInt8).toArray⟩), (1, .int .i64 3), (4, .bool true)]) rfl rfl (fun w => by kernel_rfl)) fun _ => ?_
  refine TO.go rfl rfl rfl (Does.build (v := .agg #[.string ⟨([114, 101, 116, 117, 114, 110] : List UInt8).toArray⟩, .int .i64 0, .string ⟨([] : List UInt8).toArray⟩, .string ⟨([] : List UInt8).toArray⟩, .bool true]) (vs := [(0, .string ⟨([114, 101, 116, 117, 114, 110] : List UInt8).toArray⟩), (4, .bool true)]) rfl rfl (fun w => by kernel_rfl)) fun _ => ?_
  refine TO.go rfl rfl rfl (Does.build (v := .agg #[.string ⟨([99, 97, 108, 108] : List UInt8).toArray⟩, .int .i64 4, .string ⟨([] : List UInt8).toArray⟩, .string ⟨([] : List UInt8).toArray⟩, .bool true]) (vs := [(0, .string ⟨([99, 97, 108, 108] : List UInt8).toArray⟩), (1, .int .i64 4), (4, .bool true)]) rfl rfl (fun w => by kernel_rfl)) fun _ => ?_
  refine TO.go rfl rfl rfl (Does.build (v := .agg #[.string ⟨([99, 97, 108, 108, 95, 105, 110, 100, 105, 114, 101, 99, 116] : List UInt8).toArray⟩, .int .i64 5, .string ⟨([] : List UInt8).toArray⟩, .string ⟨([] : List UInt8).toArray⟩, .bool true]) (vs := [(0, .string ⟨([99, 97, 108, 108, 95, 105, 110, 100, 105, 114, 101, 99, 116] : List UInt8).toArray⟩), (1, .int .i64 5), (4, .bool true)]) rfl rfl (fun w => by kernel_rfl)) fun _ => ?_
  refine TO.go rfl rfl rfl (Does.build (v := .agg #[.string ⟨([100, 114, 111, 112] : List UInt8).toArray⟩, .int .i64 0, .string ⟨([] : List UInt8).toArray⟩, .string ⟨([] : List UInt8).toArray⟩, .bool true]) (vs := [(0, .string ⟨([100, 114, 111, 112] : List UInt8).toArray⟩), (4, .bool true)]) rfl rfl (fun w => by kernel_rfl)) fun _ => ?_
  refine TO.go rfl rfl rfl (Does.build (v := .agg #[.string ⟨([115, 101, 108, 101, 99, 116] : List UInt8).toArray⟩, .int .i64 0, .string ⟨([] : List UInt8).toArray⟩, .string ⟨([] : List UInt8).toArray⟩, .bool true]) (vs := [(0, .string ⟨([115, 101, 108, 101, 99, 116] : List UInt8).toArray⟩), (4, .bool true)]) rfl rfl (fun w => by kernel_rfl)) fun _ => ?_
  refine TO.go rfl rfl rfl (Does.build (v := .agg #[.string ⟨([108, 111, 99, 97, 108, 46, 103, 101, 116] : List UInt8).toArray⟩, .int .i64 6, .string ⟨([] : List UInt8).toArray⟩, .string ⟨([] : List UInt8).toArray⟩, .bool true]) (vs := [(0, .string ⟨([108, 111, 99, 97, 108, 46, 103, 101, 116] : List UInt8).toArray⟩), (1, .int .i64 6), (4, .bool true)]) rfl rfl (fun w => by kernel_rfl)) fun _ => ?_
  refine TO.go rfl rfl rfl (Does.build (v := .agg #[.string ⟨([108, 111, 99, 97, 108, 46, 115, 101, 116] : List UInt8).toArray⟩, .int .i64 6, .string ⟨([] : List UInt8).toArray⟩, .string ⟨([] : List UInt8).toArray⟩, .bool true]) (vs := [(0, .string ⟨([108, 111, 99, 97, 108, 46, 115, 101, 116] : List UInt8).toArray⟩), (1, .int .i64 6), (4, .bool true)]) rfl rfl (fun w => by kernel_rfl)) fun _ => ?_
  refine TO.go rfl rfl rfl (Does.build (v := .agg #[.string ⟨([108, 111, 99, 97, 108, 46, 116, 101, 101] : List UInt8).toArray⟩, .int .i64 6, .string ⟨([] : List UInt8).toArray⟩, .string ⟨([] : List UInt8).toArray⟩, .bool true]) (vs := [(0, .string ⟨([108, 111, 99, 97, 108, 46, 116, 101, 101] : List UInt8).toArray⟩), (1, .int .i64 6), (4, .bool true)]) rfl rfl (fun w => by kernel_rfl)) fun _ => ?_
  refine TO.go rfl rfl rfl (Does.build (v := .agg #[.string ⟨([103, 108, 111, 98, 97, 108, 46, 103, 101, 116] : List UInt8).toArray⟩, .int .i64 7, .string ⟨([] : List UInt8).toArray⟩, .string ⟨([] : List UInt8).toArray⟩, .bool true]) (vs := [(0, .string ⟨([103, 108, 111, 98, 97, 108, 46, 103, 101, 116] : List UInt8).toArray⟩), (1, .int .i64 7), (4, .bool true)]) rfl rfl (fun w => by kernel_rfl)) fun _ => ?_
  refine TO.go rfl rfl rfl (Does.build (v := .agg #[.string ⟨([103, 108, 111, 98, 97, 108, 46, 115, 101, 116] : List UInt8).toArray⟩, .int .i64 7, .string ⟨([] : List UInt8).toArray⟩, .string ⟨([] : List UInt8).toArray⟩, .bool true]) (vs := [(0, .string ⟨([103, 108, 111, 98, 97, 108, 46, 115, 101, 116] : List UInt8).toArray⟩), (1, .int .i64 7), (4, .bool true)]) rfl rfl (fun w => by kernel_rfl)) fun _ => ?_
  refine TO.go rfl rfl rfl (Does.build (v := .agg f70.k0.toArray) (vs := [(0, .agg #[.string ⟨([117, 110, 114, 101, 97, 99, 104, 97, 98, 108, 101] : List UInt8).toArray⟩, .int .i64 0, .string ⟨([] : List UInt8).toArray⟩, .string ⟨([] : List UInt8).toArray⟩, .bool true]), (1, .agg #[.string ⟨([110, 111, 112] : List UInt8).toArray⟩, .int .i64 0, .string ⟨([] : List UInt8).toArray⟩, .string ⟨([] : List UInt8).toArray⟩, .bool false]), (2, .agg #[.string ⟨([98, 108, 111, 99, 107] : List UInt8).toArray⟩, .int .i64 1, .string ⟨([] : List UInt8).toArray⟩, .string ⟨([] : List UInt8).toArray⟩, .bool true]), (3, .agg #[.string ⟨([108, 111, 111, 112] : List UInt8).toArray⟩, .int .i64 1, .string ⟨([] : List UInt8).toArray⟩, .string ⟨([] : List UInt8).toArray⟩, .bool true]), (4, .agg #[.string ⟨([105, 102] : List UInt8).toArray⟩, .int .i64 1, .string ⟨([] : List UInt8).toArray⟩, .string ⟨([] : List UInt8).toArray⟩, .bool true]), (5, .agg #[.string ⟨([101, 108, 115, 101] : List UInt8).toArray⟩, .int .i64 0, .string ⟨([] : List UInt8).toArray⟩, .string ⟨([] : List UInt8).toArray⟩, .bool true]), (11, .agg #[.string ⟨([101, 110, 100] : List UInt8).toArray⟩, .int .i64 0, .string ⟨([] : List UInt8).toArray⟩, .string ⟨([] : List UInt8).toArray⟩, .bool true]), (12, .agg #[.string ⟨([98, 114] : List UInt8).toArray⟩, .int .i64 2, .string ⟨([] : List UInt8).toArray⟩, .string ⟨([] : List UInt8).toArray⟩, .bool true]), (13, .agg #[.string ⟨([98, 114, 95, 105, 102] : List UInt8).toArray⟩, .int .i64 2, .string ⟨([] : List UInt8).toArray⟩, .string ⟨([] : List UInt8).toArray⟩, .bool true]), (14, .agg #[.string ⟨([98, 114, 95, 116, 97, 98, 108, 101] : List UInt8).toArray⟩, .int .i64 3, .string ⟨([] : List UInt8).toArray⟩, .string ⟨([] : List UInt8).toArray⟩, .bool true]), (15, .agg #[.string ⟨([114, 101, 116, 117, 114, 110] : List UInt8).toArray⟩, .int .i64 0, .string ⟨([] : List UInt8).toArray⟩, .string ⟨([] : List UInt8).toArray⟩, .bool true]), (16, .agg #[.string ⟨([99, 97, 108, 108] : List UInt8).toArray⟩, .int .i64 4, .string ⟨([] : List UInt8).toArray⟩, .string ⟨([] : List UInt8).toArray⟩, .bool true]), (17, .agg #[.string ⟨([99, 97, 108, 108, 95, 105, 110, 100, 105, 114, 101, 99, 116] : List UInt8).toArray⟩, .int .i64 5, .string ⟨([] : List UInt8).toArray⟩, .string ⟨([] : List UInt8).toArray⟩, .bool true]), (26, .agg #[.string ⟨([100, 114, 111, 112] : List UInt8).toArray⟩, .int .i64 0, .string ⟨([] : List UInt8).toArray⟩, .string ⟨([] : List UInt8).toArray⟩, .bool true]), (27, .agg #[.string ⟨([115, 101, 108, 101, 99, 116] : List UInt8).toArray⟩, .int .i64 0, .string ⟨([] : List UInt8).toArray⟩, .string ⟨([] : List UInt8).toArray⟩, .bool true]), (32, .agg #[.string ⟨([108, 111, 99, 97, 108, 46, 103, 101, 116] : List UInt8).toArray⟩, .int .i64 6, .string ⟨([] : List UInt8).toArray⟩, .string ⟨([] : List UInt8).toArray⟩, .bool true]), (33, .agg #[.string ⟨([108, 111, 99, 97, 108, 46, 115, 101, 116] : List UInt8).toArray⟩, .int .i64 6, .string ⟨([] : List UInt8).toArray⟩, .string ⟨([] : List UInt8).toArray⟩, .bool true]), (34, .agg #[.string ⟨([108, 111, 99, 97, 108, 46, 116, 101, 101] : List UInt8).toArray⟩, .int .i64 6, .string ⟨([] : List UInt8).toArray⟩, .string ⟨([] : List UInt8).toArray⟩, .bool true]), (35, .agg #[.string ⟨([103, 108, 111, 98, 97, 108, 46, 103, 101, 116] : List UInt8).toArray⟩, .int .i64 7, .string ⟨([] : List UInt8).toArray⟩, .string ⟨([] : List UInt8).toArray⟩, .bool true]), (36, .agg #[.string ⟨([103, 108, 111, 98, 97, 108, 46, 115, 101, 116] : List UInt8).toArray⟩, .int .i64 7, .string ⟨([] : List UInt8).toArray⟩, .string ⟨([] : List UInt8).toArray⟩, .bool true])]) rfl rfl (fun w => by kernel_rfl)) fun _ => ?_
  refine TO.go rfl rfl rfl (Does.alloc rfl zn_154) fun b103 => ?_
  refine TO.ent (L' := pts b103 zl_154 :: pts b101 [.string ⟨([] : List UInt8).toArray⟩, .int .i64 0, .string ⟨([] : List UInt8).toArray⟩, .string ⟨([] : List UInt8).toArray⟩, .bool false] :: R) (fun w h => h) ?_
  refine TO.go0 rfl rfl (Does.storePts (k := 0) (v := .agg f70.k0.toArray) (vs := f70.k0) (cs' := f70.k0) rfl rfl rfl rfl (by kernel_rfl) cn_154 rfl (by kernel_rfl) (by kernel_rfl) rfl) fun _ => ?_
  refine TO.ent (fun w h => arr_of_pts (r := ops_Info.rep) f70.c1 (by kernel_rfl) (h)) ?_
  refine TO.end rfl ?_
  refine TQ.then ?_
  refine T.seq rfl ?_
  refine T.seq rfl ?_
  refine T.region rfl ?_
  refine TO.go rfl rfl rfl (Does.move rfl rfl) fun _ => ?_
  refine TO.go rfl rfl rfl (Does.conv (v := .int .i64 (v0.toNat : Int)) rfl rfl (c_of8 un_5 ii_3 rfl)) fun _ => ?_
  refine TO.go rfl rfl rfl (Does.bin (v := .bool (decide ((v0.toNat : Int) < 37))) (vy := .int .i64 37) rfl rfl rfl g_int b_lt) fun _ => ?_
  refine TO.end rfl ?_
  refine TQ.then ?_
  refine T.cond rfl (b := (decide ((v0.toNat : Int) < 37))) rfl (fun h108 => ?_) (fun h108 => ?_)
  · replace hm := ite_t hm h108
    refine T.seq rfl ?_
    refine T.region rfl ?_
    refine TO.go rfl rfl rfl (Does.move rfl rfl) fun _ => ?_
    obtain ⟨v109, h110, hm⟩ := bind_o hm
    refine TO.go rfl rfl rfl (Does.indexArr rfl rfl rfl ar_154 (at?_out h110).1 (at?_out h110).2.1) fun _ => ?_
    refine TO.go rfl rfl rfl (Does.loadFlatN (r := ops_Info.rep) (k := 0) (f := 0) (vs := [.string ⟨v109.Name.toArray⟩, .int .i64 v109.Imm, .string ⟨v109.Params.toArray⟩, .string ⟨v109.Result.toArray⟩, .bool v109.Free]) rfl rfl ag_117 rfl Arrd.arr (at?_out h110).2.2 rfl rfl) fun _ => ?_
    refine TO.go0 rfl rfl (Does.storePts (k := 1) (vs := [.string ⟨v109.Name.toArray⟩, .int .i64 v109.Imm, .string ⟨v109.Params.toArray⟩, .string ⟨v109.Result.toArray⟩, .bool v109.Free]) (cs' := [.string ⟨v109.Name.toArray⟩, .int .i64 v109.Imm, .string ⟨v109.Params.toArray⟩, .string ⟨v109.Result.toArray⟩, .bool v109.Free]) rfl rfl rfl rfl rfl cn_117 rfl rfl rfl rfl) fun _ => ?_
    refine TO.ent (L' := arr ops_Info.rep b103 f70.c1 :: pts b101 [.string ⟨v109.Name.toArray⟩, .int .i64 v109.Imm, .string ⟨v109.Params.toArray⟩, .string ⟨v109.Result.toArray⟩, .bool v109.Free] :: R) (fun w h => h) ?_
    refine TO.end rfl ?_
    refine TQ.then ?_
    refine T.ret rfl ?_
    refine TQ.passThenRet ?_
    refine TQ.result (.inl rfl) rfl (Res.cellN (k := 1) rfl rfl ag_117 Res.nil) rfl (fun w h => ?_)
    cases hm
    exact ⟨(), rfl, ((h).ent (Ent.drop _ _)).ent (Ent.drop _ _)⟩
  · replace hm := ite_f hm h108
    refine T.skip rfl ?_
    refine TQ.then ?_
    refine T.seq rfl ?_
    refine T.region rfl ?_
    refine TO.go rfl rfl rfl (Does.build (v := .agg #[.string ⟨([] : List UInt8).toArray⟩, .int .i64 0, .string ⟨([] : List UInt8).toArray⟩, .string ⟨([] : List UInt8).toArray⟩, .bool false]) (vs := []) rfl rfl (fun w => by kernel_rfl)) fun _ => ?_
    refine TO.go0 rfl rfl (Does.storePts (k := 1) (vs := [.string ⟨([] : List UInt8).toArray⟩, .int .i64 0, .string ⟨([] : List UInt8).toArray⟩, .string ⟨([] : List UInt8).toArray⟩, .bool false]) (cs' := [.string ⟨([] : List UInt8).toArray⟩, .int .i64 0, .string ⟨([] : List UInt8).toArray⟩, .string ⟨([] : List UInt8).toArray⟩, .bool false]) rfl rfl rfl rfl rfl cn_117 rfl rfl rfl rfl) fun _ => ?_
    refine TO.ent (L' := arr ops_Info.rep b103 f70.c1 :: pts b101 [.string ⟨([] : List UInt8).toArray⟩, .int .i64 0, .string ⟨([] : List UInt8).toArray⟩, .string ⟨([] : List UInt8).toArray⟩, .bool false] :: R) (fun w h => h) ?_
    refine TO.end rfl ?_
    refine TQ.then ?_
    refine T.ret rfl ?_
    refine TQ.result (.inl rfl) rfl (Res.cellN (k := 1) rfl rfl ag_117 Res.nil) rfl (fun w h => ?_)
    cases hm
    exact ⟨(), rfl, ((h).ent (Ent.drop _ _)).ent (Ent.drop _ _)⟩

end Go.Proofs.Ytfonekhhbmlkbaa
