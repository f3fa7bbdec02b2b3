/- Mirrors of functions, and that the Go functions compute them. Printed by gofun.py. -/
import Derived.Test.YtfonekhhbmlkbaaG5
set_option linter.unusedVariables false
set_option linter.unusedSimpArgs false
namespace Go.Proofs.Ytfonekhhbmlkbaa
open Go Go.Sym
/-- (*creel/ctrl.Control).WantAll -/
def f81.f (v0 : ctrl_Control) (v1 : List UInt8) : Option (Int × ctrl_Control) :=
  ((f89.f v0).bind fun v101 => (if (!v101.2) = true then some (30, v0) else ((f93.f v0.Stack v1 v101.1.Height v101.1.Dead).bind fun v145 => some (v145.1, ({ frames := v0.frames, Stack := v145.2 } : ctrl_Control)))))
set_option maxRecDepth 20000 in
set_option maxHeartbeats 1000000 in
theorem f81.ok {W w : World} {R : List Assn} (v0 : ctrl_Control) (b0 : Nat) (v1 : List UInt8) {r : Int × ctrl_Control} (hm : f81.f v0 v1 = some r) (hs : St W w (ptr ctrl_Control.rep b0 v0 :: R)) :
    Calls Try.prog 81 #[.pointer (some ⟨b0, 0, none⟩), .string ⟨v1.toArray⟩] w (fun e w' => ∃ x : Unit, e = .returned (.int .i64 r.1) ∧ St W w' (ptr ctrl_Control.rep b0 r.2 :: R)) := by
  unfold f81.f at hm
  refine calls_sym (vs := [.pointer (some ⟨b0, 0, none⟩), .string ⟨v1.toArray⟩]) Try.func81 rfl rfl hs ?_
  refine T.seq rfl ?_
  refine T.region rfl ?_
  refine TO.go rfl rfl rfl (Does.assign (v := .int .i64 0) rfl rfl) fun _ => ?_
  refine TO.end rfl ?_
  refine TQ.then ?_
  refine T.seq rfl ?_
  refine T.region rfl ?_
  refine TO.go rfl rfl rfl (Does.move rfl rfl) fun _ => ?_
  obtain ⟨v101, h102, hm⟩ := bind_o hm
  refine TO.go rfl rfl rfl (Does.call (vs := [.pointer (some ⟨b0, 0, none⟩)]) rfl co_89 rfl (fun w h => f89.ok v0 b0 h102 (h))) fun _ => ?_
  refine TO.go rfl rfl rfl (Does.move rfl rfl) fun _ => ?_
  refine TO.go rfl rfl rfl (Does.extract rfl rfl rfl) fun _ => ?_
  refine TO.go rfl rfl rfl (Does.extract rfl rfl rfl) fun _ => ?_
  refine TO.go rfl rfl rfl (Does.alloc rfl zn_136) fun b103 => ?_
  refine TO.ent (L' := pts b103 [.int .u8 (0 : UInt8).toNat, .string ⟨([] : List UInt8).toArray⟩, .int .i64 0, .bool false] :: ptr ctrl_Control.rep b0 v0 :: R) (fun w h => h) ?_
  refine TO.go0 rfl rfl (Does.storePts (k := 0) (vs := [.int .u8 v101.1.Op.toNat, .string ⟨v101.1.Results.toArray⟩, .int .i64 v101.1.Height, .bool v101.1.Dead]) (cs' := [.int .u8 v101.1.Op.toNat, .string ⟨v101.1.Results.toArray⟩, .int .i64 v101.1.Height, .bool v101.1.Dead]) rfl rfl rfl rfl rfl cn_136 rfl rfl rfl rfl) fun _ => ?_
  refine TO.ent (L' := pts b103 [.int .u8 v101.1.Op.toNat, .string ⟨v101.1.Results.toArray⟩, .int .i64 v101.1.Height, .bool v101.1.Dead] :: ptr ctrl_Control.rep b0 v0 :: R) (fun w h => h) ?_
  refine TO.go rfl rfl rfl (Does.assign rfl rfl) fun _ => ?_
  refine TO.end rfl ?_
  refine TQ.then ?_
  refine T.seq rfl ?_
  refine T.seq rfl ?_
  refine T.region rfl ?_
  refine TO.go rfl rfl rfl (Does.move rfl rfl) fun _ => ?_
  refine TO.go rfl rfl rfl (Does.un (v := .bool (!v101.2)) rfl rfl (fun w => rfl)) fun _ => ?_
  refine TO.end rfl ?_
  refine TQ.then ?_
  refine T.cond rfl (b := (!v101.2)) rfl (fun h106 => ?_) (fun h106 => ?_)
  · replace hm := ite_t hm h106
    refine T.seq rfl ?_
    refine T.region rfl ?_
    refine TO.go rfl rfl rfl (Does.assign (v := .int .i64 30) rfl rfl) fun _ => ?_
    refine TO.end rfl ?_
    refine TQ.then ?_
    refine T.ret rfl ?_
    refine TQ.passThenRet ?_
    refine TQ.result (.inl rfl) rfl (Res.tmp rfl Res.nil) rfl (fun w h => ?_)
    cases hm
    exact ⟨(), rfl, (h).ent (Ent.drop _ _)⟩
  · replace hm := ite_f hm h106
    refine T.skip rfl ?_
    refine TQ.then ?_
    refine T.seq rfl ?_
    refine T.st (X := List Value) (p := fun _ => True) (fun w h => let ⟨cs, h⟩ := open_ptr (h.ent (Ent.take 1 rfl)); ⟨cs, trivial, h⟩) ?_
    intro cs133 _
    refine T.st (fun w h => ctrl_Control.open h) ?_
    rintro ⟨a128, n129, b131⟩ rfl
    refine T.draw [0, 1, 2, 3, 4, 5, 6, 7, 8] rfl mixed ?_
    refine RA.quiet (i := 0) (v := .pointer (some ⟨b0, 0, none⟩)) PendOK.nil rfl rfl rfl rfl rfl rfl (Does.move rfl rfl) fun h136 => ?_
    refine RA.quiet (i := 1) (v := .pointer (some ⟨b0, 0, none⟩)) h136 rfl rfl rfl rfl rfl rfl (Does.nilCheck rfl rfl) fun h137 => ?_
    refine RA.quiet (i := 2) (v := .pointer (some ⟨b0, 1, none⟩)) h137 rfl rfl rfl rfl rfl rfl (Does.fieldAddr (o' := 1) rfl rfl fo_113_1 rfl) fun h138 => ?_
    refine RA.quiet (i := 3) (v := .pointer (some ⟨b131, 0, none⟩)) h138 rfl rfl rfl rfl rfl rfl (Does.loadPts (k := 2) (v := .pointer (some ⟨b131, 0, none⟩)) rfl rfl sc_108 rfl rfl) fun h139 => ?_
    refine RA.quiet (i := 4) (v := .string ⟨v1.toArray⟩) h139 rfl rfl rfl rfl rfl rfl (Does.move rfl rfl) fun h140 => ?_
    refine RA.quiet (i := 5) (v := .pointer (some ⟨b103, 2, none⟩)) h140 rfl rfl rfl rfl rfl rfl (Does.fieldAddr (o' := 2) rfl rfl fo_136_2 rfl) fun h141 => ?_
    refine RA.quiet (i := 6) (v := .int .i64 v101.1.Height) h141 rfl rfl rfl rfl rfl rfl (Does.loadPts (k := 3) (v := .int .i64 v101.1.Height) rfl rfl sc_3 rfl rfl) fun h142 => ?_
    refine RA.quiet (i := 7) (v := .pointer (some ⟨b103, 3, none⟩)) h142 rfl rfl rfl rfl rfl rfl (Does.fieldAddr (o' := 3) rfl rfl fo_136_3 rfl) fun h143 => ?_
    refine RA.quiet (i := 8) (v := .bool v101.1.Dead) h143 rfl rfl rfl rfl rfl rfl (Does.loadPts (k := 3) (v := .bool v101.1.Dead) rfl rfl sc_4 rfl rfl) fun h144 => ?_
    obtain ⟨v145, h146, hm⟩ := bind_o hm
    refine RA.eff (k := 9) (pend' := [(7, .pointer (some ⟨b103, 3, none⟩)), (5, .pointer (some ⟨b103, 2, none⟩)), (2, .pointer (some ⟨b0, 1, none⟩)), (1, .pointer (some ⟨b0, 0, none⟩)), (0, .pointer (some ⟨b0, 0, none⟩))]) (by kernel_rfl) h144 rfl (.inl ⟨_, rfl, rfl, fun _ => rfl⟩) rfl (by kernel_rfl) (Does.call (vs := [.pointer (some ⟨b131, 0, none⟩), .string ⟨v1.toArray⟩, .int .i64 v101.1.Height, .bool v101.1.Dead]) rfl co_93 rfl (fun w h => f93.ok v0.Stack b131 v1 v101.1.Height v101.1.Dead h146 (h))) rfl (fun _ => (List.forall_mem_cons.2 ⟨⟨_, rfl, Does.fieldAddr (o' := 3) rfl rfl fo_136_3 rfl⟩, (List.forall_mem_cons.2 ⟨⟨_, rfl, Does.fieldAddr (o' := 2) rfl rfl fo_136_2 rfl⟩, (List.forall_mem_cons.2 ⟨⟨_, rfl, Does.fieldAddr (o' := 1) rfl rfl fo_113_1 rfl⟩, (List.forall_mem_cons.2 ⟨⟨_, rfl, Does.nilCheck rfl rfl⟩, (List.forall_mem_cons.2 ⟨⟨_, rfl, Does.move rfl rfl⟩, (fun _ h => by cases h)⟩)⟩)⟩)⟩)⟩)) (fun _ h147 => ?_)
    refine RA.eff (k := 10) (pend' := []) (by kernel_rfl) h147 rfl (.inl ⟨_, rfl, rfl, fun _ => rfl⟩) rfl (by kernel_rfl) (Does.assign rfl rfl) rfl (fun _ => (fun _ h => by cases h)) (fun _ h148 => ?_)
    refine RA.done (by kernel_rfl) h148 rfl ?_
    refine TQ.then ?_
    refine T.ret rfl ?_
    refine TQ.result (.inl rfl) rfl (Res.tmp rfl Res.nil) rfl (fun w h => ?_)
    cases hm
    exact ⟨(), rfl, ((shut_ptr (ctrl_Control.shut (x := ({ frames := v0.frames, Stack := v145.2 } : ctrl_Control)) (a128, n129, b131) ((((h).ent (Ent.take 2 rfl)).ent (Ent.take 2 rfl)).ent (Ent.take 2 rfl)))).ent (Ent.take 1 rfl)).ent (Ent.drop _ _)⟩

/-- (*creel/opstack.Stack).PushAll -/
def f84.f (v0 : opstack_Stack) (v1 : List UInt8) : Option opstack_Stack :=
  ((ap 1 v0.list v1).bind fun v105 => some ({ list := v105 } : opstack_Stack))
set_option maxRecDepth 20000 in
set_option maxHeartbeats 1000000 in
theorem f84.ok {W w : World} {R : List Assn} (v0 : opstack_Stack) (b0 : Nat) (v1 : List UInt8) {r : opstack_Stack} (hm : f84.f v0 v1 = some r) (hs : St W w (ptr opstack_Stack.rep b0 v0 :: R)) :
    Calls Try.prog 84 #[.pointer (some ⟨b0, 0, none⟩), .string ⟨v1.toArray⟩] w (fun e w' => ∃ x : Unit, e = .returned (.tuple #[]) ∧ St W w' (ptr opstack_Stack.rep b0 r :: R)) := by
  unfold f84.f at hm
  refine calls_sym (vs := [.pointer (some ⟨b0, 0, none⟩), .string ⟨v1.toArray⟩]) Try.func84 rfl rfl hs ?_
  refine T.region rfl ?_
  refine TO.go rfl rfl rfl (Does.move rfl rfl) fun _ => ?_
  refine TO.go rfl rfl rfl (Does.move rfl rfl) fun _ => ?_
  refine TO.go rfl rfl rfl (Does.nilCheck rfl rfl) fun _ => ?_
  refine TO.go rfl rfl rfl (Does.fieldAddr (o' := 0) rfl rfl fo_110_0 rfl) fun _ => ?_
  refine TO.st (X := List Value) (p := fun _ => True) (fun w h => let ⟨cs, h⟩ := open_ptr (h); ⟨cs, trivial, h⟩) ?_
  intro cs104 _
  refine TO.st (fun w h => opstack_Stack.open h) ?_
  rintro ⟨a101, n102⟩ rfl
  refine TO.go rfl rfl rfl (Does.loadPts (k := 1) (v := .slice a101 v0.list.length n102) rfl rfl sc_107 rfl rfl) fun _ => ?_
  refine TO.go rfl rfl rfl (Does.move rfl rfl) fun _ => ?_
  obtain ⟨v105, h106, hm⟩ := bind_o hm
  refine TO.go rfl rfl rfl (Does.append (r := rU8) (k := 0) (l := v0.list) (l2 := v1) rfl rfl rfl sl_107 zn_5 rfl rfl (Srcs.str ss_9) h106) (fun ⟨a107, n108⟩ => ?_)
  refine TO.ent (L' := own rU8 a107 n108 v105 :: pts b0 [.slice a101 v0.list.length n102] :: R) (fun w h => h) ?_
  refine TO.go rfl rfl rfl (Does.nilCheck rfl rfl) fun _ => ?_
  refine TO.go rfl rfl rfl (Does.fieldAddr (o' := 0) rfl rfl fo_110_0 rfl) fun _ => ?_
  refine TO.go0 rfl rfl (Does.storePts (k := 1) (vs := [.slice a107 v105.length n108]) (cs' := [.slice a107 v105.length n108]) rfl rfl rfl rfl rfl cn_107 rfl rfl rfl rfl) fun _ => ?_
  refine TO.ent (L' := own rU8 a107 n108 v105 :: pts b0 [.slice a107 v105.length n108] :: R) (fun w h => h) ?_
  refine TO.end rfl ?_
  refine TQ.result (.inr rfl) rfl Res.nil rfl (fun w h => ?_)
  cases hm
  exact ⟨(), rfl, shut_ptr (opstack_Stack.shut (x := ({ list := v105 } : opstack_Stack)) (a107, n108) (((h).ent (Ent.take 1 rfl)).ent (Ent.take 1 rfl)))⟩

/-- (*creel/check.checker).gives -/
def f53.f (v0 : check_checker) (v1 : List UInt8) (v2 : List UInt8) : Option (Int × check_checker) :=
  ((f81.f v0.c v1).bind fun v115 => (if (v115.1 != 0) = true then some (v115.1, ({ env := v0.env, locals := v0.locals, c := v115.2, result := v0.result } : check_checker)) else ((f84.f v115.2.Stack v2).bind fun v124 => some (0, ({ env := v0.env, locals := v0.locals, c := ({ frames := v115.2.frames, Stack := v124 } : ctrl_Control), result := v0.result } : check_checker)))))
set_option maxRecDepth 20000 in
set_option maxHeartbeats 1000000 in
theorem f53.ok {W w : World} {R : List Assn} (v0 : check_checker) (b0 : Nat) (a101 : Option Addr) (n102 : Nat) (a104 : Option Addr) (n105 : Nat) (a107 : Option Addr) (n108 : Nat) (b110 : Nat) (v1 : List UInt8) (v2 : List UInt8) {r : Int × check_checker} (hm : f53.f v0 v1 v2 = some r) (hs : St W w (pts b0 [.slice a101 v0.env.Types.length n102, .slice a104 v0.env.Funcs.length n105, .slice a107 v0.env.Globals.length n108, .bool v0.env.Table, .bool v0.env.Mem, .string ⟨v0.locals.toArray⟩, .pointer (some ⟨b110, 0, none⟩), .string ⟨v0.result.toArray⟩] :: ptr ctrl_Control.rep b110 v0.c :: ro api_GlobalType.rep a107 n108 v0.env.Globals :: ro (rI .u32) a104 n105 v0.env.Funcs :: ro api_FuncType.rep a101 n102 v0.env.Types :: R)) :
    Calls Try.prog 53 #[.pointer (some ⟨b0, 0, none⟩), .string ⟨v1.toArray⟩, .string ⟨v2.toArray⟩] w (fun e w' => ∃ x : Unit, e = .returned (.int .i64 r.1) ∧ St W w' (pts b0 [.slice a101 v0.env.Types.length n102, .slice a104 v0.env.Funcs.length n105, .slice a107 v0.env.Globals.length n108, .bool v0.env.Table, .bool v0.env.Mem, .string ⟨v0.locals.toArray⟩, .pointer (some ⟨b110, 0, none⟩), .string ⟨v0.result.toArray⟩] :: ptr ctrl_Control.rep b110 r.2.c :: R)) := by
  unfold f53.f at hm
  refine calls_sym (vs := [.pointer (some ⟨b0, 0, none⟩), .string ⟨v1.toArray⟩, .string ⟨v2.toArray⟩]) Try.func53 rfl rfl hs ?_
  refine T.seq rfl ?_
  refine T.region rfl ?_
  refine TO.go rfl rfl rfl (Does.assign (v := .int .i64 0) rfl rfl) fun _ => ?_
  refine TO.end rfl ?_
  refine TQ.then ?_
  refine T.seq rfl ?_
  refine T.seq rfl ?_
  refine T.region rfl ?_
  refine TO.go rfl rfl rfl (Does.move rfl rfl) fun _ => ?_
  refine TO.go rfl rfl rfl (Does.nilCheck rfl rfl) fun _ => ?_
  refine TO.go rfl rfl rfl (Does.fieldAddr (o' := 6) rfl rfl fo_76_2 rfl) fun _ => ?_
  refine TO.go rfl rfl rfl (Does.loadPts (k := 0) (v := .pointer (some ⟨b110, 0, none⟩)) rfl rfl sc_73 rfl rfl) fun _ => ?_
  refine TO.go rfl rfl rfl (Does.move rfl rfl) fun _ => ?_
  obtain ⟨v115, h116, hm⟩ := bind_o hm
  refine TO.go rfl rfl rfl (Does.call (vs := [.pointer (some ⟨b110, 0, none⟩), .string ⟨v1.toArray⟩]) rfl co_81 rfl (fun w h => f81.ok v0.c b110 v1 h116 ((h).ent (Ent.take 1 rfl)))) fun _ => ?_
  refine TO.ent (L' := ptr ctrl_Control.rep b110 v115.2 :: pts b0 [.slice a101 v0.env.Types.length n102, .slice a104 v0.env.Funcs.length n105, .slice a107 v0.env.Globals.length n108, .bool v0.env.Table, .bool v0.env.Mem, .string ⟨v0.locals.toArray⟩, .pointer (some ⟨b110, 0, none⟩), .string ⟨v0.result.toArray⟩] :: ro api_GlobalType.rep a107 n108 v0.env.Globals :: ro (rI .u32) a104 n105 v0.env.Funcs :: ro api_FuncType.rep a101 n102 v0.env.Types :: R) (fun w h => h) ?_
  refine TO.go rfl rfl rfl (Does.assign rfl rfl) fun _ => ?_
  refine TO.end rfl ?_
  refine TQ.then ?_
  refine T.seq rfl ?_
  refine T.region rfl ?_
  refine TO.go rfl rfl rfl (Does.move rfl rfl) fun _ => ?_
  refine TO.go rfl rfl rfl (Does.bin (v := .bool (v115.1 != 0)) (vy := .int .i64 0) rfl rfl rfl g_int b_ne) fun _ => ?_
  refine TO.end rfl ?_
  refine TQ.then ?_
  refine T.cond rfl (b := (v115.1 != 0)) rfl (fun h117 => ?_) (fun h117 => ?_)
  · replace hm := ite_t hm h117
    refine T.seq rfl ?_
    refine T.region rfl ?_
    refine TO.go rfl rfl rfl (Does.move rfl rfl) fun _ => ?_
    refine TO.go rfl rfl rfl (Does.assign rfl rfl) fun _ => ?_
    refine TO.end rfl ?_
    refine TQ.then ?_
    refine T.ret rfl ?_
    refine TQ.passThenRet ?_
    refine TQ.result (.inl rfl) rfl (Res.tmp rfl Res.nil) rfl (fun w h => ?_)
    cases hm
    exact ⟨(), rfl, (((((((h).ent (Ent.take 2 rfl)).ent (Ent.drop _ _)).ent (Ent.take 2 rfl)).ent (Ent.drop _ _)).ent (Ent.take 2 rfl)).ent (Ent.drop _ _)).ent (Ent.take 1 rfl)⟩
  · replace hm := ite_f hm h117
    refine T.skip rfl ?_
    refine TQ.then ?_
    refine T.seq rfl ?_
    refine T.region rfl ?_
    refine TO.go rfl rfl rfl (Does.move rfl rfl) fun _ => ?_
    refine TO.go rfl rfl rfl (Does.nilCheck rfl rfl) fun _ => ?_
    refine TO.go rfl rfl rfl (Does.fieldAddr (o' := 6) rfl rfl fo_76_2 rfl) fun _ => ?_
    refine TO.go rfl rfl rfl (Does.loadPts (k := 1) (v := .pointer (some ⟨b110, 0, none⟩)) rfl rfl sc_73 rfl rfl) fun _ => ?_
    refine TO.go rfl rfl rfl (Does.nilCheck rfl rfl) fun _ => ?_
    refine TO.go rfl rfl rfl (Does.fieldAddr (o' := 1) rfl rfl fo_113_1 rfl) fun _ => ?_
    refine TO.st (X := List Value) (p := fun _ => True) (fun w h => let ⟨cs, h⟩ := open_ptr (h); ⟨cs, trivial, h⟩) ?_
    intro cs123 _
    refine TO.st (fun w h => ctrl_Control.open h) ?_
    rintro ⟨a118, n119, b121⟩ rfl
    refine TO.go rfl rfl rfl (Does.loadPts (k := 2) (v := .pointer (some ⟨b121, 0, none⟩)) rfl rfl sc_108 rfl rfl) fun _ => ?_
    refine TO.go rfl rfl rfl (Does.move rfl rfl) fun _ => ?_
    obtain ⟨v124, h125, hm⟩ := bind_o hm
    refine TO.go rfl rfl rfl (Does.call (vs := [.pointer (some ⟨b121, 0, none⟩), .string ⟨v2.toArray⟩]) rfl co_84 rfl (fun w h => f84.ok v115.2.Stack b121 v2 h125 (h))) fun _ => ?_
    refine TO.ent (L' := ptr opstack_Stack.rep b121 v124 :: own ctrl_Frame.rep a118 n119 v115.2.frames :: pts b110 [.slice a118 v115.2.frames.length n119, .pointer (some ⟨b121, 0, none⟩)] :: pts b0 [.slice a101 v0.env.Types.length n102, .slice a104 v0.env.Funcs.length n105, .slice a107 v0.env.Globals.length n108, .bool v0.env.Table, .bool v0.env.Mem, .string ⟨v0.locals.toArray⟩, .pointer (some ⟨b110, 0, none⟩), .string ⟨v0.result.toArray⟩] :: ro api_GlobalType.rep a107 n108 v0.env.Globals :: ro (rI .u32) a104 n105 v0.env.Funcs :: ro api_FuncType.rep a101 n102 v0.env.Types :: R) (fun w h => h) ?_
    refine TO.end rfl ?_
    refine TQ.then ?_
    refine T.seq rfl ?_
    refine T.region rfl ?_
    refine TO.go rfl rfl rfl (Does.assign (v := .int .i64 0) rfl rfl) fun _ => ?_
    refine TO.end rfl ?_
    refine TQ.then ?_
    refine T.ret rfl ?_
    refine TQ.result (.inl rfl) rfl (Res.tmp rfl Res.nil) rfl (fun w h => ?_)
    cases hm
    exact ⟨(), rfl, (((((((shut_ptr (ctrl_Control.shut (x := ({ frames := v115.2.frames, Stack := v124 } : ctrl_Control)) (a118, n119, b121) ((((h).ent (Ent.take 2 rfl)).ent (Ent.take 2 rfl)).ent (Ent.take 2 rfl)))).ent (Ent.take 2 rfl)).ent (Ent.drop _ _)).ent (Ent.take 2 rfl)).ent (Ent.drop _ _)).ent (Ent.take 2 rfl)).ent (Ent.drop _ _)).ent (Ent.take 1 rfl)⟩

/-- (*creel/ctrl.Control).Want -/
def f75.f (v0 : ctrl_Control) (v1 : UInt8) : Option (UInt8 × Int × ctrl_Control) :=
  ((f89.f v0).bind fun v101 => (if (!v101.2) = true then some ((0 : UInt8), 30, v0) else ((f91.f v0.Stack v1 v101.1.Height v101.1.Dead).bind fun v148 => some (v148.1, v148.2.1, ({ frames := v0.frames, Stack := v148.2.2 } : ctrl_Control)))))
set_option maxRecDepth 20000 in
set_option maxHeartbeats 1000000 in
theorem f75.ok {W w : World} {R : List Assn} (v0 : ctrl_Control) (b0 : Nat) (v1 : UInt8) {r : UInt8 × Int × ctrl_Control} (hm : f75.f v0 v1 = some r) (hs : St W w (ptr ctrl_Control.rep b0 v0 :: R)) :
    Calls Try.prog 75 #[.pointer (some ⟨b0, 0, none⟩), .int .u8 v1.toNat] w (fun e w' => ∃ x : Unit, e = .returned (.tuple #[.int .u8 r.1.toNat, .int .i64 r.2.1]) ∧ St W w' (ptr ctrl_Control.rep b0 r.2.2 :: R)) := by
  unfold f75.f at hm
  refine calls_sym (vs := [.pointer (some ⟨b0, 0, none⟩), .int .u8 v1.toNat]) Try.func75 rfl rfl hs ?_
  refine T.seq rfl ?_
  refine T.region rfl ?_
  refine TO.go rfl rfl rfl (Does.assign (v := .int .u8 (0 : UInt8).toNat) rfl rfl) fun _ => ?_
  refine TO.go rfl rfl rfl (Does.assign (v := .int .i64 0) rfl rfl) fun _ => ?_
  refine TO.end rfl ?_
  refine TQ.then ?_
  refine T.seq rfl ?_
  refine T.region rfl ?_
  refine TO.go rfl rfl rfl (Does.move rfl rfl) fun _ => ?_
  obtain ⟨v101, h102, hm⟩ := bind_o hm
  refine TO.go rfl rfl rfl (Does.call (vs := [.pointer (some ⟨b0, 0, none⟩)]) rfl co_89 rfl (fun w h => f89.ok v0 b0 h102 (h))) fun _ => ?_
  refine TO.go rfl rfl rfl (Does.move rfl rfl) fun _ => ?_
  refine TO.go rfl rfl rfl (Does.extract rfl rfl rfl) fun _ => ?_
  refine TO.go rfl rfl rfl (Does.extract rfl rfl rfl) fun _ => ?_
  refine TO.go rfl rfl rfl (Does.alloc rfl zn_136) fun b103 => ?_
  refine TO.ent (L' := pts b103 [.int .u8 (0 : UInt8).toNat, .string ⟨([] : List UInt8).toArray⟩, .int .i64 0, .bool false] :: ptr ctrl_Control.rep b0 v0 :: R) (fun w h => h) ?_
  refine TO.go0 rfl rfl (Does.storePts (k := 0) (vs := [.int .u8 v101.1.Op.toNat, .string ⟨v101.1.Results.toArray⟩, .int .i64 v101.1.Height, .bool v101.1.Dead]) (cs' := [.int .u8 v101.1.Op.toNat, .string ⟨v101.1.Results.toArray⟩, .int .i64 v101.1.Height, .bool v101.1.Dead]) rfl rfl rfl rfl rfl cn_136 rfl rfl rfl rfl) fun _ => ?_
  refine TO.ent (L' := pts b103 [.int .u8 v101.1.Op.toNat, .string ⟨v101.1.Results.toArray⟩, .int .i64 v101.1.Height, .bool v101.1.Dead] :: ptr ctrl_Control.rep b0 v0 :: R) (fun w h => h) ?_
  refine TO.go rfl rfl rfl (Does.assign rfl rfl) fun _ => ?_
  refine TO.end rfl ?_
  refine TQ.then ?_
  refine T.seq rfl ?_
  refine T.seq rfl ?_
  refine T.region rfl ?_
  refine TO.go rfl rfl rfl (Does.move rfl rfl) fun _ => ?_
  refine TO.go rfl rfl rfl (Does.un (v := .bool (!v101.2)) rfl rfl (fun w => rfl)) fun _ => ?_
  refine TO.end rfl ?_
  refine TQ.then ?_
  refine T.cond rfl (b := (!v101.2)) rfl (fun h106 => ?_) (fun h106 => ?_)
  · replace hm := ite_t hm h106
    refine T.seq rfl ?_
    refine T.region rfl ?_
    refine TO.go rfl rfl rfl (Does.assign (v := .int .u8 (0 : UInt8).toNat) rfl rfl) fun _ => ?_
    refine TO.go rfl rfl rfl (Does.assign (v := .int .i64 30) rfl rfl) fun _ => ?_
    refine TO.end rfl ?_
    refine TQ.then ?_
    refine T.ret rfl ?_
    refine TQ.passThenRet ?_
    refine TQ.result (.inl rfl) rfl (Res.tmp rfl (Res.tmp rfl Res.nil)) rfl (fun w h => ?_)
    cases hm
    exact ⟨(), rfl, (h).ent (Ent.drop _ _)⟩
  · replace hm := ite_f hm h106
    refine T.skip rfl ?_
    refine TQ.then ?_
    refine T.seq rfl ?_
    refine T.st (X := List Value) (p := fun _ => True) (fun w h => let ⟨cs, h⟩ := open_ptr (h.ent (Ent.take 1 rfl)); ⟨cs, trivial, h⟩) ?_
    intro cs136 _
    refine T.st (fun w h => ctrl_Control.open h) ?_
    rintro ⟨a131, n132, b134⟩ rfl
    refine T.draw [0, 1, 2, 3, 4, 5, 6, 7, 8, 10, 11] rfl mixed ?_
    refine RA.quiet (i := 0) (v := .pointer (some ⟨b0, 0, none⟩)) PendOK.nil rfl rfl rfl rfl rfl rfl (Does.move rfl rfl) fun h139 => ?_
    refine RA.quiet (i := 1) (v := .pointer (some ⟨b0, 0, none⟩)) h139 rfl rfl rfl rfl rfl rfl (Does.nilCheck rfl rfl) fun h140 => ?_
    refine RA.quiet (i := 2) (v := .pointer (some ⟨b0, 1, none⟩)) h140 rfl rfl rfl rfl rfl rfl (Does.fieldAddr (o' := 1) rfl rfl fo_113_1 rfl) fun h141 => ?_
    refine RA.quiet (i := 3) (v := .pointer (some ⟨b134, 0, none⟩)) h141 rfl rfl rfl rfl rfl rfl (Does.loadPts (k := 2) (v := .pointer (some ⟨b134, 0, none⟩)) rfl rfl sc_108 rfl rfl) fun h142 => ?_
    refine RA.quiet (i := 4) (v := .int .u8 v1.toNat) h142 rfl rfl rfl rfl rfl rfl (Does.move rfl rfl) fun h143 => ?_
    refine RA.quiet (i := 5) (v := .pointer (some ⟨b103, 2, none⟩)) h143 rfl rfl rfl rfl rfl rfl (Does.fieldAddr (o' := 2) rfl rfl fo_136_2 rfl) fun h144 => ?_
    refine RA.quiet (i := 6) (v := .int .i64 v101.1.Height) h144 rfl rfl rfl rfl rfl rfl (Does.loadPts (k := 3) (v := .int .i64 v101.1.Height) rfl rfl sc_3 rfl rfl) fun h145 => ?_
    refine RA.quiet (i := 7) (v := .pointer (some ⟨b103, 3, none⟩)) h145 rfl rfl rfl rfl rfl rfl (Does.fieldAddr (o' := 3) rfl rfl fo_136_3 rfl) fun h146 => ?_
    refine RA.quiet (i := 8) (v := .bool v101.1.Dead) h146 rfl rfl rfl rfl rfl rfl (Does.loadPts (k := 3) (v := .bool v101.1.Dead) rfl rfl sc_4 rfl rfl) fun h147 => ?_
    obtain ⟨v148, h149, hm⟩ := bind_o hm
    refine RA.eff (k := 9) (pend' := [(7, .pointer (some ⟨b103, 3, none⟩)), (5, .pointer (some ⟨b103, 2, none⟩)), (2, .pointer (some ⟨b0, 1, none⟩)), (1, .pointer (some ⟨b0, 0, none⟩)), (0, .pointer (some ⟨b0, 0, none⟩))]) (by kernel_rfl) h147 rfl (.inl ⟨_, rfl, rfl, fun _ => rfl⟩) rfl (by kernel_rfl) (Does.call (vs := [.pointer (some ⟨b134, 0, none⟩), .int .u8 v1.toNat, .int .i64 v101.1.Height, .bool v101.1.Dead]) rfl co_91 rfl (fun w h => f91.ok v0.Stack b134 v1 v101.1.Height v101.1.Dead h149 (h))) rfl (fun _ => (List.forall_mem_cons.2 ⟨⟨_, rfl, Does.fieldAddr (o' := 3) rfl rfl fo_136_3 rfl⟩, (List.forall_mem_cons.2 ⟨⟨_, rfl, Does.fieldAddr (o' := 2) rfl rfl fo_136_2 rfl⟩, (List.forall_mem_cons.2 ⟨⟨_, rfl, Does.fieldAddr (o' := 1) rfl rfl fo_113_1 rfl⟩, (List.forall_mem_cons.2 ⟨⟨_, rfl, Does.nilCheck rfl rfl⟩, (List.forall_mem_cons.2 ⟨⟨_, rfl, Does.move rfl rfl⟩, (fun _ h => by cases h)⟩)⟩)⟩)⟩)⟩)) (fun _ h150 => ?_)
    refine RA.quiet (i := 10) (v := .int .u8 v148.1.toNat) h150 rfl rfl rfl rfl rfl rfl (Does.extract rfl rfl rfl) fun h151 => ?_
    refine RA.quiet (i := 11) (v := .int .i64 v148.2.1) h151 rfl rfl rfl rfl rfl rfl (Does.extract rfl rfl rfl) fun h152 => ?_
    refine RA.eff (k := 12) (pend' := []) (by kernel_rfl) h152 rfl (.inl ⟨_, rfl, rfl, fun _ => rfl⟩) rfl (by kernel_rfl) (Does.assign rfl rfl) rfl (fun _ => (fun _ h => by cases h)) (fun _ h153 => ?_)
    refine RA.eff (k := 13) (pend' := []) (by kernel_rfl) h153 rfl (.inl ⟨_, rfl, rfl, fun _ => rfl⟩) rfl (by kernel_rfl) (Does.assign rfl rfl) rfl (fun _ => (fun _ h => by cases h)) (fun _ h154 => ?_)
    refine RA.done (by kernel_rfl) h154 rfl ?_
    refine TQ.then ?_
    refine T.ret rfl ?_
    refine TQ.result (.inl rfl) rfl (Res.tmp rfl (Res.tmp rfl Res.nil)) rfl (fun w h => ?_)
    cases hm
    exact ⟨(), rfl, ((shut_ptr (ctrl_Control.shut (x := ({ frames := v0.frames, Stack := v148.2.2 } : ctrl_Control)) (a131, n132, b134) ((((h).ent (Ent.take 2 rfl)).ent (Ent.take 2 rfl)).ent (Ent.take 2 rfl)))).ent (Ent.take 1 rfl)).ent (Ent.drop _ _)⟩

/-- (*creel/check.checker).want -/
def f73.f (v0 : check_checker) (v1 : UInt8) : Option (Int × check_checker) :=
  ((f75.f v0.c v1).bind fun v112 => some (v112.2.1, ({ env := v0.env, locals := v0.locals, c := v112.2.2, result := v0.result } : check_checker)))
set_option maxRecDepth 20000 in
set_option maxHeartbeats 1000000 in
theorem f73.ok {W w : World} {R : List Assn} (v0 : check_checker) (b0 : Nat) (a101 : Option Addr) (n102 : Nat) (a104 : Option Addr) (n105 : Nat) (a107 : Option Addr) (n108 : Nat) (b110 : Nat) (v1 : UInt8) {r : Int × check_checker} (hm : f73.f v0 v1 = some r) (hs : St W w (pts b0 [.slice a101 v0.env.Types.length n102, .slice a104 v0.env.Funcs.length n105, .slice a107 v0.env.Globals.length n108, .bool v0.env.Table, .bool v0.env.Mem, .string ⟨v0.locals.toArray⟩, .pointer (some ⟨b110, 0, none⟩), .string ⟨v0.result.toArray⟩] :: ptr ctrl_Control.rep b110 v0.c :: ro api_GlobalType.rep a107 n108 v0.env.Globals :: ro (rI .u32) a104 n105 v0.env.Funcs :: ro api_FuncType.rep a101 n102 v0.env.Types :: R)) :
    Calls Try.prog 73 #[.pointer (some ⟨b0, 0, none⟩), .int .u8 v1.toNat] w (fun e w' => ∃ x : Unit, e = .returned (.int .i64 r.1) ∧ St W w' (pts b0 [.slice a101 v0.env.Types.length n102, .slice a104 v0.env.Funcs.length n105, .slice a107 v0.env.Globals.length n108, .bool v0.env.Table, .bool v0.env.Mem, .string ⟨v0.locals.toArray⟩, .pointer (some ⟨b110, 0, none⟩), .string ⟨v0.result.toArray⟩] :: ptr ctrl_Control.rep b110 r.2.c :: R)) := by
  unfold f73.f at hm
  refine calls_sym (vs := [.pointer (some ⟨b0, 0, none⟩), .int .u8 v1.toNat]) Try.func73 rfl rfl hs ?_
  refine T.seq rfl ?_
  refine T.region rfl ?_
  refine TO.go rfl rfl rfl (Does.assign (v := .int .i64 0) rfl rfl) fun _ => ?_
  refine TO.end rfl ?_
  refine TQ.then ?_
  refine T.seq rfl ?_
  refine T.region rfl ?_
  refine TO.go rfl rfl rfl (Does.move rfl rfl) fun _ => ?_
  refine TO.go rfl rfl rfl (Does.nilCheck rfl rfl) fun _ => ?_
  refine TO.go rfl rfl rfl (Does.fieldAddr (o' := 6) rfl rfl fo_76_2 rfl) fun _ => ?_
  refine TO.go rfl rfl rfl (Does.loadPts (k := 0) (v := .pointer (some ⟨b110, 0, none⟩)) rfl rfl sc_73 rfl rfl) fun _ => ?_
  refine TO.go rfl rfl rfl (Does.move rfl rfl) fun _ => ?_
  obtain ⟨v112, h113, hm⟩ := bind_o hm
  refine TO.go rfl rfl rfl (Does.call (vs := [.pointer (some ⟨b110, 0, none⟩), .int .u8 v1.toNat]) rfl co_75 rfl (fun w h => f75.ok v0.c b110 v1 h113 ((h).ent (Ent.take 1 rfl)))) fun _ => ?_
  refine TO.ent (L' := ptr ctrl_Control.rep b110 v112.2.2 :: pts b0 [.slice a101 v0.env.Types.length n102, .slice a104 v0.env.Funcs.length n105, .slice a107 v0.env.Globals.length n108, .bool v0.env.Table, .bool v0.env.Mem, .string ⟨v0.locals.toArray⟩, .pointer (some ⟨b110, 0, none⟩), .string ⟨v0.result.toArray⟩] :: ro api_GlobalType.rep a107 n108 v0.env.Globals :: ro (rI .u32) a104 n105 v0.env.Funcs :: ro api_FuncType.rep a101 n102 v0.env.Types :: R) (fun w h => h) ?_
  refine TO.go rfl rfl rfl (Does.move rfl rfl) fun _ => ?_
  refine TO.go rfl rfl rfl (Does.extract rfl rfl rfl) fun _ => ?_
  refine TO.go rfl rfl rfl (Does.extract rfl rfl rfl) fun _ => ?_
  refine TO.go rfl rfl rfl (Does.assign rfl rfl) fun _ => ?_
  refine TO.go rfl rfl rfl (Does.assign rfl rfl) fun _ => ?_
  refine TO.end rfl ?_
  refine TQ.then ?_
  refine T.seq rfl ?_
  refine T.region rfl ?_
  refine TO.go rfl rfl rfl (Does.move rfl rfl) fun _ => ?_
  refine TO.go rfl rfl rfl (Does.assign rfl rfl) fun _ => ?_
  refine TO.end rfl ?_
  refine TQ.then ?_
  refine T.ret rfl ?_
  refine TQ.result (.inl rfl) rfl (Res.tmp rfl Res.nil) rfl (fun w h => ?_)
  cases hm
  exact ⟨(), rfl, (((((((h).ent (Ent.take 2 rfl)).ent (Ent.drop _ _)).ent (Ent.take 2 rfl)).ent (Ent.drop _ _)).ent (Ent.take 2 rfl)).ent (Ent.drop _ _)).ent (Ent.take 1 rfl)⟩

def f48.j2 (v0 : check_checker) (v156 : api_FuncType) (v172 : ctrl_Control) : Option (Int × check_checker) :=
  ((f53.f ({ env := v0.env, locals := v0.locals, c := v172, result := v0.result } : check_checker) v156.Params v156.Results).bind fun v178 => some (v178.1, ({ env := v0.env, locals := v0.locals, c := v178.2.c, result := v0.result } : check_checker)))
def f48.j1 (v0 : check_checker) (v1 : api_Instr) (v152 : Int) : Option (Int × check_checker) :=
  (if (decide ((IntKind.u64.wrap (v0.env.Types.length : Int)) ≤ v152)) = true then some (7, v0) else ((at? v0.env.Types v152).bind fun v156 => (if (v1.Op == (17 : UInt8)) = true then ((f73.f v0 (127 : UInt8)).bind fun v184 => (if (v184.1 != 0) = true then some (v184.1, ({ env := v0.env, locals := v0.locals, c := v184.2.c, result := v0.result } : check_checker)) else f48.j2 v0 v156 v184.2.c)) else f48.j2 v0 v156 v0.c)))
/-- (*creel/check.checker).call -/
def f48.f (v0 : check_checker) (v1 : api_Instr) : Option (Int × check_checker) :=
  (if (v1.Op == (16 : UInt8)) = true then (if (decide ((IntKind.u64.wrap (v0.env.Funcs.length : Int)) ≤ v1.A)) = true then some (20, v0) else ((at? v0.env.Funcs v1.A).bind fun v235 => f48.j1 v0 v1 (IntKind.u64.wrap v235))) else (if (!v0.env.Table) = true then some (20, v0) else f48.j1 v0 v1 v1.A))
set_option maxRecDepth 20000 in
set_option maxHeartbeats 1000000 in
theorem f48.ok {W w : World} {R : List Assn} (v0 : check_checker) (b0 : Nat) (a101 : Option Addr) (n102 : Nat) (a104 : Option Addr) (n105 : Nat) (a107 : Option Addr) (n108 : Nat) (b110 : Nat) (v1 : api_Instr) (a112 : Option Addr) (n113 : Nat) {r : Int × check_checker} (hm : f48.f v0 v1 = some r) (hs : St W w (pts b0 [.slice a101 v0.env.Types.length n102, .slice a104 v0.env.Funcs.length n105, .slice a107 v0.env.Globals.length n108, .bool v0.env.Table, .bool v0.env.Mem, .string ⟨v0.locals.toArray⟩, .pointer (some ⟨b110, 0, none⟩), .string ⟨v0.result.toArray⟩] :: ptr ctrl_Control.rep b110 v0.c :: ro api_GlobalType.rep a107 n108 v0.env.Globals :: ro (rI .u32) a104 n105 v0.env.Funcs :: ro api_FuncType.rep a101 n102 v0.env.Types :: ro (rI .u32) a112 n113 v1.L :: R)) :
    Calls Try.prog 48 #[.pointer (some ⟨b0, 0, none⟩), .agg #[.int .u8 v1.Op.toNat, .int .u64 v1.A, .int .u64 v1.B, .slice a112 v1.L.length n113]] w (fun e w' => ∃ x : Unit, e = .returned (.int .i64 r.1) ∧ St W w' (pts b0 [.slice a101 v0.env.Types.length n102, .slice a104 v0.env.Funcs.length n105, .slice a107 v0.env.Globals.length n108, .bool v0.env.Table, .bool v0.env.Mem, .string ⟨v0.locals.toArray⟩, .pointer (some ⟨b110, 0, none⟩), .string ⟨v0.result.toArray⟩] :: ptr ctrl_Control.rep b110 r.2.c :: R)) := by
  unfold f48.f at hm
  refine calls_sym (vs := [.pointer (some ⟨b0, 0, none⟩), .agg #[.int .u8 v1.Op.toNat, .int .u64 v1.A, .int .u64 v1.B, .slice a112 v1.L.length n113]]) Try.func48 rfl rfl hs ?_
  refine T.seq rfl ?_
  refine T.region rfl ?_
  refine TO.go rfl rfl rfl (Does.box (vs := [.int .u8 v1.Op.toNat, .int .u64 v1.A, .int .u64 v1.B, .slice a112 v1.L.length n113]) rfl rfl rfl) fun b115 => ?_
  refine TO.ent (L' := pts b115 [.int .u8 v1.Op.toNat, .int .u64 v1.A, .int .u64 v1.B, .slice a112 v1.L.length n113] :: pts b0 [.slice a101 v0.env.Types.length n102, .slice a104 v0.env.Funcs.length n105, .slice a107 v0.env.Globals.length n108, .bool v0.env.Table, .bool v0.env.Mem, .string ⟨v0.locals.toArray⟩, .pointer (some ⟨b110, 0, none⟩), .string ⟨v0.result.toArray⟩] :: ptr ctrl_Control.rep b110 v0.c :: ro api_GlobalType.rep a107 n108 v0.env.Globals :: ro (rI .u32) a104 n105 v0.env.Funcs :: ro api_FuncType.rep a101 n102 v0.env.Types :: ro (rI .u32) a112 n113 v1.L :: R) (fun w h => h) ?_
  refine TO.go rfl rfl rfl (Does.assign (v := .int .i64 0) rfl rfl) fun _ => ?_
  refine TO.end rfl ?_
  refine TQ.then ?_
  refine T.seq rfl ?_
  refine T.region rfl ?_
  refine TO.go rfl rfl rfl (Does.fieldAddr (o' := 1) rfl rfl fo_40_1 rfl) fun _ => ?_
  refine TO.go rfl rfl rfl (Does.loadPts (k := 0) (v := .int .u64 v1.A) rfl rfl sc_38 rfl rfl) fun _ => ?_
  refine TO.go rfl rfl rfl (Does.assign rfl rfl) fun _ => ?_
  refine TO.end rfl ?_
  refine TQ.then ?_
  refine T.seqJ (X := Int) rfl (fun x => [(5, .int .u64 x), (3, .pointer (some ⟨b115, 0, none⟩)), (0, .pointer (some ⟨b0, 0, none⟩))]) (fun x => ro api_FuncType.rep a101 n102 v0.env.Types :: ro (rI .u32) a104 n105 v0.env.Funcs :: ro api_GlobalType.rep a107 n108 v0.env.Globals :: ptr ctrl_Control.rep b110 v0.c :: pts b0 [.slice a101 v0.env.Types.length n102, .slice a104 v0.env.Funcs.length n105, .slice a107 v0.env.Globals.length n108, .bool v0.env.Table, .bool v0.env.Mem, .string ⟨v0.locals.toArray⟩, .pointer (some ⟨b110, 0, none⟩), .string ⟨v0.result.toArray⟩] :: ro (rI .u32) a112 n113 v1.L :: pts b115 [.int .u8 v1.Op.toNat, .int .u64 v1.A, .int .u64 v1.B, .slice a112 v1.L.length n113] :: R) (fun x => f48.j1 v0 v1 x = some r) ?_ ?_
  · rintro v152 hm
    try dsimp only
    unfold f48.j1 at hm
    refine T.seq rfl ?_
    refine T.seq rfl ?_
    refine T.region rfl ?_
    refine TO.go rfl rfl rfl (Does.move rfl rfl) fun _ => ?_
    refine TO.go rfl rfl rfl (Does.move rfl rfl) fun _ => ?_
    refine TO.go rfl rfl rfl (Does.nilCheck rfl rfl) fun _ => ?_
    refine TO.go rfl rfl rfl (Does.fieldAddr (o' := 0) rfl rfl fo_76_0 rfl) fun _ => ?_
    refine TO.go rfl rfl rfl (Does.fieldAddr (o' := 0) rfl rfl fo_26_0 rfl) fun _ => ?_
    refine TO.go rfl rfl rfl (Does.loadPts (k := 4) (v := .slice a101 v0.env.Types.length n102) rfl rfl sc_22 rfl rfl) fun _ => ?_
    refine TO.go rfl rfl rfl (Does.lenSl rfl rfl sl_22) fun _ => ?_
    refine TO.go rfl rfl rfl (Does.conv (v := .int .u64 (IntKind.u64.wrap (v0.env.Types.length : Int))) rfl rfl (c_int un_3 ii_38)) fun _ => ?_
    refine TO.go rfl rfl rfl (Does.bin (v := .bool (decide ((IntKind.u64.wrap (v0.env.Types.length : Int)) ≤ v152))) rfl rfl rfl g_int b_ge) fun _ => ?_
    refine TO.end rfl ?_
    refine TQ.then ?_
    refine T.cond rfl (b := (decide ((IntKind.u64.wrap (v0.env.Types.length : Int)) ≤ v152))) rfl (fun h155 => ?_) (fun h155 => ?_)
    · replace hm := ite_t hm h155
      refine T.seq rfl ?_
      refine T.region rfl ?_
      refine TO.go rfl rfl rfl (Does.assign (v := .int .i64 7) rfl rfl) fun _ => ?_
      refine TO.end rfl ?_
      refine TQ.then ?_
      refine T.ret rfl ?_
      refine TQ.passThenRet ?_
      refine TQ.result (.inl rfl) rfl (Res.tmp rfl Res.nil) rfl (fun w h => ?_)
      cases hm
      exact ⟨(), rfl, ((((((((h).ent (Ent.drop _ _)).ent (Ent.drop _ _)).ent (Ent.drop _ _)).ent (Ent.take 2 rfl)).ent (Ent.drop _ _)).ent (Ent.take 2 rfl)).ent (Ent.drop _ _)).ent (Ent.take 1 rfl)⟩
    · replace hm := ite_f hm h155
      refine T.skip rfl ?_
      refine TQ.then ?_
      refine T.seq rfl ?_
      refine T.region rfl ?_
      refine TO.go rfl rfl rfl (Does.move rfl rfl) fun _ => ?_
      refine TO.go rfl rfl rfl (Does.nilCheck rfl rfl) fun _ => ?_
      refine TO.go rfl rfl rfl (Does.fieldAddr (o' := 0) rfl rfl fo_76_0 rfl) fun _ => ?_
      refine TO.go rfl rfl rfl (Does.fieldAddr (o' := 0) rfl rfl fo_26_0 rfl) fun _ => ?_
      refine TO.go rfl rfl rfl (Does.loadPts (k := 4) (v := .slice a101 v0.env.Types.length n102) rfl rfl sc_22 rfl rfl) fun _ => ?_
      refine TO.go rfl rfl rfl (Does.move rfl rfl) fun _ => ?_
      obtain ⟨v156, h157, hm⟩ := bind_o hm
      refine TO.go rfl rfl rfl (Does.indexSl (r := api_FuncType.rep) (k := 0) rfl rfl rfl sl_22 rfl Arrd.ro h157) fun _ => ?_
      refine TO.go rfl rfl rfl (Does.loadFlatN (r := api_FuncType.rep) (k := 0) (f := 0) (vs := [.string ⟨v156.Params.toArray⟩, .string ⟨v156.Results.toArray⟩]) rfl rfl ag_28 rfl Arrd.ro (at?_out h157).2.2 rfl rfl) fun _ => ?_
      refine TO.go rfl rfl rfl (Does.alloc rfl zn_28) fun b158 => ?_
      refine TO.ent (L' := pts b158 [.string ⟨([] : List UInt8).toArray⟩, .string ⟨([] : List UInt8).toArray⟩] :: ro api_FuncType.rep a101 n102 v0.env.Types :: ro (rI .u32) a104 n105 v0.env.Funcs :: ro api_GlobalType.rep a107 n108 v0.env.Globals :: ptr ctrl_Control.rep b110 v0.c :: pts b0 [.slice a101 v0.env.Types.length n102, .slice a104 v0.env.Funcs.length n105, .slice a107 v0.env.Globals.length n108, .bool v0.env.Table, .bool v0.env.Mem, .string ⟨v0.locals.toArray⟩, .pointer (some ⟨b110, 0, none⟩), .string ⟨v0.result.toArray⟩] :: ro (rI .u32) a112 n113 v1.L :: pts b115 [.int .u8 v1.Op.toNat, .int .u64 v1.A, .int .u64 v1.B, .slice a112 v1.L.length n113] :: R) (fun w h => h) ?_
      refine TO.go0 rfl rfl (Does.storePts (k := 0) (vs := [.string ⟨v156.Params.toArray⟩, .string ⟨v156.Results.toArray⟩]) (cs' := [.string ⟨v156.Params.toArray⟩, .string ⟨v156.Results.toArray⟩]) rfl rfl rfl rfl rfl cn_28 rfl rfl rfl rfl) fun _ => ?_
      refine TO.ent (L' := pts b158 [.string ⟨v156.Params.toArray⟩, .string ⟨v156.Results.toArray⟩] :: ro api_FuncType.rep a101 n102 v0.env.Types :: ro (rI .u32) a104 n105 v0.env.Funcs :: ro api_GlobalType.rep a107 n108 v0.env.Globals :: ptr ctrl_Control.rep b110 v0.c :: pts b0 [.slice a101 v0.env.Types.length n102, .slice a104 v0.env.Funcs.length n105, .slice a107 v0.env.Globals.length n108, .bool v0.env.Table, .bool v0.env.Mem, .string ⟨v0.locals.toArray⟩, .pointer (some ⟨b110, 0, none⟩), .string ⟨v0.result.toArray⟩] :: ro (rI .u32) a112 n113 v1.L :: pts b115 [.int .u8 v1.Op.toNat, .int .u64 v1.A, .int .u64 v1.B, .slice a112 v1.L.length n113] :: R) (fun w h => h) ?_
      refine TO.end rfl ?_
      refine TQ.then ?_
      refine T.seqJ (X := ctrl_Control) rfl (fun x => [(6, .pointer (some ⟨b158, 0, none⟩)), (0, .pointer (some ⟨b0, 0, none⟩))]) (fun x => ro api_FuncType.rep a101 n102 v0.env.Types :: ro (rI .u32) a104 n105 v0.env.Funcs :: ro api_GlobalType.rep a107 n108 v0.env.Globals :: ptr ctrl_Control.rep b110 x :: pts b0 [.slice a101 v0.env.Types.length n102, .slice a104 v0.env.Funcs.length n105, .slice a107 v0.env.Globals.length n108, .bool v0.env.Table, .bool v0.env.Mem, .string ⟨v0.locals.toArray⟩, .pointer (some ⟨b110, 0, none⟩), .string ⟨v0.result.toArray⟩] :: pts b158 [.string ⟨v156.Params.toArray⟩, .string ⟨v156.Results.toArray⟩] :: R) (fun x => f48.j2 v0 v156 x = some r) ?_ ?_
      · rintro v172 hm
        try dsimp only
        unfold f48.j2 at hm
        refine T.seq rfl ?_
        refine T.region rfl ?_
        refine TO.go rfl rfl rfl (Does.move rfl rfl) fun _ => ?_
        refine TO.go rfl rfl rfl (Does.fieldAddr (o' := 0) rfl rfl fo_28_0 rfl) fun _ => ?_
        refine TO.go rfl rfl rfl (Does.loadPts (k := 5) (v := .string ⟨v156.Params.toArray⟩) rfl rfl sc_9 rfl rfl) fun _ => ?_
        refine TO.go rfl rfl rfl (Does.fieldAddr (o' := 1) rfl rfl fo_28_1 rfl) fun _ => ?_
        refine TO.go rfl rfl rfl (Does.loadPts (k := 5) (v := .string ⟨v156.Results.toArray⟩) rfl rfl sc_9 rfl rfl) fun _ => ?_
        obtain ⟨v178, h179, hm⟩ := bind_o hm
        refine TO.go rfl rfl rfl (Does.call (vs := [.pointer (some ⟨b0, 0, none⟩), .string ⟨v156.Params.toArray⟩, .string ⟨v156.Results.toArray⟩]) rfl co_53 rfl (fun w h => f53.ok ({ env := v0.env, locals := v0.locals, c := v172, result := v0.result } : check_checker) b0 a101 n102 a104 n105 a107 n108 b110 v156.Params v156.Results h179 ((((((((h).ent (Ent.copy 2 rfl)).ent (Ent.copy 2 rfl)).ent (Ent.copy 2 rfl)).ent (Ent.take 1 rfl)).ent (Ent.take 2 rfl)).ent (Ent.take 6 rfl)).ent (Ent.take 7 rfl)))) fun _ => ?_
        refine TO.ent (L' := pts b0 [.slice a101 v0.env.Types.length n102, .slice a104 v0.env.Funcs.length n105, .slice a107 v0.env.Globals.length n108, .bool v0.env.Table, .bool v0.env.Mem, .string ⟨v0.locals.toArray⟩, .pointer (some ⟨b110, 0, none⟩), .string ⟨v0.result.toArray⟩] :: ptr ctrl_Control.rep b110 v178.2.c :: ro api_FuncType.rep a101 n102 v0.env.Types :: ro (rI .u32) a104 n105 v0.env.Funcs :: ro api_GlobalType.rep a107 n108 v0.env.Globals :: pts b158 [.string ⟨v156.Params.toArray⟩, .string ⟨v156.Results.toArray⟩] :: R) (fun w h => h) ?_
        refine TO.go rfl rfl rfl (Does.assign rfl rfl) fun _ => ?_
        refine TO.end rfl ?_
        refine TQ.then ?_
        refine T.ret rfl ?_
        refine TQ.result (.inl rfl) rfl (Res.tmp rfl Res.nil) rfl (fun w h => ?_)
        cases hm
        exact ⟨(), rfl, ((((((((((h).ent (Ent.take 2 rfl)).ent (Ent.drop _ _)).ent (Ent.take 2 rfl)).ent (Ent.drop _ _)).ent (Ent.take 2 rfl)).ent (Ent.drop _ _)).ent (Ent.take 2 rfl)).ent (Ent.drop _ _)).ent (Ent.take 1 rfl)).ent (Ent.take 1 rfl)⟩
      · intro h174
        refine T.seq rfl ?_
        refine T.region rfl ?_
        refine TO.go rfl rfl rfl (Does.fieldAddr (o' := 0) rfl rfl fo_40_0 rfl) fun _ => ?_
        refine TO.go rfl rfl rfl (Does.loadPts (k := 7) (v := .int .u8 v1.Op.toNat) rfl rfl sc_5 rfl rfl) fun _ => ?_
        refine TO.go rfl rfl rfl (Does.bin (v := .bool (v1.Op == (17 : UInt8))) (vy := .int .u8 (17 : UInt8).toNat) rfl rfl rfl g_int b8_eq) fun _ => ?_
        refine TO.end rfl ?_
        refine TQ.then ?_
        refine T.cond rfl (b := (v1.Op == (17 : UInt8))) rfl (fun h180 => ?_) (fun h180 => ?_)
        · replace hm := ite_t hm h180
          refine T.seq rfl ?_
          refine T.region rfl ?_
          refine TO.go rfl rfl rfl (Does.move rfl rfl) fun _ => ?_
          obtain ⟨v184, h185, hm⟩ := bind_o hm
          refine TO.go rfl rfl rfl (Does.call (vs := [.pointer (some ⟨b0, 0, none⟩), .int .u8 (127 : UInt8).toNat]) rfl co_73 rfl (fun w h => f73.ok v0 b0 a101 n102 a104 n105 a107 n108 b110 (127 : UInt8) h185 ((((((((h).ent (Ent.copy 3 rfl)).ent (Ent.copy 3 rfl)).ent (Ent.copy 3 rfl)).ent (Ent.take 1 rfl)).ent (Ent.take 2 rfl)).ent (Ent.take 7 rfl)).ent (Ent.take 8 rfl)))) fun _ => ?_
          refine TO.ent (L' := pts b0 [.slice a101 v0.env.Types.length n102, .slice a104 v0.env.Funcs.length n105, .slice a107 v0.env.Globals.length n108, .bool v0.env.Table, .bool v0.env.Mem, .string ⟨v0.locals.toArray⟩, .pointer (some ⟨b110, 0, none⟩), .string ⟨v0.result.toArray⟩] :: ptr ctrl_Control.rep b110 v184.2.c :: pts b158 [.string ⟨v156.Params.toArray⟩, .string ⟨v156.Results.toArray⟩] :: ro api_FuncType.rep a101 n102 v0.env.Types :: ro (rI .u32) a104 n105 v0.env.Funcs :: ro api_GlobalType.rep a107 n108 v0.env.Globals :: ro (rI .u32) a112 n113 v1.L :: pts b115 [.int .u8 v1.Op.toNat, .int .u64 v1.A, .int .u64 v1.B, .slice a112 v1.L.length n113] :: R) (fun w h => h) ?_
          refine TO.go rfl rfl rfl (Does.assign rfl rfl) fun _ => ?_
          refine TO.end rfl ?_
          refine TQ.then ?_
          refine T.seq rfl ?_
          refine T.region rfl ?_
          refine TO.go rfl rfl rfl (Does.move rfl rfl) fun _ => ?_
          refine TO.go rfl rfl rfl (Does.bin (v := .bool (v184.1 != 0)) (vy := .int .i64 0) rfl rfl rfl g_int b_ne) fun _ => ?_
          refine TO.end rfl ?_
          refine TQ.then ?_
          refine T.cond rfl (b := (v184.1 != 0)) rfl (fun h186 => ?_) (fun h186 => ?_)
          · replace hm := ite_t hm h186
            refine T.seq rfl ?_
            refine T.region rfl ?_
            refine TO.go rfl rfl rfl (Does.move rfl rfl) fun _ => ?_
            refine TO.go rfl rfl rfl (Does.assign rfl rfl) fun _ => ?_
            refine TO.end rfl ?_
            refine TQ.then ?_
            refine T.ret rfl ?_
            refine TQ.passThenRet ?_
            refine TQ.result (.inl rfl) rfl (Res.tmp rfl Res.nil) rfl (fun w h => ?_)
            cases hm
            exact ⟨(), rfl, ((((((((((((((h).ent (Ent.take 2 rfl)).ent (Ent.drop _ _)).ent (Ent.take 2 rfl)).ent (Ent.drop _ _)).ent (Ent.take 2 rfl)).ent (Ent.drop _ _)).ent (Ent.take 2 rfl)).ent (Ent.drop _ _)).ent (Ent.take 2 rfl)).ent (Ent.drop _ _)).ent (Ent.take 2 rfl)).ent (Ent.drop _ _)).ent (Ent.take 1 rfl)).ent (Ent.take 1 rfl)⟩
          · replace hm := ite_f hm h186
            refine T.skip rfl ?_
            exact TQ.then (T.sub (h174 v184.2.c hm) (Sub.cons rfl (Sub.cons rfl (Sub.nil _))) (fun w h => (((((((((((((((((((h).ent (Ent.copy 3 rfl)).ent (Ent.copy 5 rfl)).ent (Ent.copy 7 rfl)).ent (Ent.take 6 rfl)).ent (Ent.drop _ _)).ent (Ent.take 6 rfl)).ent (Ent.drop _ _)).ent (Ent.take 6 rfl)).ent (Ent.drop _ _)).ent (Ent.take 6 rfl)).ent (Ent.drop _ _)).ent (Ent.take 6 rfl)).ent (Ent.drop _ _)).ent (Ent.take 5 rfl)).ent (Ent.take 4 rfl)).ent (Ent.take 5 rfl)).ent (Ent.take 3 rfl)).ent (Ent.take 4 rfl)).ent (Ent.take 5 rfl)))
        · replace hm := ite_f hm h180
          refine T.skip rfl ?_
          exact TQ.then (T.sub (h174 v0.c hm) (Sub.cons rfl (Sub.cons rfl (Sub.nil _))) (fun w h => (((((((((((((((((((h).ent (Ent.copy 1 rfl)).ent (Ent.copy 3 rfl)).ent (Ent.copy 5 rfl)).ent (Ent.take 4 rfl)).ent (Ent.drop _ _)).ent (Ent.take 4 rfl)).ent (Ent.drop _ _)).ent (Ent.take 4 rfl)).ent (Ent.drop _ _)).ent (Ent.take 6 rfl)).ent (Ent.drop _ _)).ent (Ent.take 6 rfl)).ent (Ent.drop _ _)).ent (Ent.take 3 rfl)).ent (Ent.take 5 rfl)).ent (Ent.take 5 rfl)).ent (Ent.take 3 rfl)).ent (Ent.take 4 rfl)).ent (Ent.take 5 rfl)))
  · intro h153
    refine T.seq rfl ?_
    refine T.region rfl ?_
    refine TO.go rfl rfl rfl (Does.fieldAddr (o' := 0) rfl rfl fo_40_0 rfl) fun _ => ?_
    refine TO.go rfl rfl rfl (Does.loadPts (k := 0) (v := .int .u8 v1.Op.toNat) rfl rfl sc_5 rfl rfl) fun _ => ?_
    refine TO.go rfl rfl rfl (Does.bin (v := .bool (v1.Op == (16 : UInt8))) (vy := .int .u8 (16 : UInt8).toNat) rfl rfl rfl g_int b8_eq) fun _ => ?_
    refine TO.end rfl ?_
    refine TQ.then ?_
    refine T.cond rfl (b := (v1.Op == (16 : UInt8))) rfl (fun h193 => ?_) (fun h193 => ?_)
    · replace hm := ite_t hm h193
      refine T.seq rfl ?_
      refine T.seq rfl ?_
      refine T.draw [0, 1, 2, 3, 4, 5, 6, 7, 8, 9] rfl mixed ?_
      refine RA.quiet (i := 0) (v := .pointer (some ⟨b115, 1, none⟩)) PendOK.nil rfl rfl rfl rfl rfl rfl (Does.fieldAddr (o' := 1) rfl rfl fo_40_1 rfl) fun h215 => ?_
      refine RA.quiet (i := 1) (v := .int .u64 v1.A) h215 rfl rfl rfl rfl rfl rfl (Does.loadPts (k := 0) (v := .int .u64 v1.A) rfl rfl sc_38 rfl rfl) fun h216 => ?_
      refine RA.quiet (i := 2) (v := .pointer (some ⟨b0, 0, none⟩)) h216 rfl rfl rfl rfl rfl rfl (Does.move rfl rfl) fun h217 => ?_
      refine RA.quiet (i := 3) (v := .pointer (some ⟨b0, 0, none⟩)) h217 rfl rfl rfl rfl rfl rfl (Does.nilCheck rfl rfl) fun h218 => ?_
      refine RA.quiet (i := 4) (v := .pointer (some ⟨b0, 0, none⟩)) h218 rfl rfl rfl rfl rfl rfl (Does.fieldAddr (o' := 0) rfl rfl fo_76_0 rfl) fun h219 => ?_
      refine RA.quiet (i := 5) (v := .pointer (some ⟨b0, 1, none⟩)) h219 rfl rfl rfl rfl rfl rfl (Does.fieldAddr (o' := 1) rfl rfl fo_26_1 rfl) fun h220 => ?_
      refine RA.quiet (i := 6) (v := .slice a104 v0.env.Funcs.length n105) h220 rfl rfl rfl rfl rfl rfl (Does.loadPts (k := 1) (v := .slice a104 v0.env.Funcs.length n105) rfl rfl sc_23 rfl rfl) fun h221 => ?_
      refine RA.quiet (i := 7) (v := .int .i64 (v0.env.Funcs.length : Int)) h221 rfl rfl rfl rfl rfl rfl (Does.lenSl rfl rfl sl_23) fun h222 => ?_
      refine RA.quiet (i := 8) (v := .int .u64 (IntKind.u64.wrap (v0.env.Funcs.length : Int))) h222 rfl rfl rfl rfl rfl rfl (Does.conv (v := .int .u64 (IntKind.u64.wrap (v0.env.Funcs.length : Int))) rfl rfl (c_int un_3 ii_38)) fun h223 => ?_
      refine RA.quiet (i := 9) (v := .bool (decide ((IntKind.u64.wrap (v0.env.Funcs.length : Int)) ≤ v1.A))) h223 rfl rfl rfl rfl rfl rfl (Does.bin (v := .bool (decide ((IntKind.u64.wrap (v0.env.Funcs.length : Int)) ≤ v1.A))) rfl rfl rfl g_int b_ge) fun h224 => ?_
      refine RA.done (by kernel_rfl) h224 rfl ?_
      refine TQ.then ?_
      refine T.cond rfl (b := (decide ((IntKind.u64.wrap (v0.env.Funcs.length : Int)) ≤ v1.A))) rfl (fun h225 => ?_) (fun h225 => ?_)
      · replace hm := ite_t hm h225
        refine T.seq rfl ?_
        refine T.region rfl ?_
        refine TO.go rfl rfl rfl (Does.assign (v := .int .i64 20) rfl rfl) fun _ => ?_
        refine TO.end rfl ?_
        refine TQ.then ?_
        refine T.ret rfl ?_
        refine TQ.passThenRet ?_
        refine TQ.passThenRet ?_
        refine TQ.result (.inl rfl) rfl (Res.tmp rfl Res.nil) rfl (fun w h => ?_)
        cases hm
        exact ⟨(), rfl, (((((((((((h).ent (Ent.drop _ _)).ent (Ent.take 2 rfl)).ent (Ent.drop _ _)).ent (Ent.take 2 rfl)).ent (Ent.drop _ _)).ent (Ent.take 2 rfl)).ent (Ent.drop _ _)).ent (Ent.take 2 rfl)).ent (Ent.drop _ _)).ent (Ent.take 1 rfl)).ent (Ent.take 1 rfl)⟩
      · replace hm := ite_f hm h225
        refine T.skip rfl ?_
        refine TQ.then ?_
        refine T.draw [0, 1, 2, 3, 4, 5, 6, 7, 8, 9] rfl mixed ?_
        refine RA.quiet (i := 0) (v := .pointer (some ⟨b0, 0, none⟩)) PendOK.nil rfl rfl rfl rfl rfl rfl (Does.move rfl rfl) fun h228 => ?_
        refine RA.quiet (i := 1) (v := .pointer (some ⟨b0, 0, none⟩)) h228 rfl rfl rfl rfl rfl rfl (Does.nilCheck rfl rfl) fun h229 => ?_
        refine RA.quiet (i := 2) (v := .pointer (some ⟨b0, 0, none⟩)) h229 rfl rfl rfl rfl rfl rfl (Does.fieldAddr (o' := 0) rfl rfl fo_76_0 rfl) fun h230 => ?_
        refine RA.quiet (i := 3) (v := .pointer (some ⟨b0, 1, none⟩)) h230 rfl rfl rfl rfl rfl rfl (Does.fieldAddr (o' := 1) rfl rfl fo_26_1 rfl) fun h231 => ?_
        refine RA.quiet (i := 4) (v := .slice a104 v0.env.Funcs.length n105) h231 rfl rfl rfl rfl rfl rfl (Does.loadPts (k := 1) (v := .slice a104 v0.env.Funcs.length n105) rfl rfl sc_23 rfl rfl) fun h232 => ?_
        refine RA.quiet (i := 5) (v := .pointer (some ⟨b115, 1, none⟩)) h232 rfl rfl rfl rfl rfl rfl (Does.fieldAddr (o' := 1) rfl rfl fo_40_1 rfl) fun h233 => ?_
        refine RA.quiet (i := 6) (v := .int .u64 v1.A) h233 rfl rfl rfl rfl rfl rfl (Does.loadPts (k := 0) (v := .int .u64 v1.A) rfl rfl sc_38 rfl rfl) fun h234 => ?_
        obtain ⟨v235, h236, hm⟩ := bind_o hm
        refine RA.quiet (i := 7) (v := .pointer (some (adA a104 (((v1.A).toNat) * (rI .u32).n) 0))) h234 rfl rfl rfl rfl rfl rfl (Does.indexSl (r := (rI .u32)) (k := 4) rfl rfl rfl sl_23 rfl Arrd.ro h236) fun h237 => ?_
        refine RA.quiet (i := 8) (v := .int .u32 v235) h237 rfl rfl rfl rfl rfl rfl (Does.loadFlat (r := (rI .u32)) (k := 4) (f := 0) (v := .int .u32 v235) rfl rfl sc_48 rfl Arrd.ro (at?_out h236).2.2 rfl) fun h238 => ?_
        refine RA.quiet (i := 9) (v := .int .u64 (IntKind.u64.wrap v235)) h238 rfl rfl rfl rfl rfl rfl (Does.conv (v := .int .u64 (IntKind.u64.wrap v235)) rfl rfl (c_int un_48 ii_38)) fun h239 => ?_
        refine RA.eff (k := 10) (pend' := []) (by kernel_rfl) h239 rfl (.inl ⟨_, rfl, rfl, fun _ => rfl⟩) rfl (by kernel_rfl) (Does.assign rfl rfl) rfl (fun _ => (fun _ h => by cases h)) (fun _ h240 => ?_)
        refine RA.done (by kernel_rfl) h240 rfl ?_
        exact TQ.then (T.sub (h153 (IntKind.u64.wrap v235) hm) (Sub.cons rfl (Sub.cons rfl (Sub.cons rfl (Sub.nil _)))) (fun w h => (((((((((((((((((((h).ent (Ent.copy 5 rfl)).ent (Ent.copy 5 rfl)).ent (Ent.copy 5 rfl)).ent (Ent.copy 9 rfl)).ent (Ent.take 7 rfl)).ent (Ent.drop _ _)).ent (Ent.take 7 rfl)).ent (Ent.drop _ _)).ent (Ent.take 7 rfl)).ent (Ent.drop _ _)).ent (Ent.take 7 rfl)).ent (Ent.drop _ _)).ent (Ent.take 4 rfl)).ent (Ent.take 1 rfl)).ent (Ent.take 5 rfl)).ent (Ent.take 6 rfl)).ent (Ent.take 4 rfl)).ent (Ent.take 5 rfl)).ent (Ent.take 6 rfl)))
    · replace hm := ite_f hm h193
      refine T.seq rfl ?_
      refine T.region rfl ?_
      refine TO.go rfl rfl rfl (Does.move rfl rfl) fun _ => ?_
      refine TO.go rfl rfl rfl (Does.nilCheck rfl rfl) fun _ => ?_
      refine TO.go rfl rfl rfl (Does.fieldAddr (o' := 0) rfl rfl fo_76_0 rfl) fun _ => ?_
      refine TO.go rfl rfl rfl (Does.fieldAddr (o' := 3) rfl rfl fo_26_3 rfl) fun _ => ?_
      refine TO.go rfl rfl rfl (Does.loadPts (k := 1) (v := .bool v0.env.Table) rfl rfl sc_4 rfl rfl) fun _ => ?_
      refine TO.go rfl rfl rfl (Does.un (v := .bool (!v0.env.Table)) rfl rfl (fun w => rfl)) fun _ => ?_
      refine TO.end rfl ?_
      refine TQ.then ?_
      refine T.cond rfl (b := (!v0.env.Table)) rfl (fun h245 => ?_) (fun h245 => ?_)
      · replace hm := ite_t hm h245
        refine T.seq rfl ?_
        refine T.region rfl ?_
        refine TO.go rfl rfl rfl (Does.assign (v := .int .i64 20) rfl rfl) fun _ => ?_
        refine TO.end rfl ?_
        refine TQ.then ?_
        refine T.ret rfl ?_
        refine TQ.passThenRet ?_
        refine TQ.result (.inl rfl) rfl (Res.tmp rfl Res.nil) rfl (fun w h => ?_)
        cases hm
        exact ⟨(), rfl, (((((((((((h).ent (Ent.drop _ _)).ent (Ent.take 2 rfl)).ent (Ent.drop _ _)).ent (Ent.take 2 rfl)).ent (Ent.drop _ _)).ent (Ent.take 2 rfl)).ent (Ent.drop _ _)).ent (Ent.take 2 rfl)).ent (Ent.drop _ _)).ent (Ent.take 1 rfl)).ent (Ent.take 1 rfl)⟩
      · replace hm := ite_f hm h245
        refine T.skip rfl ?_
        exact TQ.then (T.sub (h153 v1.A hm) (Sub.cons rfl (Sub.cons rfl (Sub.cons rfl (Sub.nil _)))) (fun w h => (((((((((((((((((((h).ent (Ent.copy 5 rfl)).ent (Ent.copy 5 rfl)).ent (Ent.copy 5 rfl)).ent (Ent.copy 9 rfl)).ent (Ent.take 7 rfl)).ent (Ent.drop _ _)).ent (Ent.take 7 rfl)).ent (Ent.drop _ _)).ent (Ent.take 7 rfl)).ent (Ent.drop _ _)).ent (Ent.take 7 rfl)).ent (Ent.drop _ _)).ent (Ent.take 4 rfl)).ent (Ent.take 1 rfl)).ent (Ent.take 5 rfl)).ent (Ent.take 6 rfl)).ent (Ent.take 4 rfl)).ent (Ent.take 5 rfl)).ent (Ent.take 6 rfl)))

/-- (*creel/ctrl.Control).Pop -/
def f74.f (v0 : ctrl_Control) : Option (UInt8 × Int × ctrl_Control) :=
  ((f89.f v0).bind fun v101 => (if (!v101.2) = true then some ((0 : UInt8), 30, v0) else ((f90.f v0.Stack v101.1.Height v101.1.Dead).bind fun v146 => some (v146.1, v146.2.1, ({ frames := v0.frames, Stack := v146.2.2 } : ctrl_Control)))))
set_option maxRecDepth 20000 in
set_option maxHeartbeats 1000000 in
theorem f74.ok {W w : World} {R : List Assn} (v0 : ctrl_Control) (b0 : Nat) {r : UInt8 × Int × ctrl_Control} (hm : f74.f v0 = some r) (hs : St W w (ptr ctrl_Control.rep b0 v0 :: R)) :
    Calls Try.prog 74 #[.pointer (some ⟨b0, 0, none⟩)] w (fun e w' => ∃ x : Unit, e = .returned (.tuple #[.int .u8 r.1.toNat, .int .i64 r.2.1]) ∧ St W w' (ptr ctrl_Control.rep b0 r.2.2 :: R)) := by
  unfold f74.f at hm
  refine calls_sym (vs := [.pointer (some ⟨b0, 0, none⟩)]) Try.func74 rfl rfl hs ?_
  refine T.seq rfl ?_
  refine T.region rfl ?_
  refine TO.go rfl rfl rfl (Does.assign (v := .int .u8 (0 : UInt8).toNat) rfl rfl) fun _ => ?_
  refine TO.go rfl rfl rfl (Does.assign (v := .int .i64 0) rfl rfl) fun _ => ?_
  refine TO.end rfl ?_
  refine TQ.then ?_
  refine T.seq rfl ?_
  refine T.region rfl ?_
  refine TO.go rfl rfl rfl (Does.move rfl rfl) fun _ => ?_
  obtain ⟨v101, h102, hm⟩ := bind_o hm
  refine TO.go rfl rfl rfl (Does.call (vs := [.pointer (some ⟨b0, 0, none⟩)]) rfl co_89 rfl (fun w h => f89.ok v0 b0 h102 (h))) fun _ => ?_
  refine TO.go rfl rfl rfl (Does.move rfl rfl) fun _ => ?_
  refine TO.go rfl rfl rfl (Does.extract rfl rfl rfl) fun _ => ?_
  refine TO.go rfl rfl rfl (Does.extract rfl rfl rfl) fun _ => ?_
  refine TO.go rfl rfl rfl (Does.alloc rfl zn_136) fun b103 => ?_
  refine TO.ent (L' := pts b103 [.int .u8 (0 : UInt8).toNat, .string ⟨([] : List UInt8).toArray⟩, .int .i64 0, .bool false] :: ptr ctrl_Control.rep b0 v0 :: R) (fun w h => h) ?_
  refine TO.go0 rfl rfl (Does.storePts (k := 0) (vs := [.int .u8 v101.1.Op.toNat, .string ⟨v101.1.Results.toArray⟩, .int .i64 v101.1.Height, .bool v101.1.Dead]) (cs' := [.int .u8 v101.1.Op.toNat, .string ⟨v101.1.Results.toArray⟩, .int .i64 v101.1.Height, .bool v101.1.Dead]) rfl rfl rfl rfl rfl cn_136 rfl rfl rfl rfl) fun _ => ?_
  refine TO.ent (L' := pts b103 [.int .u8 v101.1.Op.toNat, .string ⟨v101.1.Results.toArray⟩, .int .i64 v101.1.Height, .bool v101.1.Dead] :: ptr ctrl_Control.rep b0 v0 :: R) (fun w h => h) ?_
  refine TO.go rfl rfl rfl (Does.assign rfl rfl) fun _ => ?_
  refine TO.end rfl ?_
  refine TQ.then ?_
  refine T.seq rfl ?_
  refine T.seq rfl ?_
  refine T.region rfl ?_
  refine TO.go rfl rfl rfl (Does.move rfl rfl) fun _ => ?_
  refine TO.go rfl rfl rfl (Does.un (v := .bool (!v101.2)) rfl rfl (fun w => rfl)) fun _ => ?_
  refine TO.end rfl ?_
  refine TQ.then ?_
  refine T.cond rfl (b := (!v101.2)) rfl (fun h106 => ?_) (fun h106 => ?_)
  · replace hm := ite_t hm h106
    refine T.seq rfl ?_
    refine T.region rfl ?_
    refine TO.go rfl rfl rfl (Does.assign (v := .int .u8 (0 : UInt8).toNat) rfl rfl) fun _ => ?_
    refine TO.go rfl rfl rfl (Does.assign (v := .int .i64 30) rfl rfl) fun _ => ?_
    refine TO.end rfl ?_
    refine TQ.then ?_
    refine T.ret rfl ?_
    refine TQ.passThenRet ?_
    refine TQ.result (.inl rfl) rfl (Res.tmp rfl (Res.tmp rfl Res.nil)) rfl (fun w h => ?_)
    cases hm
    exact ⟨(), rfl, (h).ent (Ent.drop _ _)⟩
  · replace hm := ite_f hm h106
    refine T.skip rfl ?_
    refine TQ.then ?_
    refine T.seq rfl ?_
    refine T.st (X := List Value) (p := fun _ => True) (fun w h => let ⟨cs, h⟩ := open_ptr (h.ent (Ent.take 1 rfl)); ⟨cs, trivial, h⟩) ?_
    intro cs135 _
    refine T.st (fun w h => ctrl_Control.open h) ?_
    rintro ⟨a130, n131, b133⟩ rfl
    refine T.draw [0, 1, 2, 3, 4, 5, 6, 7, 9, 10] rfl mixed ?_
    refine RA.quiet (i := 0) (v := .pointer (some ⟨b0, 0, none⟩)) PendOK.nil rfl rfl rfl rfl rfl rfl (Does.move rfl rfl) fun h138 => ?_
    refine RA.quiet (i := 1) (v := .pointer (some ⟨b0, 0, none⟩)) h138 rfl rfl rfl rfl rfl rfl (Does.nilCheck rfl rfl) fun h139 => ?_
    refine RA.quiet (i := 2) (v := .pointer (some ⟨b0, 1, none⟩)) h139 rfl rfl rfl rfl rfl rfl (Does.fieldAddr (o' := 1) rfl rfl fo_113_1 rfl) fun h140 => ?_
    refine RA.quiet (i := 3) (v := .pointer (some ⟨b133, 0, none⟩)) h140 rfl rfl rfl rfl rfl rfl (Does.loadPts (k := 2) (v := .pointer (some ⟨b133, 0, none⟩)) rfl rfl sc_108 rfl rfl) fun h141 => ?_
    refine RA.quiet (i := 4) (v := .pointer (some ⟨b103, 2, none⟩)) h141 rfl rfl rfl rfl rfl rfl (Does.fieldAddr (o' := 2) rfl rfl fo_136_2 rfl) fun h142 => ?_
    refine RA.quiet (i := 5) (v := .int .i64 v101.1.Height) h142 rfl rfl rfl rfl rfl rfl (Does.loadPts (k := 3) (v := .int .i64 v101.1.Height) rfl rfl sc_3 rfl rfl) fun h143 => ?_
    refine RA.quiet (i := 6) (v := .pointer (some ⟨b103, 3, none⟩)) h143 rfl rfl rfl rfl rfl rfl (Does.fieldAddr (o' := 3) rfl rfl fo_136_3 rfl) fun h144 => ?_
    refine RA.quiet (i := 7) (v := .bool v101.1.Dead) h144 rfl rfl rfl rfl rfl rfl (Does.loadPts (k := 3) (v := .bool v101.1.Dead) rfl rfl sc_4 rfl rfl) fun h145 => ?_
    obtain ⟨v146, h147, hm⟩ := bind_o hm
    refine RA.eff (k := 8) (pend' := [(6, .pointer (some ⟨b103, 3, none⟩)), (4, .pointer (some ⟨b103, 2, none⟩)), (2, .pointer (some ⟨b0, 1, none⟩)), (1, .pointer (some ⟨b0, 0, none⟩)), (0, .pointer (some ⟨b0, 0, none⟩))]) (by kernel_rfl) h145 rfl (.inl ⟨_, rfl, rfl, fun _ => rfl⟩) rfl (by kernel_rfl) (Does.call (vs := [.pointer (some ⟨b133, 0, none⟩), .int .i64 v101.1.Height, .bool v101.1.Dead]) rfl co_90 rfl (fun w h => f90.ok v0.Stack b133 v101.1.Height v101.1.Dead h147 (h))) rfl (fun _ => (List.forall_mem_cons.2 ⟨⟨_, rfl, Does.fieldAddr (o' := 3) rfl rfl fo_136_3 rfl⟩, (List.forall_mem_cons.2 ⟨⟨_, rfl, Does.fieldAddr (o' := 2) rfl rfl fo_136_2 rfl⟩, (List.forall_mem_cons.2 ⟨⟨_, rfl, Does.fieldAddr (o' := 1) rfl rfl fo_113_1 rfl⟩, (List.forall_mem_cons.2 ⟨⟨_, rfl, Does.nilCheck rfl rfl⟩, (List.forall_mem_cons.2 ⟨⟨_, rfl, Does.move rfl rfl⟩, (fun _ h => by cases h)⟩)⟩)⟩)⟩)⟩)) (fun _ h148 => ?_)
    refine RA.quiet (i := 9) (v := .int .u8 v146.1.toNat) h148 rfl rfl rfl rfl rfl rfl (Does.extract rfl rfl rfl) fun h149 => ?_
    refine RA.quiet (i := 10) (v := .int .i64 v146.2.1) h149 rfl rfl rfl rfl rfl rfl (Does.extract rfl rfl rfl) fun h150 => ?_
    refine RA.eff (k := 11) (pend' := []) (by kernel_rfl) h150 rfl (.inl ⟨_, rfl, rfl, fun _ => rfl⟩) rfl (by kernel_rfl) (Does.assign rfl rfl) rfl (fun _ => (fun _ h => by cases h)) (fun _ h151 => ?_)
    refine RA.eff (k := 12) (pend' := []) (by kernel_rfl) h151 rfl (.inl ⟨_, rfl, rfl, fun _ => rfl⟩) rfl (by kernel_rfl) (Does.assign rfl rfl) rfl (fun _ => (fun _ h => by cases h)) (fun _ h152 => ?_)
    refine RA.done (by kernel_rfl) h152 rfl ?_
    refine TQ.then ?_
    refine T.ret rfl ?_
    refine TQ.result (.inl rfl) rfl (Res.tmp rfl (Res.tmp rfl Res.nil)) rfl (fun w h => ?_)
    cases hm
    exact ⟨(), rfl, ((shut_ptr (ctrl_Control.shut (x := ({ frames := v0.frames, Stack := v146.2.2 } : ctrl_Control)) (a130, n131, b133) ((((h).ent (Ent.take 2 rfl)).ent (Ent.take 2 rfl)).ent (Ent.take 2 rfl)))).ent (Ent.take 1 rfl)).ent (Ent.drop _ _)⟩

end Go.Proofs.Ytfonekhhbmlkbaa
