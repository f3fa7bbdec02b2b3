/- Mirrors of functions, and that the Go functions compute them. Printed by gofun.py. -/
import Derived.Test.YtfonekhhbmlkbaaG7
set_option linter.unusedVariables false
set_option linter.unusedSimpArgs false
namespace Go.Proofs.Ytfonekhhbmlkbaa
open Go Go.Sym
/-- (*creel/ctrl.Control).Dead -/
def f77.f (v0 : ctrl_Control) : Option ctrl_Control :=
  (if ((v0.frames.length : Int) == 0) = true then some v0 else ((at? v0.frames (IntKind.i64.wrap ((v0.frames.length : Int) - 1))).bind fun v143 => ((f92.f v0.Stack v143.Height).bind fun v170 => ((set? v0.frames (((IntKind.i64.wrap ((v0.frames.length : Int) - 1))).toNat) ({ Op := v143.Op, Results := v143.Results, Height := v143.Height, Dead := true } : ctrl_Frame)).bind fun v173 => some ({ frames := v173, Stack := v170 } : ctrl_Control)))))
set_option maxRecDepth 20000 in
set_option maxHeartbeats 1000000 in
theorem f77.ok {W w : World} {R : List Assn} (v0 : ctrl_Control) (b0 : Nat) {r : ctrl_Control} (hm : f77.f v0 = some r) (hs : St W w (ptr ctrl_Control.rep b0 v0 :: R)) :
    Calls Try.prog 77 #[.pointer (some ⟨b0, 0, none⟩)] w (fun e w' => ∃ x : Unit, e = .returned (.tuple #[]) ∧ St W w' (ptr ctrl_Control.rep b0 r :: R)) := by
  unfold f77.f at hm
  refine calls_sym (vs := [.pointer (some ⟨b0, 0, none⟩)]) Try.func77 rfl rfl hs ?_
  refine T.seq rfl ?_
  refine T.seq rfl ?_
  refine T.region rfl ?_
  refine TO.go rfl rfl rfl (Does.move rfl rfl) fun _ => ?_
  refine TO.go rfl rfl rfl (Does.nilCheck rfl rfl) fun _ => ?_
  refine TO.go rfl rfl rfl (Does.fieldAddr (o' := 0) rfl rfl fo_113_0 rfl) fun _ => ?_
  refine TO.st (X := List Value) (p := fun _ => True) (fun w h => let ⟨cs, h⟩ := open_ptr (h); ⟨cs, trivial, h⟩) ?_
  intro cs113 _
  refine TO.st (fun w h => ctrl_Control.open h) ?_
  rintro ⟨a108, n109, b111⟩ rfl
  refine TO.go rfl rfl rfl (Does.loadPts (k := 2) (v := .slice a108 v0.frames.length n109) rfl rfl sc_111 rfl rfl) fun _ => ?_
  refine TO.go rfl rfl rfl (Does.lenSl rfl rfl sl_111) fun _ => ?_
  refine TO.go rfl rfl rfl (Does.bin (v := .bool ((v0.frames.length : Int) == 0)) (vy := .int .i64 0) rfl rfl rfl g_int b_eq) fun _ => ?_
  refine TO.end rfl ?_
  refine TQ.then ?_
  refine T.cond rfl (b := ((v0.frames.length : Int) == 0)) rfl (fun h114 => ?_) (fun h114 => ?_)
  · replace hm := ite_t hm h114
    refine T.ret rfl ?_
    refine TQ.passThenRet ?_
    refine TQ.result (.inl rfl) rfl Res.nil rfl (fun w h => ?_)
    cases hm
    exact ⟨(), rfl, shut_ptr (ctrl_Control.shut (x := v0) (a108, n109, b111) ((((h).ent (Ent.take 2 rfl)).ent (Ent.take 2 rfl)).ent (Ent.take 2 rfl)))⟩
  · replace hm := ite_f hm h114
    refine T.skip rfl ?_
    refine TQ.then ?_
    refine T.seq rfl ?_
    refine T.draw [0, 1, 2, 3, 4, 5, 6, 7, 8, 9, 10] rfl mixed ?_
    refine RA.quiet (i := 0) (v := .pointer (some ⟨b0, 0, none⟩)) PendOK.nil rfl rfl rfl rfl rfl rfl (Does.move rfl rfl) fun h133 => ?_
    refine RA.quiet (i := 1) (v := .pointer (some ⟨b0, 0, none⟩)) h133 rfl rfl rfl rfl rfl rfl (Does.nilCheck rfl rfl) fun h134 => ?_
    refine RA.quiet (i := 2) (v := .pointer (some ⟨b0, 0, none⟩)) h134 rfl rfl rfl rfl rfl rfl (Does.fieldAddr (o' := 0) rfl rfl fo_113_0 rfl) fun h135 => ?_
    refine RA.quiet (i := 3) (v := .slice a108 v0.frames.length n109) h135 rfl rfl rfl rfl rfl rfl (Does.loadPts (k := 2) (v := .slice a108 v0.frames.length n109) rfl rfl sc_111 rfl rfl) fun h136 => ?_
    refine RA.quiet (i := 4) (v := .pointer (some ⟨b0, 0, none⟩)) h136 rfl rfl rfl rfl rfl rfl (Does.move rfl rfl) fun h137 => ?_
    refine RA.quiet (i := 5) (v := .pointer (some ⟨b0, 0, none⟩)) h137 rfl rfl rfl rfl rfl rfl (Does.nilCheck rfl rfl) fun h138 => ?_
    refine RA.quiet (i := 6) (v := .pointer (some ⟨b0, 0, none⟩)) h138 rfl rfl rfl rfl rfl rfl (Does.fieldAddr (o' := 0) rfl rfl fo_113_0 rfl) fun h139 => ?_
    refine RA.quiet (i := 7) (v := .slice a108 v0.frames.length n109) h139 rfl rfl rfl rfl rfl rfl (Does.loadPts (k := 2) (v := .slice a108 v0.frames.length n109) rfl rfl sc_111 rfl rfl) fun h140 => ?_
    refine RA.quiet (i := 8) (v := .int .i64 (v0.frames.length : Int)) h140 rfl rfl rfl rfl rfl rfl (Does.lenSl rfl rfl sl_111) fun h141 => ?_
    refine RA.quiet (i := 9) (v := .int .i64 (IntKind.i64.wrap ((v0.frames.length : Int) - 1))) h141 rfl rfl rfl rfl rfl rfl (Does.bin (v := .int .i64 (IntKind.i64.wrap ((v0.frames.length : Int) - 1))) (vy := .int .i64 1) rfl rfl rfl g_int b_sub) fun h142 => ?_
    obtain ⟨v143, h144, hm⟩ := bind_o hm
    refine RA.quiet (i := 10) (v := .pointer (some (adA a108 ((((IntKind.i64.wrap ((v0.frames.length : Int) - 1))).toNat) * ctrl_Frame.rep.n) 0))) h142 rfl rfl rfl rfl rfl rfl (Does.indexSl (r := ctrl_Frame.rep) (k := 1) rfl rfl rfl sl_111 rfl Arrd.own h144) fun h145 => ?_
    refine RA.eff (k := 11) (pend' := []) (by kernel_rfl) h145 rfl (.inl ⟨_, rfl, rfl, fun _ => rfl⟩) rfl (by kernel_rfl) (Does.assign rfl rfl) rfl (fun _ => (fun _ h => by cases h)) (fun _ h146 => ?_)
    refine RA.done (by kernel_rfl) h146 rfl ?_
    refine TQ.then ?_
    refine T.seq rfl ?_
    refine T.draw [0, 1, 2, 3, 4, 5, 6, 7] rfl mixed ?_
    refine RA.quiet (i := 0) (v := .pointer (some ⟨b0, 0, none⟩)) PendOK.nil rfl rfl rfl rfl rfl rfl (Does.move rfl rfl) fun h162 => ?_
    refine RA.quiet (i := 1) (v := .pointer (some ⟨b0, 0, none⟩)) h162 rfl rfl rfl rfl rfl rfl (Does.nilCheck rfl rfl) fun h163 => ?_
    refine RA.quiet (i := 2) (v := .pointer (some ⟨b0, 1, none⟩)) h163 rfl rfl rfl rfl rfl rfl (Does.fieldAddr (o' := 1) rfl rfl fo_113_1 rfl) fun h164 => ?_
    refine RA.quiet (i := 3) (v := .pointer (some ⟨b111, 0, none⟩)) h164 rfl rfl rfl rfl rfl rfl (Does.loadPts (k := 2) (v := .pointer (some ⟨b111, 0, none⟩)) rfl rfl sc_108 rfl rfl) fun h165 => ?_
    refine RA.quiet (i := 4) (v := .pointer (some (adA a108 ((((IntKind.i64.wrap ((v0.frames.length : Int) - 1))).toNat) * ctrl_Frame.rep.n) 0))) h165 rfl rfl rfl rfl rfl rfl (Does.move rfl rfl) fun h166 => ?_
    refine RA.quiet (i := 5) (v := .pointer (some (adA a108 ((((IntKind.i64.wrap ((v0.frames.length : Int) - 1))).toNat) * ctrl_Frame.rep.n) 0))) h166 rfl rfl rfl rfl rfl rfl (Does.nilCheck rfl rfl) fun h167 => ?_
    refine RA.quiet (i := 6) (v := .pointer (some (adA a108 ((((IntKind.i64.wrap ((v0.frames.length : Int) - 1))).toNat) * ctrl_Frame.rep.n) 2))) h167 rfl rfl rfl rfl rfl rfl (Does.fieldAddrA (f' := 2) rfl rfl fo_136_2 rfl) fun h168 => ?_
    refine RA.quiet (i := 7) (v := .int .i64 v143.Height) h168 rfl rfl rfl rfl rfl rfl (Does.loadFlat (r := ctrl_Frame.rep) (k := 1) (f := 2) (v := .int .i64 v143.Height) rfl rfl sc_3 rfl Arrd.own (at?_out h144).2.2 rfl) fun h169 => ?_
    obtain ⟨v170, h171, hm⟩ := bind_o hm
    refine RA.eff (k := 8) (pend' := [(6, .pointer (some (adA a108 ((((IntKind.i64.wrap ((v0.frames.length : Int) - 1))).toNat) * ctrl_Frame.rep.n) 2))), (5, .pointer (some (adA a108 ((((IntKind.i64.wrap ((v0.frames.length : Int) - 1))).toNat) * ctrl_Frame.rep.n) 0))), (4, .pointer (some (adA a108 ((((IntKind.i64.wrap ((v0.frames.length : Int) - 1))).toNat) * ctrl_Frame.rep.n) 0))), (2, .pointer (some ⟨b0, 1, none⟩)), (1, .pointer (some ⟨b0, 0, none⟩)), (0, .pointer (some ⟨b0, 0, none⟩))]) (by kernel_rfl) h169 rfl (.inl ⟨_, rfl, rfl, fun _ => rfl⟩) rfl (by kernel_rfl) (Does.call (vs := [.pointer (some ⟨b111, 0, none⟩), .int .i64 v143.Height]) rfl co_92 rfl (fun w h => f92.ok v0.Stack b111 v143.Height h171 (h))) rfl (fun _ => (List.forall_mem_cons.2 ⟨⟨_, rfl, Does.fieldAddrA (f' := 2) rfl rfl fo_136_2 rfl⟩, (List.forall_mem_cons.2 ⟨⟨_, rfl, Does.nilCheck rfl rfl⟩, (List.forall_mem_cons.2 ⟨⟨_, rfl, Does.move rfl rfl⟩, (List.forall_mem_cons.2 ⟨⟨_, rfl, Does.fieldAddr (o' := 1) rfl rfl fo_113_1 rfl⟩, (List.forall_mem_cons.2 ⟨⟨_, rfl, Does.nilCheck rfl rfl⟩, (List.forall_mem_cons.2 ⟨⟨_, rfl, Does.move rfl rfl⟩, (fun _ h => by cases h)⟩)⟩)⟩)⟩)⟩)⟩)) (fun _ h172 => ?_)
    refine RA.done (by kernel_rfl) h172 rfl ?_
    refine TQ.then ?_
    refine T.region rfl ?_
    refine TO.go rfl rfl rfl (Does.move rfl rfl) fun _ => ?_
    refine TO.go rfl rfl rfl (Does.nilCheck rfl rfl) fun _ => ?_
    refine TO.go rfl rfl rfl (Does.fieldAddrA (f' := 3) rfl rfl fo_136_3 rfl) fun _ => ?_
    obtain ⟨v173, h174, hm⟩ := bind_o hm
    refine TO.go0 rfl rfl (Does.storeField (L' := ptr opstack_Stack.rep b111 v170 :: own ctrl_Frame.rep a108 n109 v173 :: pts b0 [.slice a108 v0.frames.length n109, .pointer (some ⟨b111, 0, none⟩)] :: R) (r := ctrl_Frame.rep) (k := 1) (f := 3) (v := .bool true) (vs := [.bool true]) (u := ({ Op := v143.Op, Results := v143.Results, Height := v143.Height, Dead := true } : ctrl_Frame)) (y := v143) rfl rfl rfl rfl rfl cn_4 rfl (at?_out h144).2.2 rfl rfl (by rw [set?_eq h174]; rfl)) fun _ => ?_
    try rw [set?_len h174]
    refine TO.ent (L' := ptr opstack_Stack.rep b111 v170 :: own ctrl_Frame.rep a108 n109 v173 :: pts b0 [.slice a108 v173.length n109, .pointer (some ⟨b111, 0, none⟩)] :: R) (fun w h => h) ?_
    refine TO.end rfl ?_
    refine TQ.result (.inr rfl) rfl Res.nil rfl (fun w h => ?_)
    cases hm
    exact ⟨(), rfl, shut_ptr (ctrl_Control.shut (x := ({ frames := v173, Stack := v170 } : ctrl_Control)) (a108, n109, b111) ((((h).ent (Ent.take 2 rfl)).ent (Ent.take 2 rfl)).ent (Ent.take 2 rfl)))⟩

/-- creel/check.block -/
def f78.f (v0 : Int) : Option ((List UInt8)) :=
  (if (v0 == 64) = true then some ([] : List UInt8) else some ([(UInt8.ofNat (v0 % 256).toNat)]))
set_option maxRecDepth 20000 in
set_option maxHeartbeats 1000000 in
theorem f78.ok {W w : World} {R : List Assn} (v0 : Int) {r : (List UInt8)} (hm : f78.f v0 = some r) (hs : St W w (R)) :
    Calls Try.prog 78 #[.int .u64 v0] w (fun e w' => ∃ x : Unit, e = .returned (.string ⟨r.toArray⟩) ∧ St W w' (R)) := by
  unfold f78.f at hm
  refine calls_sym (vs := [.int .u64 v0]) Try.func78 rfl rfl hs ?_
  refine T.seq rfl ?_
  refine T.region rfl ?_
  refine TO.go rfl rfl rfl (Does.assign (v := .string ⟨([] : List UInt8).toArray⟩) rfl rfl) fun _ => ?_
  refine TO.end rfl ?_
  refine TQ.then ?_
  refine T.seq rfl ?_
  refine T.seq rfl ?_
  refine T.region rfl ?_
  refine TO.go rfl rfl rfl (Does.move rfl rfl) fun _ => ?_
  refine TO.go rfl rfl rfl (Does.bin (v := .bool (v0 == 64)) (vy := .int .u64 64) rfl rfl rfl g_int b_eq) fun _ => ?_
  refine TO.end rfl ?_
  refine TQ.then ?_
  refine T.cond rfl (b := (v0 == 64)) rfl (fun h102 => ?_) (fun h102 => ?_)
  · replace hm := ite_t hm h102
    refine T.seq rfl ?_
    refine T.region rfl ?_
    refine TO.go rfl rfl rfl (Does.assign (v := .string ⟨([] : List UInt8).toArray⟩) rfl rfl) fun _ => ?_
    refine TO.end rfl ?_
    refine TQ.then ?_
    refine T.ret rfl ?_
    refine TQ.passThenRet ?_
    refine TQ.result (.inl rfl) rfl (Res.tmp rfl Res.nil) rfl (fun w h => ?_)
    cases hm
    exact ⟨(), rfl, h⟩
  · replace hm := ite_f hm h102
    refine T.skip rfl ?_
    refine TQ.then ?_
    refine T.seq rfl ?_
    refine T.region rfl ?_
    refine TO.go rfl rfl rfl (Does.move rfl rfl) fun _ => ?_
    refine TO.go rfl rfl rfl (Does.conv (v := .int .u8 (UInt8.ofNat (v0 % 256).toNat).toNat) rfl rfl (c_u8 un_38 ii_5)) fun _ => ?_
    refine TO.go rfl rfl rfl (Does.buildSlice (r := rU8) (l := [(UInt8.ofNat (v0 % 256).toNat)]) (cs := [.int .u8 (UInt8.ofNat (v0 % 256).toNat).toNat]) (vs := [(0, .int .u8 (UInt8.ofNat (v0 % 256).toNat).toNat)]) rfl rfl sl_107 (fun w => by kernel_rfl) rfl rfl (fun w h => (flat_add (r := rU8) (UInt8.ofNat (v0 % 256).toNat) rfl (h)).ent (Ent.unstar (L := [_])))) fun a104 => ?_
    refine TO.ent (L' := own rU8 a104 1 ([(UInt8.ofNat (v0 % 256).toNat)]) :: R) (fun w h => h) ?_
    refine TO.go rfl rfl rfl (Does.bytesToStr (k := 0) (l := [(UInt8.ofNat (v0 % 256).toNat)]) rfl rfl sl_107 ii_5 ss_9 rfl Arrd.own) fun _ => ?_
    refine TO.go rfl rfl rfl (Does.assign rfl rfl) fun _ => ?_
    refine TO.end rfl ?_
    refine TQ.then ?_
    refine T.ret rfl ?_
    refine TQ.result (.inl rfl) rfl (Res.tmp rfl Res.nil) rfl (fun w h => ?_)
    cases hm
    exact ⟨(), rfl, (h).ent (Ent.drop _ _)⟩

/-- (*creel/ctrl.Control).Close -/
def f79.f (v0 : ctrl_Control) : Option (ctrl_Frame × Int × ctrl_Control) :=
  ((f89.f v0).bind fun v103 => (if (!v103.2) = true then some (({ Op := (0 : UInt8), Results := ([] : List UInt8), Height := 0, Dead := false } : ctrl_Frame), 30, v0) else ((f81.f v0 v103.1.Results).bind fun v112 => (if (v112.1 != 0) = true then some (({ Op := (0 : UInt8), Results := ([] : List UInt8), Height := 0, Dead := false } : ctrl_Frame), v112.1, v112.2) else ((f65.f v112.2.Stack).bind fun v164 => (if (v164 != v103.1.Height) = true then some (({ Op := (0 : UInt8), Results := ([] : List UInt8), Height := 0, Dead := false } : ctrl_Frame), 21, v112.2) else ((sl? v112.2.frames (0 : Int) (IntKind.i64.wrap ((v112.2.frames.length : Int) - 1))).bind fun v203 => some (v103.1, 0, ({ frames := v203, Stack := v112.2.Stack } : ctrl_Control)))))))))
set_option maxRecDepth 20000 in
set_option maxHeartbeats 1000000 in
theorem f79.ok {W w : World} {R : List Assn} (v0 : ctrl_Control) (b0 : Nat) {r : ctrl_Frame × Int × ctrl_Control} (hm : f79.f v0 = some r) (hs : St W w (ptr ctrl_Control.rep b0 v0 :: R)) :
    Calls Try.prog 79 #[.pointer (some ⟨b0, 0, none⟩)] w (fun e w' => ∃ x : Unit, e = .returned (.tuple #[.agg #[.int .u8 r.1.Op.toNat, .string ⟨r.1.Results.toArray⟩, .int .i64 r.1.Height, .bool r.1.Dead], .int .i64 r.2.1]) ∧ St W w' (ptr ctrl_Control.rep b0 r.2.2 :: R)) := by
  unfold f79.f at hm
  refine calls_sym (vs := [.pointer (some ⟨b0, 0, none⟩)]) Try.func79 rfl rfl hs ?_
  refine T.seq rfl ?_
  refine T.region rfl ?_
  refine TO.go rfl rfl rfl (Does.alloc rfl zn_136) fun b101 => ?_
  refine TO.ent (L' := pts b101 [.int .u8 (0 : UInt8).toNat, .string ⟨([] : List UInt8).toArray⟩, .int .i64 0, .bool false] :: ptr ctrl_Control.rep b0 v0 :: R) (fun w h => h) ?_
  refine TO.go rfl rfl rfl (Does.assign (v := .int .i64 0) rfl rfl) fun _ => ?_
  refine TO.end rfl ?_
  refine TQ.then ?_
  refine T.seq rfl ?_
  refine T.region rfl ?_
  refine TO.go rfl rfl rfl (Does.move rfl rfl) fun _ => ?_
  obtain ⟨v103, h104, hm⟩ := bind_o hm
  refine TO.go rfl rfl rfl (Does.conseq (Does.call (vs := [.pointer (some ⟨b0, 0, none⟩)]) rfl co_89 rfl (fun w h => f89.ok v0 b0 h104 ((h).ent (Ent.take 1 rfl)))) (fun w h => h) (fun x w h => (h).ent (Ent.take 1 rfl))) fun _ => ?_
  refine TO.go rfl rfl rfl (Does.move rfl rfl) fun _ => ?_
  refine TO.go rfl rfl rfl (Does.extract rfl rfl rfl) fun _ => ?_
  refine TO.go rfl rfl rfl (Does.extract rfl rfl rfl) fun _ => ?_
  refine TO.go rfl rfl rfl (Does.alloc rfl zn_136) fun b105 => ?_
  refine TO.ent (L' := pts b105 [.int .u8 (0 : UInt8).toNat, .string ⟨([] : List UInt8).toArray⟩, .int .i64 0, .bool false] :: pts b101 [.int .u8 (0 : UInt8).toNat, .string ⟨([] : List UInt8).toArray⟩, .int .i64 0, .bool false] :: ptr ctrl_Control.rep b0 v0 :: R) (fun w h => h) ?_
  refine TO.go0 rfl rfl (Does.storePts (k := 0) (vs := [.int .u8 v103.1.Op.toNat, .string ⟨v103.1.Results.toArray⟩, .int .i64 v103.1.Height, .bool v103.1.Dead]) (cs' := [.int .u8 v103.1.Op.toNat, .string ⟨v103.1.Results.toArray⟩, .int .i64 v103.1.Height, .bool v103.1.Dead]) rfl rfl rfl rfl rfl cn_136 rfl rfl rfl rfl) fun _ => ?_
  refine TO.ent (L' := pts b105 [.int .u8 v103.1.Op.toNat, .string ⟨v103.1.Results.toArray⟩, .int .i64 v103.1.Height, .bool v103.1.Dead] :: pts b101 [.int .u8 (0 : UInt8).toNat, .string ⟨([] : List UInt8).toArray⟩, .int .i64 0, .bool false] :: ptr ctrl_Control.rep b0 v0 :: R) (fun w h => h) ?_
  refine TO.go rfl rfl rfl (Does.assign rfl rfl) fun _ => ?_
  refine TO.end rfl ?_
  refine TQ.then ?_
  refine T.seq rfl ?_
  refine T.seq rfl ?_
  refine T.region rfl ?_
  refine TO.go rfl rfl rfl (Does.move rfl rfl) fun _ => ?_
  refine TO.go rfl rfl rfl (Does.un (v := .bool (!v103.2)) rfl rfl (fun w => rfl)) fun _ => ?_
  refine TO.end rfl ?_
  refine TQ.then ?_
  refine T.cond rfl (b := (!v103.2)) rfl (fun h108 => ?_) (fun h108 => ?_)
  · replace hm := ite_t hm h108
    refine T.seq rfl ?_
    refine T.region rfl ?_
    refine TO.go rfl rfl rfl (Does.build (v := .agg #[.int .u8 (0 : UInt8).toNat, .string ⟨([] : List UInt8).toArray⟩, .int .i64 0, .bool false]) (vs := []) rfl rfl (fun w => by kernel_rfl)) fun _ => ?_
    refine TO.go0 rfl rfl (Does.storePts (k := 1) (vs := [.int .u8 (0 : UInt8).toNat, .string ⟨([] : List UInt8).toArray⟩, .int .i64 0, .bool false]) (cs' := [.int .u8 (0 : UInt8).toNat, .string ⟨([] : List UInt8).toArray⟩, .int .i64 0, .bool false]) rfl rfl rfl rfl rfl cn_136 rfl rfl rfl rfl) fun _ => ?_
    refine TO.ent (L' := pts b105 [.int .u8 v103.1.Op.toNat, .string ⟨v103.1.Results.toArray⟩, .int .i64 v103.1.Height, .bool v103.1.Dead] :: pts b101 [.int .u8 (0 : UInt8).toNat, .string ⟨([] : List UInt8).toArray⟩, .int .i64 0, .bool false] :: ptr ctrl_Control.rep b0 v0 :: R) (fun w h => h) ?_
    refine TO.go rfl rfl rfl (Does.assign (v := .int .i64 30) rfl rfl) fun _ => ?_
    refine TO.end rfl ?_
    refine TQ.then ?_
    refine T.ret rfl ?_
    refine TQ.passThenRet ?_
    refine TQ.result (.inl rfl) rfl (Res.cellN (k := 1) rfl rfl ag_136 (Res.tmp rfl Res.nil)) rfl (fun w h => ?_)
    cases hm
    exact ⟨(), rfl, ((h).ent (Ent.drop _ _)).ent (Ent.drop _ _)⟩
  · replace hm := ite_f hm h108
    refine T.skip rfl ?_
    refine TQ.then ?_
    refine T.seq rfl ?_
    refine T.seq rfl ?_
    refine T.region rfl ?_
    refine TO.go rfl rfl rfl (Does.move rfl rfl) fun _ => ?_
    refine TO.go rfl rfl rfl (Does.fieldAddr (o' := 1) rfl rfl fo_136_1 rfl) fun _ => ?_
    refine TO.go rfl rfl rfl (Does.loadPts (k := 0) (v := .string ⟨v103.1.Results.toArray⟩) rfl rfl sc_9 rfl rfl) fun _ => ?_
    obtain ⟨v112, h113, hm⟩ := bind_o hm
    refine TO.go rfl rfl rfl (Does.call (vs := [.pointer (some ⟨b0, 0, none⟩), .string ⟨v103.1.Results.toArray⟩]) rfl co_81 rfl (fun w h => f81.ok v0 b0 v103.1.Results h113 ((h).ent (Ent.take 2 rfl)))) fun _ => ?_
    refine TO.ent (L' := ptr ctrl_Control.rep b0 v112.2 :: pts b105 [.int .u8 v103.1.Op.toNat, .string ⟨v103.1.Results.toArray⟩, .int .i64 v103.1.Height, .bool v103.1.Dead] :: pts b101 [.int .u8 (0 : UInt8).toNat, .string ⟨([] : List UInt8).toArray⟩, .int .i64 0, .bool false] :: R) (fun w h => h) ?_
    refine TO.go rfl rfl rfl (Does.assign rfl rfl) fun _ => ?_
    refine TO.end rfl ?_
    refine TQ.then ?_
    refine T.seq rfl ?_
    refine T.region rfl ?_
    refine TO.go rfl rfl rfl (Does.move rfl rfl) fun _ => ?_
    refine TO.go rfl rfl rfl (Does.bin (v := .bool (v112.1 != 0)) (vy := .int .i64 0) rfl rfl rfl g_int b_ne) fun _ => ?_
    refine TO.end rfl ?_
    refine TQ.then ?_
    refine T.cond rfl (b := (v112.1 != 0)) rfl (fun h114 => ?_) (fun h114 => ?_)
    · replace hm := ite_t hm h114
      refine T.seq rfl ?_
      refine T.region rfl ?_
      refine TO.go rfl rfl rfl (Does.build (v := .agg #[.int .u8 (0 : UInt8).toNat, .string ⟨([] : List UInt8).toArray⟩, .int .i64 0, .bool false]) (vs := []) rfl rfl (fun w => by kernel_rfl)) fun _ => ?_
      refine TO.go rfl rfl rfl (Does.move rfl rfl) fun _ => ?_
      refine TO.go0 rfl rfl (Does.storePts (k := 2) (vs := [.int .u8 (0 : UInt8).toNat, .string ⟨([] : List UInt8).toArray⟩, .int .i64 0, .bool false]) (cs' := [.int .u8 (0 : UInt8).toNat, .string ⟨([] : List UInt8).toArray⟩, .int .i64 0, .bool false]) rfl rfl rfl rfl rfl cn_136 rfl rfl rfl rfl) fun _ => ?_
      refine TO.ent (L' := ptr ctrl_Control.rep b0 v112.2 :: pts b105 [.int .u8 v103.1.Op.toNat, .string ⟨v103.1.Results.toArray⟩, .int .i64 v103.1.Height, .bool v103.1.Dead] :: pts b101 [.int .u8 (0 : UInt8).toNat, .string ⟨([] : List UInt8).toArray⟩, .int .i64 0, .bool false] :: R) (fun w h => h) ?_
      refine TO.go rfl rfl rfl (Does.assign rfl rfl) fun _ => ?_
      refine TO.end rfl ?_
      refine TQ.then ?_
      refine T.ret rfl ?_
      refine TQ.passThenRet ?_
      refine TQ.result (.inl rfl) rfl (Res.cellN (k := 2) rfl rfl ag_136 (Res.tmp rfl Res.nil)) rfl (fun w h => ?_)
      cases hm
      exact ⟨(), rfl, ((((h).ent (Ent.take 1 rfl)).ent (Ent.drop _ _)).ent (Ent.take 1 rfl)).ent (Ent.drop _ _)⟩
    · replace hm := ite_f hm h114
      refine T.skip rfl ?_
      refine TQ.then ?_
      refine T.seq rfl ?_
      refine T.seq rfl ?_
      refine T.st (X := List Value) (p := fun _ => True) (fun w h => let ⟨cs, h⟩ := open_ptr (h); ⟨cs, trivial, h⟩) ?_
      intro cs157 _
      refine T.st (fun w h => ctrl_Control.open h) ?_
      rintro ⟨a152, n153, b155⟩ rfl
      refine T.draw [0, 1, 2, 3, 4, 5, 6, 7] rfl mixed ?_
      refine RA.quiet (i := 0) (v := .pointer (some ⟨b0, 0, none⟩)) PendOK.nil rfl rfl rfl rfl rfl rfl (Does.move rfl rfl) fun h160 => ?_
      refine RA.quiet (i := 1) (v := .pointer (some ⟨b0, 0, none⟩)) h160 rfl rfl rfl rfl rfl rfl (Does.nilCheck rfl rfl) fun h161 => ?_
      refine RA.quiet (i := 2) (v := .pointer (some ⟨b0, 1, none⟩)) h161 rfl rfl rfl rfl rfl rfl (Does.fieldAddr (o' := 1) rfl rfl fo_113_1 rfl) fun h162 => ?_
      refine RA.quiet (i := 3) (v := .pointer (some ⟨b155, 0, none⟩)) h162 rfl rfl rfl rfl rfl rfl (Does.loadPts (k := 2) (v := .pointer (some ⟨b155, 0, none⟩)) rfl rfl sc_108 rfl rfl) fun h163 => ?_
      obtain ⟨v164, h165, hm⟩ := bind_o hm
      refine RA.quiet (i := 4) (v := .int .i64 v164) h163 rfl rfl rfl rfl rfl rfl (Does.conseq (Does.call (vs := [.pointer (some ⟨b155, 0, none⟩)]) rfl co_65 rfl (fun w h => f65.ok v112.2.Stack b155 h165 (h))) (fun w h => h) (fun x w h => (((((h).ent (Ent.take 4 rfl)).ent (Ent.take 4 rfl)).ent (Ent.take 4 rfl)).ent (Ent.take 4 rfl)).ent (Ent.take 4 rfl))) fun h166 => ?_
      refine RA.quiet (i := 5) (v := .pointer (some ⟨b105, 2, none⟩)) h166 rfl rfl rfl rfl rfl rfl (Does.fieldAddr (o' := 2) rfl rfl fo_136_2 rfl) fun h167 => ?_
      refine RA.quiet (i := 6) (v := .int .i64 v103.1.Height) h167 rfl rfl rfl rfl rfl rfl (Does.loadPts (k := 3) (v := .int .i64 v103.1.Height) rfl rfl sc_3 rfl rfl) fun h168 => ?_
      refine RA.quiet (i := 7) (v := .bool (v164 != v103.1.Height)) h168 rfl rfl rfl rfl rfl rfl (Does.bin (v := .bool (v164 != v103.1.Height)) rfl rfl rfl g_int b_ne) fun h169 => ?_
      refine RA.done (by kernel_rfl) h169 rfl ?_
      refine TQ.then ?_
      refine T.cond rfl (b := (v164 != v103.1.Height)) rfl (fun h170 => ?_) (fun h170 => ?_)
      · replace hm := ite_t hm h170
        refine T.seq rfl ?_
        refine T.region rfl ?_
        refine TO.go rfl rfl rfl (Does.build (v := .agg #[.int .u8 (0 : UInt8).toNat, .string ⟨([] : List UInt8).toArray⟩, .int .i64 0, .bool false]) (vs := []) rfl rfl (fun w => by kernel_rfl)) fun _ => ?_
        refine TO.go0 rfl rfl (Does.storePts (k := 4) (vs := [.int .u8 (0 : UInt8).toNat, .string ⟨([] : List UInt8).toArray⟩, .int .i64 0, .bool false]) (cs' := [.int .u8 (0 : UInt8).toNat, .string ⟨([] : List UInt8).toArray⟩, .int .i64 0, .bool false]) rfl rfl rfl rfl rfl cn_136 rfl rfl rfl rfl) fun _ => ?_
        refine TO.ent (L' := ptr opstack_Stack.rep b155 v112.2.Stack :: own ctrl_Frame.rep a152 n153 v112.2.frames :: pts b0 [.slice a152 v112.2.frames.length n153, .pointer (some ⟨b155, 0, none⟩)] :: pts b105 [.int .u8 v103.1.Op.toNat, .string ⟨v103.1.Results.toArray⟩, .int .i64 v103.1.Height, .bool v103.1.Dead] :: pts b101 [.int .u8 (0 : UInt8).toNat, .string ⟨([] : List UInt8).toArray⟩, .int .i64 0, .bool false] :: R) (fun w h => h) ?_
        refine TO.go rfl rfl rfl (Does.assign (v := .int .i64 21) rfl rfl) fun _ => ?_
        refine TO.end rfl ?_
        refine TQ.then ?_
        refine T.ret rfl ?_
        refine TQ.passThenRet ?_
        refine TQ.result (.inl rfl) rfl (Res.cellN (k := 4) rfl rfl ag_136 (Res.tmp rfl Res.nil)) rfl (fun w h => ?_)
        cases hm
        exact ⟨(), rfl, ((((shut_ptr (ctrl_Control.shut (x := v112.2) (a152, n153, b155) ((((h).ent (Ent.take 2 rfl)).ent (Ent.take 2 rfl)).ent (Ent.take 2 rfl)))).ent (Ent.take 1 rfl)).ent (Ent.drop _ _)).ent (Ent.take 1 rfl)).ent (Ent.drop _ _)⟩
      · replace hm := ite_f hm h170
        refine T.skip rfl ?_
        refine TQ.then ?_
        refine T.seq rfl ?_
        refine T.draw [0, 1, 2, 3, 4, 5, 6, 7, 8, 9, 10, 12, 13] rfl mixed ?_
        refine RA.quiet (i := 0) (v := .pointer (some ⟨b0, 0, none⟩)) PendOK.nil rfl rfl rfl rfl rfl rfl (Does.move rfl rfl) fun h192 => ?_
        refine RA.quiet (i := 1) (v := .pointer (some ⟨b0, 0, none⟩)) h192 rfl rfl rfl rfl rfl rfl (Does.move rfl rfl) fun h193 => ?_
        refine RA.quiet (i := 2) (v := .pointer (some ⟨b0, 0, none⟩)) h193 rfl rfl rfl rfl rfl rfl (Does.nilCheck rfl rfl) fun h194 => ?_
        refine RA.quiet (i := 3) (v := .pointer (some ⟨b0, 0, none⟩)) h194 rfl rfl rfl rfl rfl rfl (Does.fieldAddr (o' := 0) rfl rfl fo_113_0 rfl) fun h195 => ?_
        refine RA.quiet (i := 4) (v := .slice a152 v112.2.frames.length n153) h195 rfl rfl rfl rfl rfl rfl (Does.loadPts (k := 2) (v := .slice a152 v112.2.frames.length n153) rfl rfl sc_111 rfl rfl) fun h196 => ?_
        refine RA.quiet (i := 5) (v := .pointer (some ⟨b0, 0, none⟩)) h196 rfl rfl rfl rfl rfl rfl (Does.move rfl rfl) fun h197 => ?_
        refine RA.quiet (i := 6) (v := .pointer (some ⟨b0, 0, none⟩)) h197 rfl rfl rfl rfl rfl rfl (Does.nilCheck rfl rfl) fun h198 => ?_
        refine RA.quiet (i := 7) (v := .pointer (some ⟨b0, 0, none⟩)) h198 rfl rfl rfl rfl rfl rfl (Does.fieldAddr (o' := 0) rfl rfl fo_113_0 rfl) fun h199 => ?_
        refine RA.quiet (i := 8) (v := .slice a152 v112.2.frames.length n153) h199 rfl rfl rfl rfl rfl rfl (Does.loadPts (k := 2) (v := .slice a152 v112.2.frames.length n153) rfl rfl sc_111 rfl rfl) fun h200 => ?_
        refine RA.quiet (i := 9) (v := .int .i64 (v112.2.frames.length : Int)) h200 rfl rfl rfl rfl rfl rfl (Does.lenSl rfl rfl sl_111) fun h201 => ?_
        refine RA.quiet (i := 10) (v := .int .i64 (IntKind.i64.wrap ((v112.2.frames.length : Int) - 1))) h201 rfl rfl rfl rfl rfl rfl (Does.bin (v := .int .i64 (IntKind.i64.wrap ((v112.2.frames.length : Int) - 1))) (vy := .int .i64 1) rfl rfl rfl g_int b_sub) fun h202 => ?_
        obtain ⟨v203, h204, hm⟩ := bind_o hm
        refine RA.eff (k := 11) (pend' := [(9, .int .i64 (v112.2.frames.length : Int)), (8, .slice a152 v112.2.frames.length n153), (7, .pointer (some ⟨b0, 0, none⟩)), (6, .pointer (some ⟨b0, 0, none⟩)), (5, .pointer (some ⟨b0, 0, none⟩)), (3, .pointer (some ⟨b0, 0, none⟩)), (2, .pointer (some ⟨b0, 0, none⟩)), (1, .pointer (some ⟨b0, 0, none⟩)), (0, .pointer (some ⟨b0, 0, none⟩))]) (by kernel_rfl) h202 rfl (.inl ⟨_, rfl, rfl, fun _ => rfl⟩) rfl (by kernel_rfl) (Does.sliceOwn (r := ctrl_Frame.rep) (k := 1) rfl rfl rfl rfl sl_111 rfl h204) rfl (fun _ => (List.forall_mem_cons.2 ⟨⟨_, rfl, Does.lenSl rfl rfl sl_111⟩, (List.forall_mem_cons.2 ⟨⟨_, rfl, Does.loadPts (k := 2) (v := .slice a152 v112.2.frames.length n153) rfl rfl sc_111 rfl rfl⟩, (List.forall_mem_cons.2 ⟨⟨_, rfl, Does.fieldAddr (o' := 0) rfl rfl fo_113_0 rfl⟩, (List.forall_mem_cons.2 ⟨⟨_, rfl, Does.nilCheck rfl rfl⟩, (List.forall_mem_cons.2 ⟨⟨_, rfl, Does.move rfl rfl⟩, (List.forall_mem_cons.2 ⟨⟨_, rfl, Does.fieldAddr (o' := 0) rfl rfl fo_113_0 rfl⟩, (List.forall_mem_cons.2 ⟨⟨_, rfl, Does.nilCheck rfl rfl⟩, (List.forall_mem_cons.2 ⟨⟨_, rfl, Does.move rfl rfl⟩, (List.forall_mem_cons.2 ⟨⟨_, rfl, Does.move rfl rfl⟩, (fun _ h => by cases h)⟩)⟩)⟩)⟩)⟩)⟩)⟩)⟩)⟩)) (fun _ h205 => ?_)
        refine RA.quiet (i := 12) (v := .pointer (some ⟨b0, 0, none⟩)) h205 rfl rfl rfl rfl rfl rfl (Does.nilCheck rfl rfl) fun h206 => ?_
        refine RA.quiet (i := 13) (v := .pointer (some ⟨b0, 0, none⟩)) h206 rfl rfl rfl rfl rfl rfl (Does.fieldAddr (o' := 0) rfl rfl fo_113_0 rfl) fun h207 => ?_
        refine RA.eff (k := 14) (pend' := [(12, .pointer (some ⟨b0, 0, none⟩))]) (by kernel_rfl) h207 rfl (.inr ⟨rfl, fun _ => rfl⟩) rfl (by kernel_rfl) (Does.storePts (k := 2) (vs := [.slice (subA a152 ((0 : Int)).toNat n153 ctrl_Frame.rep.n) v203.length (n153 - ((0 : Int)).toNat)]) (cs' := [.slice (subA a152 ((0 : Int)).toNat n153 ctrl_Frame.rep.n) v203.length (n153 - ((0 : Int)).toNat), .pointer (some ⟨b155, 0, none⟩)]) rfl rfl rfl rfl rfl cn_111 rfl rfl rfl rfl) rfl (fun _ => (List.forall_mem_cons.2 ⟨⟨_, rfl, Does.nilCheck rfl rfl⟩, (fun _ h => by cases h)⟩)) (fun _ h208 => ?_)
        refine RA.done (by kernel_rfl) h208 rfl ?_
        refine TQ.then ?_
        refine T.seq rfl ?_
        refine T.region rfl ?_
        refine TO.go rfl rfl rfl (Does.loadPtsN (k := 3) (vs := [.int .u8 v103.1.Op.toNat, .string ⟨v103.1.Results.toArray⟩, .int .i64 v103.1.Height, .bool v103.1.Dead]) rfl rfl ag_136 rfl rfl rfl) fun _ => ?_
        refine TO.go0 rfl rfl (Does.storePts (k := 4) (vs := [.int .u8 v103.1.Op.toNat, .string ⟨v103.1.Results.toArray⟩, .int .i64 v103.1.Height, .bool v103.1.Dead]) (cs' := [.int .u8 v103.1.Op.toNat, .string ⟨v103.1.Results.toArray⟩, .int .i64 v103.1.Height, .bool v103.1.Dead]) rfl rfl rfl rfl rfl cn_136 rfl rfl rfl rfl) fun _ => ?_
        refine TO.ent (L' := ptr opstack_Stack.rep b155 v112.2.Stack :: own ctrl_Frame.rep (subA a152 ((0 : Int)).toNat n153 ctrl_Frame.rep.n) (n153 - ((0 : Int)).toNat) v203 :: pts b0 [.slice (subA a152 ((0 : Int)).toNat n153 ctrl_Frame.rep.n) v203.length (n153 - ((0 : Int)).toNat), .pointer (some ⟨b155, 0, none⟩)] :: pts b105 [.int .u8 v103.1.Op.toNat, .string ⟨v103.1.Results.toArray⟩, .int .i64 v103.1.Height, .bool v103.1.Dead] :: pts b101 [.int .u8 v103.1.Op.toNat, .string ⟨v103.1.Results.toArray⟩, .int .i64 v103.1.Height, .bool v103.1.Dead] :: R) (fun w h => h) ?_
        refine TO.go rfl rfl rfl (Does.assign (v := .int .i64 0) rfl rfl) fun _ => ?_
        refine TO.end rfl ?_
        refine TQ.then ?_
        refine T.ret rfl ?_
        refine TQ.result (.inl rfl) rfl (Res.cellN (k := 4) rfl rfl ag_136 (Res.tmp rfl Res.nil)) rfl (fun w h => ?_)
        cases hm
        exact ⟨(), rfl, ((((shut_ptr (ctrl_Control.shut (x := ({ frames := v203, Stack := v112.2.Stack } : ctrl_Control)) ((subA a152 ((0 : Int)).toNat n153 ctrl_Frame.rep.n), (n153 - ((0 : Int)).toNat), b155) ((((h).ent (Ent.take 2 rfl)).ent (Ent.take 2 rfl)).ent (Ent.take 2 rfl)))).ent (Ent.take 1 rfl)).ent (Ent.drop _ _)).ent (Ent.take 1 rfl)).ent (Ent.drop _ _)⟩

def f80.j1 (v0 : check_checker) (v112 : ctrl_Frame × Int × ctrl_Control) (v134 : Bool) : Option (Int × check_checker) :=
  (if v134 = true then some (21, ({ env := v0.env, locals := v0.locals, c := v112.2.2, result := v0.result } : check_checker)) else ((f84.f v112.2.2.Stack v112.1.Results).bind fun v174 => some (0, ({ env := v0.env, locals := v0.locals, c := ({ frames := v112.2.2.frames, Stack := v174 } : ctrl_Control), result := v0.result } : check_checker))))
/-- (*creel/check.checker).end -/
def f80.f (v0 : check_checker) : Option (Int × check_checker) :=
  ((f79.f v0.c).bind fun v112 => (if (v112.2.1 != 0) = true then some (v112.2.1, ({ env := v0.env, locals := v0.locals, c := v112.2.2, result := v0.result } : check_checker)) else (if (v112.1.Op == (4 : UInt8)) = true then f80.j1 v0 v112 (v112.1.Results != ([] : List UInt8)) else f80.j1 v0 v112 false)))
set_option maxRecDepth 20000 in
set_option maxHeartbeats 1000000 in
theorem f80.ok {W w : World} {R : List Assn} (v0 : check_checker) (b0 : Nat) (a101 : Option Addr) (n102 : Nat) (a104 : Option Addr) (n105 : Nat) (a107 : Option Addr) (n108 : Nat) (b110 : Nat) {r : Int × check_checker} (hm : f80.f v0 = some r) (hs : St W w (pts b0 [.slice a101 v0.env.Types.length n102, .slice a104 v0.env.Funcs.length n105, .slice a107 v0.env.Globals.length n108, .bool v0.env.Table, .bool v0.env.Mem, .string ⟨v0.locals.toArray⟩, .pointer (some ⟨b110, 0, none⟩), .string ⟨v0.result.toArray⟩] :: ptr ctrl_Control.rep b110 v0.c :: ro api_GlobalType.rep a107 n108 v0.env.Globals :: ro (rI .u32) a104 n105 v0.env.Funcs :: ro api_FuncType.rep a101 n102 v0.env.Types :: R)) :
    Calls Try.prog 80 #[.pointer (some ⟨b0, 0, none⟩)] w (fun e w' => ∃ x : Unit, e = .returned (.int .i64 r.1) ∧ St W w' (pts b0 [.slice a101 v0.env.Types.length n102, .slice a104 v0.env.Funcs.length n105, .slice a107 v0.env.Globals.length n108, .bool v0.env.Table, .bool v0.env.Mem, .string ⟨v0.locals.toArray⟩, .pointer (some ⟨b110, 0, none⟩), .string ⟨v0.result.toArray⟩] :: ptr ctrl_Control.rep b110 r.2.c :: R)) := by
  unfold f80.f at hm
  refine calls_sym (vs := [.pointer (some ⟨b0, 0, none⟩)]) Try.func80 rfl rfl hs ?_
  refine T.seq rfl ?_
  refine T.region rfl ?_
  refine TO.go rfl rfl rfl (Does.assign (v := .int .i64 0) rfl rfl) fun _ => ?_
  refine TO.end rfl ?_
  refine TQ.then ?_
  refine T.seq rfl ?_
  refine T.region rfl ?_
  refine TO.go rfl rfl rfl (Does.move rfl rfl) fun _ => ?_
  refine TO.go rfl rfl rfl (Does.nilCheck rfl rfl) fun _ => ?_
  refine TO.go rfl rfl rfl (Does.fieldAddr (o' := 6) rfl rfl fo_76_2 rfl) fun _ => ?_
  refine TO.go rfl rfl rfl (Does.loadPts (k := 0) (v := .pointer (some ⟨b110, 0, none⟩)) rfl rfl sc_73 rfl rfl) fun _ => ?_
  obtain ⟨v112, h113, hm⟩ := bind_o hm
  refine TO.go rfl rfl rfl (Does.call (vs := [.pointer (some ⟨b110, 0, none⟩)]) rfl co_79 rfl (fun w h => f79.ok v0.c b110 h113 ((h).ent (Ent.take 1 rfl)))) fun _ => ?_
  refine TO.ent (L' := ptr ctrl_Control.rep b110 v112.2.2 :: pts b0 [.slice a101 v0.env.Types.length n102, .slice a104 v0.env.Funcs.length n105, .slice a107 v0.env.Globals.length n108, .bool v0.env.Table, .bool v0.env.Mem, .string ⟨v0.locals.toArray⟩, .pointer (some ⟨b110, 0, none⟩), .string ⟨v0.result.toArray⟩] :: ro api_GlobalType.rep a107 n108 v0.env.Globals :: ro (rI .u32) a104 n105 v0.env.Funcs :: ro api_FuncType.rep a101 n102 v0.env.Types :: R) (fun w h => h) ?_
  refine TO.go rfl rfl rfl (Does.move rfl rfl) fun _ => ?_
  refine TO.go rfl rfl rfl (Does.extract rfl rfl rfl) fun _ => ?_
  refine TO.go rfl rfl rfl (Does.extract rfl rfl rfl) fun _ => ?_
  refine TO.go rfl rfl rfl (Does.alloc rfl zn_136) fun b114 => ?_
  refine TO.ent (L' := pts b114 [.int .u8 (0 : UInt8).toNat, .string ⟨([] : List UInt8).toArray⟩, .int .i64 0, .bool false] :: ptr ctrl_Control.rep b110 v112.2.2 :: pts b0 [.slice a101 v0.env.Types.length n102, .slice a104 v0.env.Funcs.length n105, .slice a107 v0.env.Globals.length n108, .bool v0.env.Table, .bool v0.env.Mem, .string ⟨v0.locals.toArray⟩, .pointer (some ⟨b110, 0, none⟩), .string ⟨v0.result.toArray⟩] :: ro api_GlobalType.rep a107 n108 v0.env.Globals :: ro (rI .u32) a104 n105 v0.env.Funcs :: ro api_FuncType.rep a101 n102 v0.env.Types :: R) (fun w h => h) ?_
  refine TO.go0 rfl rfl (Does.storePts (k := 0) (vs := [.int .u8 v112.1.Op.toNat, .string ⟨v112.1.Results.toArray⟩, .int .i64 v112.1.Height, .bool v112.1.Dead]) (cs' := [.int .u8 v112.1.Op.toNat, .string ⟨v112.1.Results.toArray⟩, .int .i64 v112.1.Height, .bool v112.1.Dead]) rfl rfl rfl rfl rfl cn_136 rfl rfl rfl rfl) fun _ => ?_
  refine TO.ent (L' := pts b114 [.int .u8 v112.1.Op.toNat, .string ⟨v112.1.Results.toArray⟩, .int .i64 v112.1.Height, .bool v112.1.Dead] :: ptr ctrl_Control.rep b110 v112.2.2 :: pts b0 [.slice a101 v0.env.Types.length n102, .slice a104 v0.env.Funcs.length n105, .slice a107 v0.env.Globals.length n108, .bool v0.env.Table, .bool v0.env.Mem, .string ⟨v0.locals.toArray⟩, .pointer (some ⟨b110, 0, none⟩), .string ⟨v0.result.toArray⟩] :: ro api_GlobalType.rep a107 n108 v0.env.Globals :: ro (rI .u32) a104 n105 v0.env.Funcs :: ro api_FuncType.rep a101 n102 v0.env.Types :: R) (fun w h => h) ?_
  refine TO.go rfl rfl rfl (Does.assign rfl rfl) fun _ => ?_
  refine TO.end rfl ?_
  refine TQ.then ?_
  refine T.seq rfl ?_
  refine T.block rfl ?_
  refine T.seq rfl ?_
  refine T.region rfl ?_
  refine TO.go rfl rfl rfl (Does.move rfl rfl) fun _ => ?_
  refine TO.go rfl rfl rfl (Does.bin (v := .bool (v112.2.1 != 0)) (vy := .int .i64 0) rfl rfl rfl g_int b_ne) fun _ => ?_
  refine TO.go rfl rfl rfl (Does.assign rfl rfl) fun _ => ?_
  refine TO.end rfl ?_
  refine TQ.then ?_
  refine T.cond rfl (b := (v112.2.1 != 0)) rfl (fun h126 => ?_) (fun h126 => ?_)
  · replace hm := ite_t hm h126
    refine T.seq rfl ?_
    refine T.region rfl ?_
    refine TO.go rfl rfl rfl (Does.move rfl rfl) fun _ => ?_
    refine TO.go rfl rfl rfl (Does.assign rfl rfl) fun _ => ?_
    refine TO.end rfl ?_
    refine TQ.then ?_
    refine T.ret rfl ?_
    refine TQ.passBlockRet ?_
    refine TQ.passThenRet ?_
    refine TQ.result (.inl rfl) rfl (Res.tmp rfl Res.nil) rfl (fun w h => ?_)
    cases hm
    exact ⟨(), rfl, ((((((((h).ent (Ent.drop _ _)).ent (Ent.take 2 rfl)).ent (Ent.drop _ _)).ent (Ent.take 2 rfl)).ent (Ent.drop _ _)).ent (Ent.take 2 rfl)).ent (Ent.drop _ _)).ent (Ent.take 1 rfl)⟩
  · replace hm := ite_f hm h126
    refine T.seqJ (X := Bool) rfl (fun x => [(17, .bool x), (3, .pointer (some ⟨b114, 0, none⟩)), (0, .pointer (some ⟨b0, 0, none⟩))]) (fun x => ro api_FuncType.rep a101 n102 v0.env.Types :: ro (rI .u32) a104 n105 v0.env.Funcs :: ro api_GlobalType.rep a107 n108 v0.env.Globals :: ptr ctrl_Control.rep b110 v112.2.2 :: pts b0 [.slice a101 v0.env.Types.length n102, .slice a104 v0.env.Funcs.length n105, .slice a107 v0.env.Globals.length n108, .bool v0.env.Table, .bool v0.env.Mem, .string ⟨v0.locals.toArray⟩, .pointer (some ⟨b110, 0, none⟩), .string ⟨v0.result.toArray⟩] :: pts b114 [.int .u8 v112.1.Op.toNat, .string ⟨v112.1.Results.toArray⟩, .int .i64 v112.1.Height, .bool v112.1.Dead] :: R) (fun x => f80.j1 v0 v112 x = some r) ?_ ?_
    · rintro v134 hm
      try dsimp only
      unfold f80.j1 at hm
      refine T.cond rfl (b := v134) rfl (fun h136 => ?_) (fun h136 => ?_)
      · replace hm := ite_t hm h136
        refine T.seq rfl ?_
        refine T.region rfl ?_
        refine TO.go rfl rfl rfl (Does.assign (v := .int .i64 21) rfl rfl) fun _ => ?_
        refine TO.end rfl ?_
        refine TQ.then ?_
        refine T.ret rfl ?_
        refine TQ.passBlockRet ?_
        refine TQ.passThenRet ?_
        refine TQ.result (.inl rfl) rfl (Res.tmp rfl Res.nil) rfl (fun w h => ?_)
        cases hm
        exact ⟨(), rfl, ((((((h).ent (Ent.drop _ _)).ent (Ent.drop _ _)).ent (Ent.drop _ _)).ent (Ent.take 2 rfl)).ent (Ent.drop _ _)).ent (Ent.take 1 rfl)⟩
      · replace hm := ite_f hm h136
        refine T.skip rfl ?_
        refine TQ.passBlockNormal ?_
        refine TQ.then ?_
        refine T.seq rfl ?_
        refine T.st (X := List Value) (p := fun _ => True) (fun w h => let ⟨cs, h⟩ := open_ptr (h.ent (Ent.take 3 rfl)); ⟨cs, trivial, h⟩) ?_
        intro cs162 _
        refine T.st (fun w h => ctrl_Control.open h) ?_
        rintro ⟨a157, n158, b160⟩ rfl
        refine T.draw [0, 1, 2, 3, 4, 5, 6, 7, 8] rfl mixed ?_
        refine RA.quiet (i := 0) (v := .pointer (some ⟨b0, 0, none⟩)) PendOK.nil rfl rfl rfl rfl rfl rfl (Does.move rfl rfl) fun h165 => ?_
        refine RA.quiet (i := 1) (v := .pointer (some ⟨b0, 0, none⟩)) h165 rfl rfl rfl rfl rfl rfl (Does.nilCheck rfl rfl) fun h166 => ?_
        refine RA.quiet (i := 2) (v := .pointer (some ⟨b0, 6, none⟩)) h166 rfl rfl rfl rfl rfl rfl (Does.fieldAddr (o' := 6) rfl rfl fo_76_2 rfl) fun h167 => ?_
        refine RA.quiet (i := 3) (v := .pointer (some ⟨b110, 0, none⟩)) h167 rfl rfl rfl rfl rfl rfl (Does.loadPts (k := 6) (v := .pointer (some ⟨b110, 0, none⟩)) rfl rfl sc_73 rfl rfl) fun h168 => ?_
        refine RA.quiet (i := 4) (v := .pointer (some ⟨b110, 0, none⟩)) h168 rfl rfl rfl rfl rfl rfl (Does.nilCheck rfl rfl) fun h169 => ?_
        refine RA.quiet (i := 5) (v := .pointer (some ⟨b110, 1, none⟩)) h169 rfl rfl rfl rfl rfl rfl (Does.fieldAddr (o' := 1) rfl rfl fo_113_1 rfl) fun h170 => ?_
        refine RA.quiet (i := 6) (v := .pointer (some ⟨b160, 0, none⟩)) h170 rfl rfl rfl rfl rfl rfl (Does.loadPts (k := 2) (v := .pointer (some ⟨b160, 0, none⟩)) rfl rfl sc_108 rfl rfl) fun h171 => ?_
        refine RA.quiet (i := 7) (v := .pointer (some ⟨b114, 1, none⟩)) h171 rfl rfl rfl rfl rfl rfl (Does.fieldAddr (o' := 1) rfl rfl fo_136_1 rfl) fun h172 => ?_
        refine RA.quiet (i := 8) (v := .string ⟨v112.1.Results.toArray⟩) h172 rfl rfl rfl rfl rfl rfl (Does.loadPts (k := 7) (v := .string ⟨v112.1.Results.toArray⟩) rfl rfl sc_9 rfl rfl) fun h173 => ?_
        obtain ⟨v174, h175, hm⟩ := bind_o hm
        refine RA.eff (k := 9) (pend' := [(7, .pointer (some ⟨b114, 1, none⟩)), (5, .pointer (some ⟨b110, 1, none⟩)), (4, .pointer (some ⟨b110, 0, none⟩)), (3, .pointer (some ⟨b110, 0, none⟩)), (2, .pointer (some ⟨b0, 6, none⟩)), (1, .pointer (some ⟨b0, 0, none⟩)), (0, .pointer (some ⟨b0, 0, none⟩))]) (by kernel_rfl) h173 rfl (.inl ⟨_, rfl, rfl, fun _ => rfl⟩) rfl (by kernel_rfl) (Does.call (vs := [.pointer (some ⟨b160, 0, none⟩), .string ⟨v112.1.Results.toArray⟩]) rfl co_84 rfl (fun w h => f84.ok v112.2.2.Stack b160 v112.1.Results h175 (h))) rfl (fun _ => (List.forall_mem_cons.2 ⟨⟨_, rfl, Does.fieldAddr (o' := 1) rfl rfl fo_136_1 rfl⟩, (List.forall_mem_cons.2 ⟨⟨_, rfl, Does.fieldAddr (o' := 1) rfl rfl fo_113_1 rfl⟩, (List.forall_mem_cons.2 ⟨⟨_, rfl, Does.nilCheck rfl rfl⟩, (List.forall_mem_cons.2 ⟨⟨_, rfl, Does.loadPts (k := 6) (v := .pointer (some ⟨b110, 0, none⟩)) rfl rfl sc_73 rfl rfl⟩, (List.forall_mem_cons.2 ⟨⟨_, rfl, Does.fieldAddr (o' := 6) rfl rfl fo_76_2 rfl⟩, (List.forall_mem_cons.2 ⟨⟨_, rfl, Does.nilCheck rfl rfl⟩, (List.forall_mem_cons.2 ⟨⟨_, rfl, Does.move rfl rfl⟩, (fun _ h => by cases h)⟩)⟩)⟩)⟩)⟩)⟩)⟩)) (fun _ h176 => ?_)
        refine RA.done (by kernel_rfl) h176 rfl ?_
        refine TQ.then ?_
        refine T.seq rfl ?_
        refine T.region rfl ?_
        refine TO.go rfl rfl rfl (Does.assign (v := .int .i64 0) rfl rfl) fun _ => ?_
        refine TO.end rfl ?_
        refine TQ.then ?_
        refine T.ret rfl ?_
        refine TQ.result (.inl rfl) rfl (Res.tmp rfl Res.nil) rfl (fun w h => ?_)
        cases hm
        exact ⟨(), rfl, (((((((((shut_ptr (ctrl_Control.shut (x := ({ frames := v112.2.2.frames, Stack := v174 } : ctrl_Control)) (a157, n158, b160) ((((h).ent (Ent.take 2 rfl)).ent (Ent.take 2 rfl)).ent (Ent.take 2 rfl)))).ent (Ent.take 1 rfl)).ent (Ent.drop _ _)).ent (Ent.take 1 rfl)).ent (Ent.drop _ _)).ent (Ent.take 1 rfl)).ent (Ent.drop _ _)).ent (Ent.take 2 rfl)).ent (Ent.drop _ _)).ent (Ent.take 1 rfl)⟩
    · intro h135
      refine T.region rfl ?_
      refine TO.go rfl rfl rfl (Does.fieldAddr (o' := 0) rfl rfl fo_136_0 rfl) fun _ => ?_
      refine TO.go rfl rfl rfl (Does.loadPts (k := 0) (v := .int .u8 v112.1.Op.toNat) rfl rfl sc_5 rfl rfl) fun _ => ?_
      refine TO.go rfl rfl rfl (Does.bin (v := .bool (v112.1.Op == (4 : UInt8))) (vy := .int .u8 (4 : UInt8).toNat) rfl rfl rfl g_int b8_eq) fun _ => ?_
      refine TO.go rfl rfl rfl (Does.move rfl rfl) fun _ => ?_
      by_cases h177 : (v112.1.Op == (4 : UInt8)) = true
      · replace hm := ite_t hm h177
        refine TO.go rfl rfl rfl (Does.fieldAddr (o' := 1) (.inl ⟨_, _, rfl, rfl, by rw [h177]; rfl⟩) rfl fo_136_1 rfl) fun _ => ?_
        refine TO.go rfl rfl rfl (Does.loadPts (k := 0) (v := .string ⟨v112.1.Results.toArray⟩) (.inl ⟨_, _, rfl, rfl, by rw [h177]; rfl⟩) rfl sc_9 rfl rfl) fun _ => ?_
        refine TO.go rfl rfl rfl (Does.bin (v := .bool (v112.1.Results != ([] : List UInt8))) (vy := .string ⟨([] : List UInt8).toArray⟩) (.inl ⟨_, _, rfl, rfl, by rw [h177]; rfl⟩) rfl rfl g_str s_ne) fun _ => ?_
        refine TO.go rfl rfl rfl (Does.pickT rfl rfl h177 rfl) fun _ => ?_
        refine TO.go rfl rfl rfl (Does.assign rfl rfl) fun _ => ?_
        refine TO.end rfl ?_
        exact TQ.then (T.sub (h135 (v112.1.Results != ([] : List UInt8)) hm) (Sub.cons rfl (Sub.cons rfl (Sub.cons rfl (Sub.nil _)))) (fun w h => (((((((((((((((h).ent (Ent.copy 5 rfl)).ent (Ent.copy 5 rfl)).ent (Ent.copy 5 rfl)).ent (Ent.take 6 rfl)).ent (Ent.drop _ _)).ent (Ent.take 6 rfl)).ent (Ent.drop _ _)).ent (Ent.take 6 rfl)).ent (Ent.drop _ _)).ent (Ent.take 3 rfl)).ent (Ent.take 5 rfl)).ent (Ent.take 5 rfl)).ent (Ent.take 3 rfl)).ent (Ent.take 4 rfl)).ent (Ent.take 5 rfl)))
      · replace h177 := bool_f h177
        replace hm := ite_f hm h177
        refine TO.go rfl rfl rfl (Does.not (.inl ⟨_, _, rfl, rfl, by rw [h177]; rfl⟩)) fun _ => ?_
        refine TO.go rfl rfl rfl (Does.not (.inl ⟨_, _, rfl, rfl, by rw [h177]; rfl⟩)) fun _ => ?_
        refine TO.go rfl rfl rfl (Does.not (.inl ⟨_, _, rfl, rfl, by rw [h177]; rfl⟩)) fun _ => ?_
        refine TO.go rfl rfl rfl (Does.pickF (v := .bool false) rfl rfl h177 rfl) fun _ => ?_
        refine TO.go rfl rfl rfl (Does.assign rfl rfl) fun _ => ?_
        refine TO.end rfl ?_
        exact TQ.then (T.sub (h135 false hm) (Sub.cons rfl (Sub.cons rfl (Sub.cons rfl (Sub.nil _)))) (fun w h => (((((((((((((((h).ent (Ent.copy 5 rfl)).ent (Ent.copy 5 rfl)).ent (Ent.copy 5 rfl)).ent (Ent.take 6 rfl)).ent (Ent.drop _ _)).ent (Ent.take 6 rfl)).ent (Ent.drop _ _)).ent (Ent.take 6 rfl)).ent (Ent.drop _ _)).ent (Ent.take 3 rfl)).ent (Ent.take 5 rfl)).ent (Ent.take 5 rfl)).ent (Ent.take 3 rfl)).ent (Ent.take 4 rfl)).ent (Ent.take 5 rfl)))

/-- (*creel/ctrl.Control).Label -/
def f94.f (v0 : ctrl_Control) (v1 : Int) : Option ((List UInt8) × Int) :=
  (if (decide ((IntKind.u64.wrap (v0.frames.length : Int)) ≤ v1)) = true then some (([] : List UInt8), 22) else ((at? v0.frames (IntKind.i64.wrap ((IntKind.i64.wrap ((v0.frames.length : Int) - 1)) - (IntKind.i64.wrap v1)))).bind fun v157 => (if (v157.Op == (3 : UInt8)) = true then some (([] : List UInt8), 0) else some (v157.Results, 0))))
set_option maxRecDepth 20000 in
set_option maxHeartbeats 1000000 in
theorem f94.ok {W w : World} {R : List Assn} (v0 : ctrl_Control) (b0 : Nat) (v1 : Int) {r : (List UInt8) × Int} (hm : f94.f v0 v1 = some r) (hs : St W w (ptr ctrl_Control.rep b0 v0 :: R)) :
    Calls Try.prog 94 #[.pointer (some ⟨b0, 0, none⟩), .int .u64 v1] w (fun e w' => ∃ x : Unit, e = .returned (.tuple #[.string ⟨r.1.toArray⟩, .int .i64 r.2]) ∧ St W w' (ptr ctrl_Control.rep b0 v0 :: R)) := by
  unfold f94.f at hm
  refine calls_sym (vs := [.pointer (some ⟨b0, 0, none⟩), .int .u64 v1]) Try.func94 rfl rfl hs ?_
  refine T.seq rfl ?_
  refine T.region rfl ?_
  refine TO.go rfl rfl rfl (Does.assign (v := .string ⟨([] : List UInt8).toArray⟩) rfl rfl) fun _ => ?_
  refine TO.go rfl rfl rfl (Does.assign (v := .int .i64 0) rfl rfl) fun _ => ?_
  refine TO.end rfl ?_
  refine TQ.then ?_
  refine T.seq rfl ?_
  refine T.seq rfl ?_
  refine T.region rfl ?_
  refine TO.go rfl rfl rfl (Does.move rfl rfl) fun _ => ?_
  refine TO.go rfl rfl rfl (Does.move rfl rfl) fun _ => ?_
  refine TO.go rfl rfl rfl (Does.nilCheck rfl rfl) fun _ => ?_
  refine TO.go rfl rfl rfl (Does.fieldAddr (o' := 0) rfl rfl fo_113_0 rfl) fun _ => ?_
  refine TO.st (X := List Value) (p := fun _ => True) (fun w h => let ⟨cs, h⟩ := open_ptr (h); ⟨cs, trivial, h⟩) ?_
  intro cs113 _
  refine TO.st (fun w h => ctrl_Control.open h) ?_
  rintro ⟨a108, n109, b111⟩ rfl
  refine TO.go rfl rfl rfl (Does.loadPts (k := 2) (v := .slice a108 v0.frames.length n109) rfl rfl sc_111 rfl rfl) fun _ => ?_
  refine TO.go rfl rfl rfl (Does.lenSl rfl rfl sl_111) fun _ => ?_
  refine TO.go rfl rfl rfl (Does.conv (v := .int .u64 (IntKind.u64.wrap (v0.frames.length : Int))) rfl rfl (c_int un_3 ii_38)) fun _ => ?_
  refine TO.go rfl rfl rfl (Does.bin (v := .bool (decide ((IntKind.u64.wrap (v0.frames.length : Int)) ≤ v1))) rfl rfl rfl g_int b_ge) fun _ => ?_
  refine TO.end rfl ?_
  refine TQ.then ?_
  refine T.cond rfl (b := (decide ((IntKind.u64.wrap (v0.frames.length : Int)) ≤ v1))) rfl (fun h114 => ?_) (fun h114 => ?_)
  · replace hm := ite_t hm h114
    refine T.seq rfl ?_
    refine T.region rfl ?_
    refine TO.go rfl rfl rfl (Does.assign (v := .string ⟨([] : List UInt8).toArray⟩) rfl rfl) fun _ => ?_
    refine TO.go rfl rfl rfl (Does.assign (v := .int .i64 22) rfl rfl) fun _ => ?_
    refine TO.end rfl ?_
    refine TQ.then ?_
    refine T.ret rfl ?_
    refine TQ.passThenRet ?_
    refine TQ.result (.inl rfl) rfl (Res.tmp rfl (Res.tmp rfl Res.nil)) rfl (fun w h => ?_)
    cases hm
    exact ⟨(), rfl, shut_ptr (ctrl_Control.shut (x := v0) (a108, n109, b111) ((((h).ent (Ent.take 2 rfl)).ent (Ent.take 2 rfl)).ent (Ent.take 2 rfl)))⟩
  · replace hm := ite_f hm h114
    refine T.skip rfl ?_
    refine TQ.then ?_
    refine T.seq rfl ?_
    refine T.draw [0, 1, 2, 3, 4, 5, 6, 7, 8, 9, 10, 11, 12, 13, 14] rfl mixed ?_
    refine RA.quiet (i := 0) (v := .pointer (some ⟨b0, 0, none⟩)) PendOK.nil rfl rfl rfl rfl rfl rfl (Does.move rfl rfl) fun h144 => ?_
    refine RA.quiet (i := 1) (v := .pointer (some ⟨b0, 0, none⟩)) h144 rfl rfl rfl rfl rfl rfl (Does.nilCheck rfl rfl) fun h145 => ?_
    refine RA.quiet (i := 2) (v := .pointer (some ⟨b0, 0, none⟩)) h145 rfl rfl rfl rfl rfl rfl (Does.fieldAddr (o' := 0) rfl rfl fo_113_0 rfl) fun h146 => ?_
    refine RA.quiet (i := 3) (v := .slice a108 v0.frames.length n109) h146 rfl rfl rfl rfl rfl rfl (Does.loadPts (k := 2) (v := .slice a108 v0.frames.length n109) rfl rfl sc_111 rfl rfl) fun h147 => ?_
    refine RA.quiet (i := 4) (v := .pointer (some ⟨b0, 0, none⟩)) h147 rfl rfl rfl rfl rfl rfl (Does.move rfl rfl) fun h148 => ?_
    refine RA.quiet (i := 5) (v := .pointer (some ⟨b0, 0, none⟩)) h148 rfl rfl rfl rfl rfl rfl (Does.nilCheck rfl rfl) fun h149 => ?_
    refine RA.quiet (i := 6) (v := .pointer (some ⟨b0, 0, none⟩)) h149 rfl rfl rfl rfl rfl rfl (Does.fieldAddr (o' := 0) rfl rfl fo_113_0 rfl) fun h150 => ?_
    refine RA.quiet (i := 7) (v := .slice a108 v0.frames.length n109) h150 rfl rfl rfl rfl rfl rfl (Does.loadPts (k := 2) (v := .slice a108 v0.frames.length n109) rfl rfl sc_111 rfl rfl) fun h151 => ?_
    refine RA.quiet (i := 8) (v := .int .i64 (v0.frames.length : Int)) h151 rfl rfl rfl rfl rfl rfl (Does.lenSl rfl rfl sl_111) fun h152 => ?_
    refine RA.quiet (i := 9) (v := .int .i64 (IntKind.i64.wrap ((v0.frames.length : Int) - 1))) h152 rfl rfl rfl rfl rfl rfl (Does.bin (v := .int .i64 (IntKind.i64.wrap ((v0.frames.length : Int) - 1))) (vy := .int .i64 1) rfl rfl rfl g_int b_sub) fun h153 => ?_
    refine RA.quiet (i := 10) (v := .int .u64 v1) h153 rfl rfl rfl rfl rfl rfl (Does.move rfl rfl) fun h154 => ?_
    refine RA.quiet (i := 11) (v := .int .i64 (IntKind.i64.wrap v1)) h154 rfl rfl rfl rfl rfl rfl (Does.conv (v := .int .i64 (IntKind.i64.wrap v1)) rfl rfl (c_int un_38 ii_3)) fun h155 => ?_
    refine RA.quiet (i := 12) (v := .int .i64 (IntKind.i64.wrap ((IntKind.i64.wrap ((v0.frames.length : Int) - 1)) - (IntKind.i64.wrap v1)))) h155 rfl rfl rfl rfl rfl rfl (Does.bin (v := .int .i64 (IntKind.i64.wrap ((IntKind.i64.wrap ((v0.frames.length : Int) - 1)) - (IntKind.i64.wrap v1)))) rfl rfl rfl g_int b_sub) fun h156 => ?_
    obtain ⟨v157, h158, hm⟩ := bind_o hm
    refine RA.quiet (i := 13) (v := .pointer (some (adA a108 ((((IntKind.i64.wrap ((IntKind.i64.wrap ((v0.frames.length : Int) - 1)) - (IntKind.i64.wrap v1)))).toNat) * ctrl_Frame.rep.n) 0))) h156 rfl rfl rfl rfl rfl rfl (Does.indexSl (r := ctrl_Frame.rep) (k := 1) rfl rfl rfl sl_111 rfl Arrd.own h158) fun h159 => ?_
    refine RA.quiet (i := 14) (v := .agg #[.int .u8 v157.Op.toNat, .string ⟨v157.Results.toArray⟩, .int .i64 v157.Height, .bool v157.Dead]) h159 rfl rfl rfl rfl rfl rfl (Does.loadFlatN (r := ctrl_Frame.rep) (k := 1) (f := 0) (vs := [.int .u8 v157.Op.toNat, .string ⟨v157.Results.toArray⟩, .int .i64 v157.Height, .bool v157.Dead]) rfl rfl ag_136 rfl Arrd.own (at?_out h158).2.2 rfl rfl) fun h160 => ?_
    refine RA.eff (k := 15) (pend' := [(14, .agg #[.int .u8 v157.Op.toNat, .string ⟨v157.Results.toArray⟩, .int .i64 v157.Height, .bool v157.Dead]), (13, .pointer (some (adA a108 ((((IntKind.i64.wrap ((IntKind.i64.wrap ((v0.frames.length : Int) - 1)) - (IntKind.i64.wrap v1)))).toNat) * ctrl_Frame.rep.n) 0))), (12, .int .i64 (IntKind.i64.wrap ((IntKind.i64.wrap ((v0.frames.length : Int) - 1)) - (IntKind.i64.wrap v1)))), (11, .int .i64 (IntKind.i64.wrap v1)), (10, .int .u64 v1), (9, .int .i64 (IntKind.i64.wrap ((v0.frames.length : Int) - 1))), (8, .int .i64 (v0.frames.length : Int)), (7, .slice a108 v0.frames.length n109), (6, .pointer (some ⟨b0, 0, none⟩)), (5, .pointer (some ⟨b0, 0, none⟩)), (4, .pointer (some ⟨b0, 0, none⟩)), (3, .slice a108 v0.frames.length n109), (2, .pointer (some ⟨b0, 0, none⟩)), (1, .pointer (some ⟨b0, 0, none⟩)), (0, .pointer (some ⟨b0, 0, none⟩))]) (by kernel_rfl) h160 rfl (.inl ⟨_, rfl, rfl, fun _ => rfl⟩) rfl (by kernel_rfl) (Does.alloc rfl zn_136) rfl (fun b161 => (List.forall_mem_cons.2 ⟨⟨_, rfl, Does.loadFlatN (r := ctrl_Frame.rep) (k := 2) (f := 0) (vs := [.int .u8 v157.Op.toNat, .string ⟨v157.Results.toArray⟩, .int .i64 v157.Height, .bool v157.Dead]) rfl rfl ag_136 rfl Arrd.own (at?_out h158).2.2 rfl rfl⟩, (List.forall_mem_cons.2 ⟨⟨_, rfl, Does.indexSl (r := ctrl_Frame.rep) (k := 2) rfl rfl rfl sl_111 rfl Arrd.own h158⟩, (List.forall_mem_cons.2 ⟨⟨_, rfl, Does.bin (v := .int .i64 (IntKind.i64.wrap ((IntKind.i64.wrap ((v0.frames.length : Int) - 1)) - (IntKind.i64.wrap v1)))) rfl rfl rfl g_int b_sub⟩, (List.forall_mem_cons.2 ⟨⟨_, rfl, Does.conv (v := .int .i64 (IntKind.i64.wrap v1)) rfl rfl (c_int un_38 ii_3)⟩, (List.forall_mem_cons.2 ⟨⟨_, rfl, Does.move rfl rfl⟩, (List.forall_mem_cons.2 ⟨⟨_, rfl, Does.bin (v := .int .i64 (IntKind.i64.wrap ((v0.frames.length : Int) - 1))) (vy := .int .i64 1) rfl rfl rfl g_int b_sub⟩, (List.forall_mem_cons.2 ⟨⟨_, rfl, Does.lenSl rfl rfl sl_111⟩, (List.forall_mem_cons.2 ⟨⟨_, rfl, Does.loadPts (k := 3) (v := .slice a108 v0.frames.length n109) rfl rfl sc_111 rfl rfl⟩, (List.forall_mem_cons.2 ⟨⟨_, rfl, Does.fieldAddr (o' := 0) rfl rfl fo_113_0 rfl⟩, (List.forall_mem_cons.2 ⟨⟨_, rfl, Does.nilCheck rfl rfl⟩, (List.forall_mem_cons.2 ⟨⟨_, rfl, Does.move rfl rfl⟩, (List.forall_mem_cons.2 ⟨⟨_, rfl, Does.loadPts (k := 3) (v := .slice a108 v0.frames.length n109) rfl rfl sc_111 rfl rfl⟩, (List.forall_mem_cons.2 ⟨⟨_, rfl, Does.fieldAddr (o' := 0) rfl rfl fo_113_0 rfl⟩, (List.forall_mem_cons.2 ⟨⟨_, rfl, Does.nilCheck rfl rfl⟩, (List.forall_mem_cons.2 ⟨⟨_, rfl, Does.move rfl rfl⟩, (fun _ h => by cases h)⟩)⟩)⟩)⟩)⟩)⟩)⟩)⟩)⟩)⟩)⟩)⟩)⟩)⟩)⟩)) (fun b161 h162 => ?_)
    refine RA.eff (k := 16) (pend' := []) (by kernel_rfl) h162 rfl (.inr ⟨rfl, fun _ => rfl⟩) rfl (by kernel_rfl) (Does.storePts (k := 0) (vs := [.int .u8 v157.Op.toNat, .string ⟨v157.Results.toArray⟩, .int .i64 v157.Height, .bool v157.Dead]) (cs' := [.int .u8 v157.Op.toNat, .string ⟨v157.Results.toArray⟩, .int .i64 v157.Height, .bool v157.Dead]) rfl rfl rfl rfl rfl cn_136 rfl rfl rfl rfl) rfl (fun _ => (fun _ h => by cases h)) (fun _ h164 => ?_)
    refine RA.done (by kernel_rfl) h164 rfl ?_
    refine TQ.then ?_
    refine T.seq rfl ?_
    refine T.seq rfl ?_
    refine T.region rfl ?_
    refine TO.go rfl rfl rfl (Does.fieldAddr (o' := 0) rfl rfl fo_136_0 rfl) fun _ => ?_
    refine TO.go rfl rfl rfl (Does.loadPts (k := 0) (v := .int .u8 v157.Op.toNat) rfl rfl sc_5 rfl rfl) fun _ => ?_
    refine TO.go rfl rfl rfl (Does.bin (v := .bool (v157.Op == (3 : UInt8))) (vy := .int .u8 (3 : UInt8).toNat) rfl rfl rfl g_int b8_eq) fun _ => ?_
    refine TO.end rfl ?_
    refine TQ.then ?_
    refine T.cond rfl (b := (v157.Op == (3 : UInt8))) rfl (fun h166 => ?_) (fun h166 => ?_)
    · replace hm := ite_t hm h166
      refine T.seq rfl ?_
      refine T.region rfl ?_
      refine TO.go rfl rfl rfl (Does.assign (v := .string ⟨([] : List UInt8).toArray⟩) rfl rfl) fun _ => ?_
      refine TO.go rfl rfl rfl (Does.assign (v := .int .i64 0) rfl rfl) fun _ => ?_
      refine TO.end rfl ?_
      refine TQ.then ?_
      refine T.ret rfl ?_
      refine TQ.passThenRet ?_
      refine TQ.result (.inl rfl) rfl (Res.tmp rfl (Res.tmp rfl Res.nil)) rfl (fun w h => ?_)
      cases hm
      exact ⟨(), rfl, ((shut_ptr (ctrl_Control.shut (x := v0) (a108, n109, b111) ((((h).ent (Ent.take 3 rfl)).ent (Ent.take 3 rfl)).ent (Ent.take 3 rfl)))).ent (Ent.take 1 rfl)).ent (Ent.drop _ _)⟩
    · replace hm := ite_f hm h166
      refine T.skip rfl ?_
      refine TQ.then ?_
      refine T.seq rfl ?_
      refine T.region rfl ?_
      refine TO.go rfl rfl rfl (Does.fieldAddr (o' := 1) rfl rfl fo_136_1 rfl) fun _ => ?_
      refine TO.go rfl rfl rfl (Does.loadPts (k := 0) (v := .string ⟨v157.Results.toArray⟩) rfl rfl sc_9 rfl rfl) fun _ => ?_
      refine TO.go rfl rfl rfl (Does.assign rfl rfl) fun _ => ?_
      refine TO.go rfl rfl rfl (Does.assign (v := .int .i64 0) rfl rfl) fun _ => ?_
      refine TO.end rfl ?_
      refine TQ.then ?_
      refine T.ret rfl ?_
      refine TQ.result (.inl rfl) rfl (Res.tmp rfl (Res.tmp rfl Res.nil)) rfl (fun w h => ?_)
      cases hm
      exact ⟨(), rfl, ((shut_ptr (ctrl_Control.shut (x := v0) (a108, n109, b111) ((((h).ent (Ent.take 3 rfl)).ent (Ent.take 3 rfl)).ent (Ent.take 3 rfl)))).ent (Ent.take 1 rfl)).ent (Ent.drop _ _)⟩

end Go.Proofs.Ytfonekhhbmlkbaa
