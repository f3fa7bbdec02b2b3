/- Mirrors of functions, and that the Go functions compute them. Printed by gofun.py. -/
import Derived.Test.YtfonekhhbmlkbaaG10
set_option linter.unusedVariables false
set_option linter.unusedSimpArgs false
namespace Go.Proofs.Ytfonekhhbmlkbaa
open Go Go.Sym
def f83.j2 (v0 : UInt8) (v117 : UInt8) (v145 : Int) : Option (ops_Access × Bool) :=
  (if (v0 == (44 : UInt8)) = true then some (({ Bytes := v145, T := v117, Writes := (decide ((54 : UInt8) ≤ v0)), Signed := true } : ops_Access), true) else (if (v0 == (46 : UInt8)) = true then some (({ Bytes := v145, T := v117, Writes := (decide ((54 : UInt8) ≤ v0)), Signed := true } : ops_Access), true) else (if (v0 == (48 : UInt8)) = true then some (({ Bytes := v145, T := v117, Writes := (decide ((54 : UInt8) ≤ v0)), Signed := true } : ops_Access), true) else (if (v0 == (50 : UInt8)) = true then some (({ Bytes := v145, T := v117, Writes := (decide ((54 : UInt8) ≤ v0)), Signed := true } : ops_Access), true) else some (({ Bytes := v145, T := v117, Writes := (decide ((54 : UInt8) ≤ v0)), Signed := (v0 == (52 : UInt8)) } : ops_Access), true)))))
def f83.j5 (v0 : UInt8) (v117 : UInt8) (v116 : Int) (v179 : Bool) : Option (ops_Access × Bool) :=
  (if v179 = true then f83.j2 v0 v117 4 else f83.j2 v0 v117 v116)
def f83.j4 (v0 : UInt8) (v117 : UInt8) (v116 : Int) (v172 : Bool) : Option (ops_Access × Bool) :=
  (if v172 = true then f83.j2 v0 v117 2 else (if (v0 == (52 : UInt8)) = true then f83.j5 v0 v117 v116 (v0 == (52 : UInt8)) else (if (v0 == (53 : UInt8)) = true then f83.j5 v0 v117 v116 (v0 == (53 : UInt8)) else f83.j5 v0 v117 v116 (v0 == (62 : UInt8)))))
def f83.j3 (v0 : UInt8) (v117 : UInt8) (v116 : Int) (v162 : Bool) : Option (ops_Access × Bool) :=
  (if v162 = true then f83.j2 v0 v117 1 else (if (v0 == (46 : UInt8)) = true then f83.j4 v0 v117 v116 (v0 == (46 : UInt8)) else (if (v0 == (47 : UInt8)) = true then f83.j4 v0 v117 v116 (v0 == (47 : UInt8)) else (if (v0 == (50 : UInt8)) = true then f83.j4 v0 v117 v116 (v0 == (50 : UInt8)) else (if (v0 == (51 : UInt8)) = true then f83.j4 v0 v117 v116 (v0 == (51 : UInt8)) else (if (v0 == (59 : UInt8)) = true then f83.j4 v0 v117 v116 (v0 == (59 : UInt8)) else f83.j4 v0 v117 v116 (v0 == (61 : UInt8))))))))
def f83.j1 (v0 : UInt8) (v116 : Int) (v117 : UInt8) : Option (ops_Access × Bool) :=
  (if (v0 == (44 : UInt8)) = true then f83.j3 v0 v117 v116 (v0 == (44 : UInt8)) else (if (v0 == (45 : UInt8)) = true then f83.j3 v0 v117 v116 (v0 == (45 : UInt8)) else (if (v0 == (48 : UInt8)) = true then f83.j3 v0 v117 v116 (v0 == (48 : UInt8)) else (if (v0 == (49 : UInt8)) = true then f83.j3 v0 v117 v116 (v0 == (49 : UInt8)) else (if (v0 == (58 : UInt8)) = true then f83.j3 v0 v117 v116 (v0 == (58 : UInt8)) else f83.j3 v0 v117 v116 (v0 == (60 : UInt8)))))))
/-- creel/ops.AccessOf -/
def f83.f (v0 : UInt8) : Option (ops_Access × Bool) :=
  ((f71.f v0).bind fun v103 => (if (v103.Imm != 8) = true then some (({ Bytes := 0, T := (0 : UInt8), Writes := false, Signed := false } : ops_Access), false) else ((at? v103.Name 1).bind fun v194 => (if (v194 == (51 : UInt8)) = true then f83.j1 v0 4 (127 : UInt8) else f83.j1 v0 8 (126 : UInt8)))))
set_option maxRecDepth 20000 in
set_option maxHeartbeats 1000000 in
theorem f83.ok {W w : World} {R : List Assn} (v0 : UInt8) {r : ops_Access × Bool} (hm : f83.f v0 = some r) (hs : St W w (R)) :
    Calls Try.prog 83 #[.int .u8 v0.toNat] w (fun e w' => ∃ x : Unit, e = .returned (.tuple #[.agg #[.int .i64 r.1.Bytes, .int .u8 r.1.T.toNat, .bool r.1.Writes, .bool r.1.Signed], .bool r.2]) ∧ St W w' (R)) := by
  unfold f83.f at hm
  refine calls_sym (vs := [.int .u8 v0.toNat]) Try.func83 rfl rfl hs ?_
  refine T.seq rfl ?_
  refine T.region rfl ?_
  refine TO.go rfl rfl rfl (Does.alloc rfl zn_148) fun b101 => ?_
  refine TO.ent (L' := pts b101 [.int .i64 0, .int .u8 (0 : UInt8).toNat, .bool false, .bool false] :: R) (fun w h => h) ?_
  refine TO.go rfl rfl rfl (Does.assign (v := .bool false) rfl rfl) fun _ => ?_
  refine TO.end rfl ?_
  refine TQ.then ?_
  refine T.seq rfl ?_
  refine T.region rfl ?_
  refine TO.go rfl rfl rfl (Does.move rfl rfl) fun _ => ?_
  obtain ⟨v103, h104, hm⟩ := bind_o hm
  refine TO.go rfl rfl rfl (Does.call (vs := [.int .u8 v0.toNat]) rfl co_71 rfl (fun w h => f71.ok v0 h104 (h))) fun _ => ?_
  refine TO.go rfl rfl rfl (Does.alloc rfl zn_117) fun b105 => ?_
  refine TO.ent (L' := pts b105 [.string ⟨([] : List UInt8).toArray⟩, .int .i64 0, .string ⟨([] : List UInt8).toArray⟩, .string ⟨([] : List UInt8).toArray⟩, .bool false] :: pts b101 [.int .i64 0, .int .u8 (0 : UInt8).toNat, .bool false, .bool false] :: R) (fun w h => h) ?_
  refine TO.go0 rfl rfl (Does.storePts (k := 0) (vs := [.string ⟨v103.Name.toArray⟩, .int .i64 v103.Imm, .string ⟨v103.Params.toArray⟩, .string ⟨v103.Result.toArray⟩, .bool v103.Free]) (cs' := [.string ⟨v103.Name.toArray⟩, .int .i64 v103.Imm, .string ⟨v103.Params.toArray⟩, .string ⟨v103.Result.toArray⟩, .bool v103.Free]) rfl rfl rfl rfl rfl cn_117 rfl rfl rfl rfl) fun _ => ?_
  refine TO.ent (L' := pts b105 [.string ⟨v103.Name.toArray⟩, .int .i64 v103.Imm, .string ⟨v103.Params.toArray⟩, .string ⟨v103.Result.toArray⟩, .bool v103.Free] :: pts b101 [.int .i64 0, .int .u8 (0 : UInt8).toNat, .bool false, .bool false] :: R) (fun w h => h) ?_
  refine TO.end rfl ?_
  refine TQ.then ?_
  refine T.seq rfl ?_
  refine T.seq rfl ?_
  refine T.region rfl ?_
  refine TO.go rfl rfl rfl (Does.fieldAddr (o' := 1) rfl rfl fo_117_1 rfl) fun _ => ?_
  refine TO.go rfl rfl rfl (Does.loadPts (k := 0) (v := .int .i64 v103.Imm) rfl rfl sc_115 rfl rfl) fun _ => ?_
  refine TO.go rfl rfl rfl (Does.bin (v := .bool (v103.Imm != 8)) (vy := .int .i64 8) rfl rfl rfl g_int b_ne) fun _ => ?_
  refine TO.end rfl ?_
  refine TQ.then ?_
  refine T.cond rfl (b := (v103.Imm != 8)) rfl (fun h108 => ?_) (fun h108 => ?_)
  · replace hm := ite_t hm h108
    refine T.seq rfl ?_
    refine T.region rfl ?_
    refine TO.go rfl rfl rfl (Does.build (v := .agg #[.int .i64 0, .int .u8 (0 : UInt8).toNat, .bool false, .bool false]) (vs := []) rfl rfl (fun w => by kernel_rfl)) fun _ => ?_
    refine TO.go0 rfl rfl (Does.storePts (k := 1) (vs := [.int .i64 0, .int .u8 (0 : UInt8).toNat, .bool false, .bool false]) (cs' := [.int .i64 0, .int .u8 (0 : UInt8).toNat, .bool false, .bool false]) rfl rfl rfl rfl rfl cn_148 rfl rfl rfl rfl) fun _ => ?_
    refine TO.ent (L' := pts b105 [.string ⟨v103.Name.toArray⟩, .int .i64 v103.Imm, .string ⟨v103.Params.toArray⟩, .string ⟨v103.Result.toArray⟩, .bool v103.Free] :: pts b101 [.int .i64 0, .int .u8 (0 : UInt8).toNat, .bool false, .bool false] :: R) (fun w h => h) ?_
    refine TO.go rfl rfl rfl (Does.assign (v := .bool false) rfl rfl) fun _ => ?_
    refine TO.end rfl ?_
    refine TQ.then ?_
    refine T.ret rfl ?_
    refine TQ.passThenRet ?_
    refine TQ.result (.inl rfl) rfl (Res.cellN (k := 1) rfl rfl ag_148 (Res.tmp rfl Res.nil)) rfl (fun w h => ?_)
    cases hm
    exact ⟨(), rfl, ((h).ent (Ent.drop _ _)).ent (Ent.drop _ _)⟩
  · replace hm := ite_f hm h108
    refine T.skip rfl ?_
    refine TQ.then ?_
    refine T.seq rfl ?_
    refine T.region rfl ?_
    refine TO.go rfl rfl rfl (Does.move rfl rfl) fun _ => ?_
    refine TO.go rfl rfl rfl (Does.bin (v := .bool (decide ((54 : UInt8) ≤ v0))) (vy := .int .u8 (54 : UInt8).toNat) rfl rfl rfl g_int b8_ge) fun _ => ?_
    refine TO.go rfl rfl rfl (Does.build (v := .agg #[.int .i64 8, .int .u8 (126 : UInt8).toNat, .bool (decide ((54 : UInt8) ≤ v0)), .bool false]) (vs := [(1, .int .u8 (126 : UInt8).toNat), (2, .bool (decide ((54 : UInt8) ≤ v0))), (0, .int .i64 8)]) rfl rfl (fun w => by kernel_rfl)) fun _ => ?_
    refine TO.go rfl rfl rfl (Does.alloc rfl zn_148) fun b109 => ?_
    refine TO.ent (L' := pts b109 [.int .i64 0, .int .u8 (0 : UInt8).toNat, .bool false, .bool false] :: pts b105 [.string ⟨v103.Name.toArray⟩, .int .i64 v103.Imm, .string ⟨v103.Params.toArray⟩, .string ⟨v103.Result.toArray⟩, .bool v103.Free] :: pts b101 [.int .i64 0, .int .u8 (0 : UInt8).toNat, .bool false, .bool false] :: R) (fun w h => h) ?_
    refine TO.go0 rfl rfl (Does.storePts (k := 0) (vs := [.int .i64 8, .int .u8 (126 : UInt8).toNat, .bool (decide ((54 : UInt8) ≤ v0)), .bool false]) (cs' := [.int .i64 8, .int .u8 (126 : UInt8).toNat, .bool (decide ((54 : UInt8) ≤ v0)), .bool false]) rfl rfl rfl rfl rfl cn_148 rfl rfl rfl rfl) fun _ => ?_
    refine TO.ent (L' := pts b109 [.int .i64 8, .int .u8 (126 : UInt8).toNat, .bool (decide ((54 : UInt8) ≤ v0)), .bool false] :: pts b105 [.string ⟨v103.Name.toArray⟩, .int .i64 v103.Imm, .string ⟨v103.Params.toArray⟩, .string ⟨v103.Result.toArray⟩, .bool v103.Free] :: pts b101 [.int .i64 0, .int .u8 (0 : UInt8).toNat, .bool false, .bool false] :: R) (fun w h => h) ?_
    refine TO.end rfl ?_
    refine TQ.then ?_
    refine T.seqJ (X := Int × UInt8) rfl (fun x => [(5, .pointer (some ⟨b109, 0, none⟩)), (2, .pointer (some ⟨b101, 0, none⟩)), (0, .int .u8 v0.toNat)]) (fun x => pts b101 [.int .i64 0, .int .u8 (0 : UInt8).toNat, .bool false, .bool false] :: pts b109 [.int .i64 x.1, .int .u8 x.2.toNat, .bool (decide ((54 : UInt8) ≤ v0)), .bool false] :: R) (fun x => f83.j1 v0 x.1 x.2 = some r) ?_ ?_
    · rintro ⟨v116, v117⟩ hm
      try dsimp only
      unfold f83.j1 at hm
      refine T.seqJ (X := Int) rfl (fun x => [(5, .pointer (some ⟨b109, 0, none⟩)), (2, .pointer (some ⟨b101, 0, none⟩)), (0, .int .u8 v0.toNat)]) (fun x => pts b101 [.int .i64 0, .int .u8 (0 : UInt8).toNat, .bool false, .bool false] :: pts b109 [.int .i64 x, .int .u8 v117.toNat, .bool (decide ((54 : UInt8) ≤ v0)), .bool false] :: R) (fun x => f83.j2 v0 v117 x = some r) ?_ ?_
      · rintro v145 hm
        try dsimp only
        unfold f83.j2 at hm
        refine T.seq rfl ?_
        refine T.region rfl ?_
        refine TO.go rfl rfl rfl (Does.move rfl rfl) fun _ => ?_
        refine TO.go rfl rfl rfl (Does.bin (v := .bool (v0 == (44 : UInt8))) (vy := .int .u8 (44 : UInt8).toNat) rfl rfl rfl g_int b8_eq) fun _ => ?_
        refine TO.go rfl rfl rfl (Does.move rfl rfl) fun _ => ?_
        by_cases h151 : (v0 == (44 : UInt8)) = true
        · replace hm := ite_t hm h151
          refine TO.go rfl rfl rfl (Does.not (.inl ⟨_, _, rfl, rfl, by rw [h151]; rfl⟩)) fun _ => ?_
          refine TO.go rfl rfl rfl (Does.not (.inl ⟨_, _, rfl, rfl, by rw [h151]; rfl⟩)) fun _ => ?_
          refine TO.go rfl rfl rfl (Does.pickT (v := .bool true) rfl rfl h151 rfl) fun _ => ?_
          refine TO.go rfl rfl rfl (Does.move rfl rfl) fun _ => ?_
          refine TO.go rfl rfl rfl (Does.not (.inl ⟨_, _, rfl, rfl, rfl⟩)) fun _ => ?_
          refine TO.go rfl rfl rfl (Does.not (.inl ⟨_, _, rfl, rfl, rfl⟩)) fun _ => ?_
          refine TO.go rfl rfl rfl (Does.pickT (v := .bool true) rfl rfl rfl rfl) fun _ => ?_
          refine TO.go rfl rfl rfl (Does.move rfl rfl) fun _ => ?_
          refine TO.go rfl rfl rfl (Does.not (.inl ⟨_, _, rfl, rfl, rfl⟩)) fun _ => ?_
          refine TO.go rfl rfl rfl (Does.not (.inl ⟨_, _, rfl, rfl, rfl⟩)) fun _ => ?_
          refine TO.go rfl rfl rfl (Does.pickT (v := .bool true) rfl rfl rfl rfl) fun _ => ?_
          refine TO.go rfl rfl rfl (Does.move rfl rfl) fun _ => ?_
          refine TO.go rfl rfl rfl (Does.not (.inl ⟨_, _, rfl, rfl, rfl⟩)) fun _ => ?_
          refine TO.go rfl rfl rfl (Does.not (.inl ⟨_, _, rfl, rfl, rfl⟩)) fun _ => ?_
          refine TO.go rfl rfl rfl (Does.pickT (v := .bool true) rfl rfl rfl rfl) fun _ => ?_
          refine TO.go rfl rfl rfl (Does.fieldAddr (o' := 3) rfl rfl fo_148_3 rfl) fun _ => ?_
          refine TO.go0 rfl rfl (Does.storePts (k := 1) (vs := [.bool true]) (cs' := [.int .i64 v145, .int .u8 v117.toNat, .bool (decide ((54 : UInt8) ≤ v0)), .bool true]) rfl rfl rfl rfl rfl cn_4 rfl rfl rfl rfl) fun _ => ?_
          refine TO.ent (L' := pts b101 [.int .i64 0, .int .u8 (0 : UInt8).toNat, .bool false, .bool false] :: pts b109 [.int .i64 v145, .int .u8 v117.toNat, .bool (decide ((54 : UInt8) ≤ v0)), .bool true] :: R) (fun w h => h) ?_
          refine TO.end rfl ?_
          refine TQ.then ?_
          refine T.seq rfl ?_
          refine T.region rfl ?_
          refine TO.go rfl rfl rfl (Does.loadPtsN (k := 1) (vs := [.int .i64 v145, .int .u8 v117.toNat, .bool (decide ((54 : UInt8) ≤ v0)), .bool true]) rfl rfl ag_148 rfl rfl rfl) fun _ => ?_
          refine TO.go0 rfl rfl (Does.storePts (k := 0) (vs := [.int .i64 v145, .int .u8 v117.toNat, .bool (decide ((54 : UInt8) ≤ v0)), .bool true]) (cs' := [.int .i64 v145, .int .u8 v117.toNat, .bool (decide ((54 : UInt8) ≤ v0)), .bool true]) rfl rfl rfl rfl rfl cn_148 rfl rfl rfl rfl) fun _ => ?_
          refine TO.ent (L' := pts b101 [.int .i64 v145, .int .u8 v117.toNat, .bool (decide ((54 : UInt8) ≤ v0)), .bool true] :: pts b109 [.int .i64 v145, .int .u8 v117.toNat, .bool (decide ((54 : UInt8) ≤ v0)), .bool true] :: R) (fun w h => h) ?_
          refine TO.go rfl rfl rfl (Does.assign (v := .bool true) rfl rfl) fun _ => ?_
          refine TO.end rfl ?_
          refine TQ.then ?_
          refine T.ret rfl ?_
          refine TQ.result (.inl rfl) rfl (Res.cellN (k := 0) rfl rfl ag_148 (Res.tmp rfl Res.nil)) rfl (fun w h => ?_)
          cases hm
          exact ⟨(), rfl, ((h).ent (Ent.drop _ _)).ent (Ent.drop _ _)⟩
        · replace h151 := bool_f h151
          replace hm := ite_f hm h151
          refine TO.go rfl rfl rfl (Does.move (.inl ⟨_, _, rfl, rfl, by rw [h151]; rfl⟩) rfl) fun _ => ?_
          refine TO.go rfl rfl rfl (Does.bin (v := .bool (v0 == (46 : UInt8))) (vy := .int .u8 (46 : UInt8).toNat) (.inl ⟨_, _, rfl, rfl, by rw [h151]; rfl⟩) rfl rfl g_int b8_eq) fun _ => ?_
          refine TO.go rfl rfl rfl (Does.pickF rfl rfl h151 rfl) fun _ => ?_
          refine TO.go rfl rfl rfl (Does.move rfl rfl) fun _ => ?_
          by_cases h152 : (v0 == (46 : UInt8)) = true
          · replace hm := ite_t hm h152
            refine TO.go rfl rfl rfl (Does.not (.inl ⟨_, _, rfl, rfl, by rw [h152]; rfl⟩)) fun _ => ?_
            refine TO.go rfl rfl rfl (Does.not (.inl ⟨_, _, rfl, rfl, by rw [h152]; rfl⟩)) fun _ => ?_
            refine TO.go rfl rfl rfl (Does.pickT (v := .bool true) rfl rfl h152 rfl) fun _ => ?_
            refine TO.go rfl rfl rfl (Does.move rfl rfl) fun _ => ?_
            refine TO.go rfl rfl rfl (Does.not (.inl ⟨_, _, rfl, rfl, rfl⟩)) fun _ => ?_
            refine TO.go rfl rfl rfl (Does.not (.inl ⟨_, _, rfl, rfl, rfl⟩)) fun _ => ?_
            refine TO.go rfl rfl rfl (Does.pickT (v := .bool true) rfl rfl rfl rfl) fun _ => ?_
            refine TO.go rfl rfl rfl (Does.move rfl rfl) fun _ => ?_
            refine TO.go rfl rfl rfl (Does.not (.inl ⟨_, _, rfl, rfl, rfl⟩)) fun _ => ?_
            refine TO.go rfl rfl rfl (Does.not (.inl ⟨_, _, rfl, rfl, rfl⟩)) fun _ => ?_
            refine TO.go rfl rfl rfl (Does.pickT (v := .bool true) rfl rfl rfl rfl) fun _ => ?_
            refine TO.go rfl rfl rfl (Does.fieldAddr (o' := 3) rfl rfl fo_148_3 rfl) fun _ => ?_
            refine TO.go0 rfl rfl (Does.storePts (k := 1) (vs := [.bool true]) (cs' := [.int .i64 v145, .int .u8 v117.toNat, .bool (decide ((54 : UInt8) ≤ v0)), .bool true]) rfl rfl rfl rfl rfl cn_4 rfl rfl rfl rfl) fun _ => ?_
            refine TO.ent (L' := pts b101 [.int .i64 0, .int .u8 (0 : UInt8).toNat, .bool false, .bool false] :: pts b109 [.int .i64 v145, .int .u8 v117.toNat, .bool (decide ((54 : UInt8) ≤ v0)), .bool true] :: R) (fun w h => h) ?_
            refine TO.end rfl ?_
            refine TQ.then ?_
            refine T.seq rfl ?_
            refine T.region rfl ?_
            refine TO.go rfl rfl rfl (Does.loadPtsN (k := 1) (vs := [.int .i64 v145, .int .u8 v117.toNat, .bool (decide ((54 : UInt8) ≤ v0)), .bool true]) rfl rfl ag_148 rfl rfl rfl) fun _ => ?_
            refine TO.go0 rfl rfl (Does.storePts (k := 0) (vs := [.int .i64 v145, .int .u8 v117.toNat, .bool (decide ((54 : UInt8) ≤ v0)), .bool true]) (cs' := [.int .i64 v145, .int .u8 v117.toNat, .bool (decide ((54 : UInt8) ≤ v0)), .bool true]) rfl rfl rfl rfl rfl cn_148 rfl rfl rfl rfl) fun _ => ?_
            refine TO.ent (L' := pts b101 [.int .i64 v145, .int .u8 v117.toNat, .bool (decide ((54 : UInt8) ≤ v0)), .bool true] :: pts b109 [.int .i64 v145, .int .u8 v117.toNat, .bool (decide ((54 : UInt8) ≤ v0)), .bool true] :: R) (fun w h => h) ?_
            refine TO.go rfl rfl rfl (Does.assign (v := .bool true) rfl rfl) fun _ => ?_
            refine TO.end rfl ?_
            refine TQ.then ?_
            refine T.ret rfl ?_
            refine TQ.result (.inl rfl) rfl (Res.cellN (k := 0) rfl rfl ag_148 (Res.tmp rfl Res.nil)) rfl (fun w h => ?_)
            cases hm
            exact ⟨(), rfl, ((h).ent (Ent.drop _ _)).ent (Ent.drop _ _)⟩
          · replace h152 := bool_f h152
            replace hm := ite_f hm h152
            refine TO.go rfl rfl rfl (Does.move (.inl ⟨_, _, rfl, rfl, by rw [h152]; rfl⟩) rfl) fun _ => ?_
            refine TO.go rfl rfl rfl (Does.bin (v := .bool (v0 == (48 : UInt8))) (vy := .int .u8 (48 : UInt8).toNat) (.inl ⟨_, _, rfl, rfl, by rw [h152]; rfl⟩) rfl rfl g_int b8_eq) fun _ => ?_
            refine TO.go rfl rfl rfl (Does.pickF rfl rfl h152 rfl) fun _ => ?_
            refine TO.go rfl rfl rfl (Does.move rfl rfl) fun _ => ?_
            by_cases h153 : (v0 == (48 : UInt8)) = true
            · replace hm := ite_t hm h153
              refine TO.go rfl rfl rfl (Does.not (.inl ⟨_, _, rfl, rfl, by rw [h153]; rfl⟩)) fun _ => ?_
              refine TO.go rfl rfl rfl (Does.not (.inl ⟨_, _, rfl, rfl, by rw [h153]; rfl⟩)) fun _ => ?_
              refine TO.go rfl rfl rfl (Does.pickT (v := .bool true) rfl rfl h153 rfl) fun _ => ?_
              refine TO.go rfl rfl rfl (Does.move rfl rfl) fun _ => ?_
              refine TO.go rfl rfl rfl (Does.not (.inl ⟨_, _, rfl, rfl, rfl⟩)) fun _ => ?_
              refine TO.go rfl rfl rfl (Does.not (.inl ⟨_, _, rfl, rfl, rfl⟩)) fun _ => ?_
              refine TO.go rfl rfl rfl (Does.pickT (v := .bool true) rfl rfl rfl rfl) fun _ => ?_
              refine TO.go rfl rfl rfl (Does.fieldAddr (o' := 3) rfl rfl fo_148_3 rfl) fun _ => ?_
              refine TO.go0 rfl rfl (Does.storePts (k := 1) (vs := [.bool true]) (cs' := [.int .i64 v145, .int .u8 v117.toNat, .bool (decide ((54 : UInt8) ≤ v0)), .bool true]) rfl rfl rfl rfl rfl cn_4 rfl rfl rfl rfl) fun _ => ?_
              refine TO.ent (L' := pts b101 [.int .i64 0, .int .u8 (0 : UInt8).toNat, .bool false, .bool false] :: pts b109 [.int .i64 v145, .int .u8 v117.toNat, .bool (decide ((54 : UInt8) ≤ v0)), .bool true] :: R) (fun w h => h) ?_
              refine TO.end rfl ?_
              refine TQ.then ?_
              refine T.seq rfl ?_
              refine T.region rfl ?_
              refine TO.go rfl rfl rfl (Does.loadPtsN (k := 1) (vs := [.int .i64 v145, .int .u8 v117.toNat, .bool (decide ((54 : UInt8) ≤ v0)), .bool true]) rfl rfl ag_148 rfl rfl rfl) fun _ => ?_
              refine TO.go0 rfl rfl (Does.storePts (k := 0) (vs := [.int .i64 v145, .int .u8 v117.toNat, .bool (decide ((54 : UInt8) ≤ v0)), .bool true]) (cs' := [.int .i64 v145, .int .u8 v117.toNat, .bool (decide ((54 : UInt8) ≤ v0)), .bool true]) rfl rfl rfl rfl rfl cn_148 rfl rfl rfl rfl) fun _ => ?_
              refine TO.ent (L' := pts b101 [.int .i64 v145, .int .u8 v117.toNat, .bool (decide ((54 : UInt8) ≤ v0)), .bool true] :: pts b109 [.int .i64 v145, .int .u8 v117.toNat, .bool (decide ((54 : UInt8) ≤ v0)), .bool true] :: R) (fun w h => h) ?_
              refine TO.go rfl rfl rfl (Does.assign (v := .bool true) rfl rfl) fun _ => ?_
              refine TO.end rfl ?_
              refine TQ.then ?_
              refine T.ret rfl ?_
              refine TQ.result (.inl rfl) rfl (Res.cellN (k := 0) rfl rfl ag_148 (Res.tmp rfl Res.nil)) rfl (fun w h => ?_)
              cases hm
              exact ⟨(), rfl, ((h).ent (Ent.drop _ _)).ent (Ent.drop _ _)⟩
            · replace h153 := bool_f h153
              replace hm := ite_f hm h153
              refine TO.go rfl rfl rfl (Does.move (.inl ⟨_, _, rfl, rfl, by rw [h153]; rfl⟩) rfl) fun _ => ?_
              refine TO.go rfl rfl rfl (Does.bin (v := .bool (v0 == (50 : UInt8))) (vy := .int .u8 (50 : UInt8).toNat) (.inl ⟨_, _, rfl, rfl, by rw [h153]; rfl⟩) rfl rfl g_int b8_eq) fun _ => ?_
              refine TO.go rfl rfl rfl (Does.pickF rfl rfl h153 rfl) fun _ => ?_
              refine TO.go rfl rfl rfl (Does.move rfl rfl) fun _ => ?_
              by_cases h154 : (v0 == (50 : UInt8)) = true
              · replace hm := ite_t hm h154
                refine TO.go rfl rfl rfl (Does.not (.inl ⟨_, _, rfl, rfl, by rw [h154]; rfl⟩)) fun _ => ?_
                refine TO.go rfl rfl rfl (Does.not (.inl ⟨_, _, rfl, rfl, by rw [h154]; rfl⟩)) fun _ => ?_
                refine TO.go rfl rfl rfl (Does.pickT (v := .bool true) rfl rfl h154 rfl) fun _ => ?_
                refine TO.go rfl rfl rfl (Does.fieldAddr (o' := 3) rfl rfl fo_148_3 rfl) fun _ => ?_
                refine TO.go0 rfl rfl (Does.storePts (k := 1) (vs := [.bool true]) (cs' := [.int .i64 v145, .int .u8 v117.toNat, .bool (decide ((54 : UInt8) ≤ v0)), .bool true]) rfl rfl rfl rfl rfl cn_4 rfl rfl rfl rfl) fun _ => ?_
                refine TO.ent (L' := pts b101 [.int .i64 0, .int .u8 (0 : UInt8).toNat, .bool false, .bool false] :: pts b109 [.int .i64 v145, .int .u8 v117.toNat, .bool (decide ((54 : UInt8) ≤ v0)), .bool true] :: R) (fun w h => h) ?_
                refine TO.end rfl ?_
                refine TQ.then ?_
                refine T.seq rfl ?_
                refine T.region rfl ?_
                refine TO.go rfl rfl rfl (Does.loadPtsN (k := 1) (vs := [.int .i64 v145, .int .u8 v117.toNat, .bool (decide ((54 : UInt8) ≤ v0)), .bool true]) rfl rfl ag_148 rfl rfl rfl) fun _ => ?_
                refine TO.go0 rfl rfl (Does.storePts (k := 0) (vs := [.int .i64 v145, .int .u8 v117.toNat, .bool (decide ((54 : UInt8) ≤ v0)), .bool true]) (cs' := [.int .i64 v145, .int .u8 v117.toNat, .bool (decide ((54 : UInt8) ≤ v0)), .bool true]) rfl rfl rfl rfl rfl cn_148 rfl rfl rfl rfl) fun _ => ?_
                refine TO.ent (L' := pts b101 [.int .i64 v145, .int .u8 v117.toNat, .bool (decide ((54 : UInt8) ≤ v0)), .bool true] :: pts b109 [.int .i64 v145, .int .u8 v117.toNat, .bool (decide ((54 : UInt8) ≤ v0)), .bool true] :: R) (fun w h => h) ?_
                refine TO.go rfl rfl rfl (Does.assign (v := .bool true) rfl rfl) fun _ => ?_
                refine TO.end rfl ?_
                refine TQ.then ?_
                refine T.ret rfl ?_
                refine TQ.result (.inl rfl) rfl (Res.cellN (k := 0) rfl rfl ag_148 (Res.tmp rfl Res.nil)) rfl (fun w h => ?_)
                cases hm
                exact ⟨(), rfl, ((h).ent (Ent.drop _ _)).ent (Ent.drop _ _)⟩
              · replace h154 := bool_f h154
                replace hm := ite_f hm h154
                refine TO.go rfl rfl rfl (Does.move (.inl ⟨_, _, rfl, rfl, by rw [h154]; rfl⟩) rfl) fun _ => ?_
                refine TO.go rfl rfl rfl (Does.bin (v := .bool (v0 == (52 : UInt8))) (vy := .int .u8 (52 : UInt8).toNat) (.inl ⟨_, _, rfl, rfl, by rw [h154]; rfl⟩) rfl rfl g_int b8_eq) fun _ => ?_
                refine TO.go rfl rfl rfl (Does.pickF rfl rfl h154 rfl) fun _ => ?_
                refine TO.go rfl rfl rfl (Does.fieldAddr (o' := 3) rfl rfl fo_148_3 rfl) fun _ => ?_
                refine TO.go0 rfl rfl (Does.storePts (k := 1) (vs := [.bool (v0 == (52 : UInt8))]) (cs' := [.int .i64 v145, .int .u8 v117.toNat, .bool (decide ((54 : UInt8) ≤ v0)), .bool (v0 == (52 : UInt8))]) rfl rfl rfl rfl rfl cn_4 rfl rfl rfl rfl) fun _ => ?_
                refine TO.ent (L' := pts b101 [.int .i64 0, .int .u8 (0 : UInt8).toNat, .bool false, .bool false] :: pts b109 [.int .i64 v145, .int .u8 v117.toNat, .bool (decide ((54 : UInt8) ≤ v0)), .bool (v0 == (52 : UInt8))] :: R) (fun w h => h) ?_
                refine TO.end rfl ?_
                refine TQ.then ?_
                refine T.seq rfl ?_
                refine T.region rfl ?_
                refine TO.go rfl rfl rfl (Does.loadPtsN (k := 1) (vs := [.int .i64 v145, .int .u8 v117.toNat, .bool (decide ((54 : UInt8) ≤ v0)), .bool (v0 == (52 : UInt8))]) rfl rfl ag_148 rfl rfl rfl) fun _ => ?_
                refine TO.go0 rfl rfl (Does.storePts (k := 0) (vs := [.int .i64 v145, .int .u8 v117.toNat, .bool (decide ((54 : UInt8) ≤ v0)), .bool (v0 == (52 : UInt8))]) (cs' := [.int .i64 v145, .int .u8 v117.toNat, .bool (decide ((54 : UInt8) ≤ v0)), .bool (v0 == (52 : UInt8))]) rfl rfl rfl rfl rfl cn_148 rfl rfl rfl rfl) fun _ => ?_
                refine TO.ent (L' := pts b101 [.int .i64 v145, .int .u8 v117.toNat, .bool (decide ((54 : UInt8) ≤ v0)), .bool (v0 == (52 : UInt8))] :: pts b109 [.int .i64 v145, .int .u8 v117.toNat, .bool (decide ((54 : UInt8) ≤ v0)), .bool (v0 == (52 : UInt8))] :: R) (fun w h => h) ?_
                refine TO.go rfl rfl rfl (Does.assign (v := .bool true) rfl rfl) fun _ => ?_
                refine TO.end rfl ?_
                refine TQ.then ?_
                refine T.ret rfl ?_
                refine TQ.result (.inl rfl) rfl (Res.cellN (k := 0) rfl rfl ag_148 (Res.tmp rfl Res.nil)) rfl (fun w h => ?_)
                cases hm
                exact ⟨(), rfl, ((h).ent (Ent.drop _ _)).ent (Ent.drop _ _)⟩
      · intro h146
        refine T.seq rfl ?_
        refine T.region rfl ?_
        refine TO.go rfl rfl rfl (Does.move rfl rfl) fun _ => ?_
        refine TO.end rfl ?_
        refine TQ.then ?_
        refine T.block rfl ?_
        refine T.seqJ (X := Bool) rfl (fun x => [(22, .bool x), (21, .int .u8 v0.toNat), (5, .pointer (some ⟨b109, 0, none⟩)), (2, .pointer (some ⟨b101, 0, none⟩)), (0, .int .u8 v0.toNat)]) (fun x => pts b101 [.int .i64 0, .int .u8 (0 : UInt8).toNat, .bool false, .bool false] :: pts b109 [.int .i64 v116, .int .u8 v117.toNat, .bool (decide ((54 : UInt8) ≤ v0)), .bool false] :: R) (fun x => f83.j3 v0 v117 v116 x = some r) ?_ ?_
        · rintro v162 hm
          try dsimp only
          unfold f83.j3 at hm
          refine T.cond rfl (b := v162) rfl (fun h164 => ?_) (fun h164 => ?_)
          · replace hm := ite_t hm h164
            refine T.region rfl ?_
            refine TO.go rfl rfl rfl (Does.fieldAddr (o' := 0) rfl rfl fo_148_0 rfl) fun _ => ?_
            refine TO.go0 rfl rfl (Does.storePts (k := 1) (v := .int .i64 1) (vs := [.int .i64 1]) (cs' := [.int .i64 1, .int .u8 v117.toNat, .bool (decide ((54 : UInt8) ≤ v0)), .bool false]) rfl rfl rfl rfl rfl cn_3 rfl rfl rfl rfl) fun _ => ?_
            refine TO.ent (L' := pts b101 [.int .i64 0, .int .u8 (0 : UInt8).toNat, .bool false, .bool false] :: pts b109 [.int .i64 1, .int .u8 v117.toNat, .bool (decide ((54 : UInt8) ≤ v0)), .bool false] :: R) (fun w h => h) ?_
            refine TO.end rfl ?_
            refine TQ.passBlockNormal ?_
            exact TQ.then (T.sub (h146 1 hm) (Sub.cons rfl (Sub.cons rfl (Sub.cons rfl (Sub.nil _)))) (fun w h => ((h).ent (Ent.take 1 rfl)).ent (Ent.take 1 rfl)))
          · replace hm := ite_f hm h164
            refine T.seqJ (X := Bool) rfl (fun x => [(30, .bool x), (21, .int .u8 v0.toNat), (5, .pointer (some ⟨b109, 0, none⟩)), (2, .pointer (some ⟨b101, 0, none⟩)), (0, .int .u8 v0.toNat)]) (fun x => pts b101 [.int .i64 0, .int .u8 (0 : UInt8).toNat, .bool false, .bool false] :: pts b109 [.int .i64 v116, .int .u8 v117.toNat, .bool (decide ((54 : UInt8) ≤ v0)), .bool false] :: R) (fun x => f83.j4 v0 v117 v116 x = some r) ?_ ?_
            · rintro v172 hm
              try dsimp only
              unfold f83.j4 at hm
              refine T.cond rfl (b := v172) rfl (fun h174 => ?_) (fun h174 => ?_)
              · replace hm := ite_t hm h174
                refine T.region rfl ?_
                refine TO.go rfl rfl rfl (Does.fieldAddr (o' := 0) rfl rfl fo_148_0 rfl) fun _ => ?_
                refine TO.go0 rfl rfl (Does.storePts (k := 1) (v := .int .i64 2) (vs := [.int .i64 2]) (cs' := [.int .i64 2, .int .u8 v117.toNat, .bool (decide ((54 : UInt8) ≤ v0)), .bool false]) rfl rfl rfl rfl rfl cn_3 rfl rfl rfl rfl) fun _ => ?_
                refine TO.ent (L' := pts b101 [.int .i64 0, .int .u8 (0 : UInt8).toNat, .bool false, .bool false] :: pts b109 [.int .i64 2, .int .u8 v117.toNat, .bool (decide ((54 : UInt8) ≤ v0)), .bool false] :: R) (fun w h => h) ?_
                refine TO.end rfl ?_
                refine TQ.passBlockNormal ?_
                exact TQ.then (T.sub (h146 2 hm) (Sub.cons rfl (Sub.cons rfl (Sub.cons rfl (Sub.nil _)))) (fun w h => ((h).ent (Ent.take 1 rfl)).ent (Ent.take 1 rfl)))
              · replace hm := ite_f hm h174
                refine T.seqJ (X := Bool) rfl (fun x => [(38, .bool x), (5, .pointer (some ⟨b109, 0, none⟩)), (2, .pointer (some ⟨b101, 0, none⟩)), (0, .int .u8 v0.toNat)]) (fun x => pts b101 [.int .i64 0, .int .u8 (0 : UInt8).toNat, .bool false, .bool false] :: pts b109 [.int .i64 v116, .int .u8 v117.toNat, .bool (decide ((54 : UInt8) ≤ v0)), .bool false] :: R) (fun x => f83.j5 v0 v117 v116 x = some r) ?_ ?_
                · rintro v179 hm
                  try dsimp only
                  unfold f83.j5 at hm
                  refine T.cond rfl (b := v179) rfl (fun h181 => ?_) (fun h181 => ?_)
                  · replace hm := ite_t hm h181
                    refine T.region rfl ?_
                    refine TO.go rfl rfl rfl (Does.fieldAddr (o' := 0) rfl rfl fo_148_0 rfl) fun _ => ?_
                    refine TO.go0 rfl rfl (Does.storePts (k := 1) (v := .int .i64 4) (vs := [.int .i64 4]) (cs' := [.int .i64 4, .int .u8 v117.toNat, .bool (decide ((54 : UInt8) ≤ v0)), .bool false]) rfl rfl rfl rfl rfl cn_3 rfl rfl rfl rfl) fun _ => ?_
                    refine TO.ent (L' := pts b101 [.int .i64 0, .int .u8 (0 : UInt8).toNat, .bool false, .bool false] :: pts b109 [.int .i64 4, .int .u8 v117.toNat, .bool (decide ((54 : UInt8) ≤ v0)), .bool false] :: R) (fun w h => h) ?_
                    refine TO.end rfl ?_
                    refine TQ.passBlockNormal ?_
                    exact TQ.then (T.sub (h146 4 hm) (Sub.cons rfl (Sub.cons rfl (Sub.cons rfl (Sub.nil _)))) (fun w h => ((h).ent (Ent.take 1 rfl)).ent (Ent.take 1 rfl)))
                  · replace hm := ite_f hm h181
                    refine T.skip rfl ?_
                    refine TQ.passBlockNormal ?_
                    exact TQ.then (T.sub (h146 v116 hm) (Sub.cons rfl (Sub.cons rfl (Sub.cons rfl (Sub.nil _)))) (fun w h => ((h).ent (Ent.take 1 rfl)).ent (Ent.take 1 rfl)))
                · intro h180
                  refine T.seq rfl ?_
                  refine T.region rfl ?_
                  refine TO.go rfl rfl rfl (Does.bin (v := .bool (v0 == (52 : UInt8))) (vy := .int .u8 (52 : UInt8).toNat) rfl rfl rfl g_int b8_eq) fun _ => ?_
                  refine TO.go rfl rfl rfl (Does.assign rfl rfl) fun _ => ?_
                  refine TO.end rfl ?_
                  refine TQ.then ?_
                  refine T.cond rfl (b := (v0 == (52 : UInt8))) rfl (fun h182 => ?_) (fun h182 => ?_)
                  · replace hm := ite_t hm h182
                    refine T.skip rfl ?_
                    exact TQ.then (T.sub (h180 (v0 == (52 : UInt8)) hm) (Sub.cons rfl (Sub.cons rfl (Sub.cons rfl (Sub.cons rfl (Sub.nil _))))) (fun w h => ((h).ent (Ent.take 1 rfl)).ent (Ent.take 1 rfl)))
                  · replace hm := ite_f hm h182
                    refine T.seq rfl ?_
                    refine T.region rfl ?_
                    refine TO.go rfl rfl rfl (Does.bin (v := .bool (v0 == (53 : UInt8))) (vy := .int .u8 (53 : UInt8).toNat) rfl rfl rfl g_int b8_eq) fun _ => ?_
                    refine TO.go rfl rfl rfl (Does.assign rfl rfl) fun _ => ?_
                    refine TO.end rfl ?_
                    refine TQ.then ?_
                    refine T.cond rfl (b := (v0 == (53 : UInt8))) rfl (fun h183 => ?_) (fun h183 => ?_)
                    · replace hm := ite_t hm h183
                      refine T.skip rfl ?_
                      exact TQ.then (T.sub (h180 (v0 == (53 : UInt8)) hm) (Sub.cons rfl (Sub.cons rfl (Sub.cons rfl (Sub.cons rfl (Sub.nil _))))) (fun w h => ((h).ent (Ent.take 1 rfl)).ent (Ent.take 1 rfl)))
                    · replace hm := ite_f hm h183
                      refine T.region rfl ?_
                      refine TO.go rfl rfl rfl (Does.bin (v := .bool (v0 == (62 : UInt8))) (vy := .int .u8 (62 : UInt8).toNat) rfl rfl rfl g_int b8_eq) fun _ => ?_
                      refine TO.go rfl rfl rfl (Does.assign rfl rfl) fun _ => ?_
                      refine TO.end rfl ?_
                      exact TQ.then (T.sub (h180 (v0 == (62 : UInt8)) hm) (Sub.cons rfl (Sub.cons rfl (Sub.cons rfl (Sub.cons rfl (Sub.nil _))))) (fun w h => ((h).ent (Ent.take 1 rfl)).ent (Ent.take 1 rfl)))
            · intro h173
              refine T.seq rfl ?_
              refine T.region rfl ?_
              refine TO.go rfl rfl rfl (Does.bin (v := .bool (v0 == (46 : UInt8))) (vy := .int .u8 (46 : UInt8).toNat) rfl rfl rfl g_int b8_eq) fun _ => ?_
              refine TO.go rfl rfl rfl (Does.assign rfl rfl) fun _ => ?_
              refine TO.end rfl ?_
              refine TQ.then ?_
              refine T.cond rfl (b := (v0 == (46 : UInt8))) rfl (fun h184 => ?_) (fun h184 => ?_)
              · replace hm := ite_t hm h184
                refine T.skip rfl ?_
                exact TQ.then (T.sub (h173 (v0 == (46 : UInt8)) hm) (Sub.cons rfl (Sub.cons rfl (Sub.cons rfl (Sub.cons rfl (Sub.cons rfl (Sub.nil _)))))) (fun w h => ((h).ent (Ent.take 1 rfl)).ent (Ent.take 1 rfl)))
              · replace hm := ite_f hm h184
                refine T.seq rfl ?_
                refine T.region rfl ?_
                refine TO.go rfl rfl rfl (Does.bin (v := .bool (v0 == (47 : UInt8))) (vy := .int .u8 (47 : UInt8).toNat) rfl rfl rfl g_int b8_eq) fun _ => ?_
                refine TO.go rfl rfl rfl (Does.assign rfl rfl) fun _ => ?_
                refine TO.end rfl ?_
                refine TQ.then ?_
                refine T.cond rfl (b := (v0 == (47 : UInt8))) rfl (fun h185 => ?_) (fun h185 => ?_)
                · replace hm := ite_t hm h185
                  refine T.skip rfl ?_
                  exact TQ.then (T.sub (h173 (v0 == (47 : UInt8)) hm) (Sub.cons rfl (Sub.cons rfl (Sub.cons rfl (Sub.cons rfl (Sub.cons rfl (Sub.nil _)))))) (fun w h => ((h).ent (Ent.take 1 rfl)).ent (Ent.take 1 rfl)))
                · replace hm := ite_f hm h185
                  refine T.seq rfl ?_
                  refine T.region rfl ?_
                  refine TO.go rfl rfl rfl (Does.bin (v := .bool (v0 == (50 : UInt8))) (vy := .int .u8 (50 : UInt8).toNat) rfl rfl rfl g_int b8_eq) fun _ => ?_
                  refine TO.go rfl rfl rfl (Does.assign rfl rfl) fun _ => ?_
                  refine TO.end rfl ?_
                  refine TQ.then ?_
                  refine T.cond rfl (b := (v0 == (50 : UInt8))) rfl (fun h186 => ?_) (fun h186 => ?_)
                  · replace hm := ite_t hm h186
                    refine T.skip rfl ?_
                    exact TQ.then (T.sub (h173 (v0 == (50 : UInt8)) hm) (Sub.cons rfl (Sub.cons rfl (Sub.cons rfl (Sub.cons rfl (Sub.cons rfl (Sub.nil _)))))) (fun w h => ((h).ent (Ent.take 1 rfl)).ent (Ent.take 1 rfl)))
                  · replace hm := ite_f hm h186
                    refine T.seq rfl ?_
                    refine T.region rfl ?_
                    refine TO.go rfl rfl rfl (Does.bin (v := .bool (v0 == (51 : UInt8))) (vy := .int .u8 (51 : UInt8).toNat) rfl rfl rfl g_int b8_eq) fun _ => ?_
                    refine TO.go rfl rfl rfl (Does.assign rfl rfl) fun _ => ?_
                    refine TO.end rfl ?_
                    refine TQ.then ?_
                    refine T.cond rfl (b := (v0 == (51 : UInt8))) rfl (fun h187 => ?_) (fun h187 => ?_)
                    · replace hm := ite_t hm h187
                      refine T.skip rfl ?_
                      exact TQ.then (T.sub (h173 (v0 == (51 : UInt8)) hm) (Sub.cons rfl (Sub.cons rfl (Sub.cons rfl (Sub.cons rfl (Sub.cons rfl (Sub.nil _)))))) (fun w h => ((h).ent (Ent.take 1 rfl)).ent (Ent.take 1 rfl)))
                    · replace hm := ite_f hm h187
                      refine T.seq rfl ?_
                      refine T.region rfl ?_
                      refine TO.go rfl rfl rfl (Does.bin (v := .bool (v0 == (59 : UInt8))) (vy := .int .u8 (59 : UInt8).toNat) rfl rfl rfl g_int b8_eq) fun _ => ?_
                      refine TO.go rfl rfl rfl (Does.assign rfl rfl) fun _ => ?_
                      refine TO.end rfl ?_
                      refine TQ.then ?_
                      refine T.cond rfl (b := (v0 == (59 : UInt8))) rfl (fun h188 => ?_) (fun h188 => ?_)
                      · replace hm := ite_t hm h188
                        refine T.skip rfl ?_
                        exact TQ.then (T.sub (h173 (v0 == (59 : UInt8)) hm) (Sub.cons rfl (Sub.cons rfl (Sub.cons rfl (Sub.cons rfl (Sub.cons rfl (Sub.nil _)))))) (fun w h => ((h).ent (Ent.take 1 rfl)).ent (Ent.take 1 rfl)))
                      · replace hm := ite_f hm h188
                        refine T.region rfl ?_
                        refine TO.go rfl rfl rfl (Does.bin (v := .bool (v0 == (61 : UInt8))) (vy := .int .u8 (61 : UInt8).toNat) rfl rfl rfl g_int b8_eq) fun _ => ?_
                        refine TO.go rfl rfl rfl (Does.assign rfl rfl) fun _ => ?_
                        refine TO.end rfl ?_
                        exact TQ.then (T.sub (h173 (v0 == (61 : UInt8)) hm) (Sub.cons rfl (Sub.cons rfl (Sub.cons rfl (Sub.cons rfl (Sub.cons rfl (Sub.nil _)))))) (fun w h => ((h).ent (Ent.take 1 rfl)).ent (Ent.take 1 rfl)))
        · intro h163
          refine T.seq rfl ?_
          refine T.region rfl ?_
          refine TO.go rfl rfl rfl (Does.bin (v := .bool (v0 == (44 : UInt8))) (vy := .int .u8 (44 : UInt8).toNat) rfl rfl rfl g_int b8_eq) fun _ => ?_
          refine TO.go rfl rfl rfl (Does.assign rfl rfl) fun _ => ?_
          refine TO.end rfl ?_
          refine TQ.then ?_
          refine T.cond rfl (b := (v0 == (44 : UInt8))) rfl (fun h189 => ?_) (fun h189 => ?_)
          · replace hm := ite_t hm h189
            refine T.skip rfl ?_
            exact TQ.then (T.sub (h163 (v0 == (44 : UInt8)) hm) (Sub.cons rfl (Sub.cons rfl (Sub.cons rfl (Sub.cons rfl (Sub.cons rfl (Sub.nil _)))))) (fun w h => ((h).ent (Ent.take 1 rfl)).ent (Ent.take 1 rfl)))
          · replace hm := ite_f hm h189
            refine T.seq rfl ?_
            refine T.region rfl ?_
            refine TO.go rfl rfl rfl (Does.bin (v := .bool (v0 == (45 : UInt8))) (vy := .int .u8 (45 : UInt8).toNat) rfl rfl rfl g_int b8_eq) fun _ => ?_
            refine TO.go rfl rfl rfl (Does.assign rfl rfl) fun _ => ?_
            refine TO.end rfl ?_
            refine TQ.then ?_
            refine T.cond rfl (b := (v0 == (45 : UInt8))) rfl (fun h190 => ?_) (fun h190 => ?_)
            · replace hm := ite_t hm h190
              refine T.skip rfl ?_
              exact TQ.then (T.sub (h163 (v0 == (45 : UInt8)) hm) (Sub.cons rfl (Sub.cons rfl (Sub.cons rfl (Sub.cons rfl (Sub.cons rfl (Sub.nil _)))))) (fun w h => ((h).ent (Ent.take 1 rfl)).ent (Ent.take 1 rfl)))
            · replace hm := ite_f hm h190
              refine T.seq rfl ?_
              refine T.region rfl ?_
              refine TO.go rfl rfl rfl (Does.bin (v := .bool (v0 == (48 : UInt8))) (vy := .int .u8 (48 : UInt8).toNat) rfl rfl rfl g_int b8_eq) fun _ => ?_
              refine TO.go rfl rfl rfl (Does.assign rfl rfl) fun _ => ?_
              refine TO.end rfl ?_
              refine TQ.then ?_
              refine T.cond rfl (b := (v0 == (48 : UInt8))) rfl (fun h191 => ?_) (fun h191 => ?_)
              · replace hm := ite_t hm h191
                refine T.skip rfl ?_
                exact TQ.then (T.sub (h163 (v0 == (48 : UInt8)) hm) (Sub.cons rfl (Sub.cons rfl (Sub.cons rfl (Sub.cons rfl (Sub.cons rfl (Sub.nil _)))))) (fun w h => ((h).ent (Ent.take 1 rfl)).ent (Ent.take 1 rfl)))
              · replace hm := ite_f hm h191
                refine T.seq rfl ?_
                refine T.region rfl ?_
                refine TO.go rfl rfl rfl (Does.bin (v := .bool (v0 == (49 : UInt8))) (vy := .int .u8 (49 : UInt8).toNat) rfl rfl rfl g_int b8_eq) fun _ => ?_
                refine TO.go rfl rfl rfl (Does.assign rfl rfl) fun _ => ?_
                refine TO.end rfl ?_
                refine TQ.then ?_
                refine T.cond rfl (b := (v0 == (49 : UInt8))) rfl (fun h192 => ?_) (fun h192 => ?_)
                · replace hm := ite_t hm h192
                  refine T.skip rfl ?_
                  exact TQ.then (T.sub (h163 (v0 == (49 : UInt8)) hm) (Sub.cons rfl (Sub.cons rfl (Sub.cons rfl (Sub.cons rfl (Sub.cons rfl (Sub.nil _)))))) (fun w h => ((h).ent (Ent.take 1 rfl)).ent (Ent.take 1 rfl)))
                · replace hm := ite_f hm h192
                  refine T.seq rfl ?_
                  refine T.region rfl ?_
                  refine TO.go rfl rfl rfl (Does.bin (v := .bool (v0 == (58 : UInt8))) (vy := .int .u8 (58 : UInt8).toNat) rfl rfl rfl g_int b8_eq) fun _ => ?_
                  refine TO.go rfl rfl rfl (Does.assign rfl rfl) fun _ => ?_
                  refine TO.end rfl ?_
                  refine TQ.then ?_
                  refine T.cond rfl (b := (v0 == (58 : UInt8))) rfl (fun h193 => ?_) (fun h193 => ?_)
                  · replace hm := ite_t hm h193
                    refine T.skip rfl ?_
                    exact TQ.then (T.sub (h163 (v0 == (58 : UInt8)) hm) (Sub.cons rfl (Sub.cons rfl (Sub.cons rfl (Sub.cons rfl (Sub.cons rfl (Sub.nil _)))))) (fun w h => ((h).ent (Ent.take 1 rfl)).ent (Ent.take 1 rfl)))
                  · replace hm := ite_f hm h193
                    refine T.region rfl ?_
                    refine TO.go rfl rfl rfl (Does.bin (v := .bool (v0 == (60 : UInt8))) (vy := .int .u8 (60 : UInt8).toNat) rfl rfl rfl g_int b8_eq) fun _ => ?_
                    refine TO.go rfl rfl rfl (Does.assign rfl rfl) fun _ => ?_
                    refine TO.end rfl ?_
                    exact TQ.then (T.sub (h163 (v0 == (60 : UInt8)) hm) (Sub.cons rfl (Sub.cons rfl (Sub.cons rfl (Sub.cons rfl (Sub.cons rfl (Sub.nil _)))))) (fun w h => ((h).ent (Ent.take 1 rfl)).ent (Ent.take 1 rfl)))
    · intro h118
      refine T.seq rfl ?_
      refine T.region rfl ?_
      refine TO.go rfl rfl rfl (Does.fieldAddr (o' := 0) rfl rfl fo_117_0 rfl) fun _ => ?_
      refine TO.go rfl rfl rfl (Does.loadPts (k := 1) (v := .string ⟨v103.Name.toArray⟩) rfl rfl sc_9 rfl rfl) fun _ => ?_
      obtain ⟨v194, h195, hm⟩ := bind_o hm
      refine TO.go rfl rfl rfl (Does.indexStr rfl rfl rfl ss_9 h195) fun _ => ?_
      refine TO.go rfl rfl rfl (Does.bin (v := .bool (v194 == (51 : UInt8))) (vy := .int .u8 (51 : UInt8).toNat) rfl rfl rfl g_int b8_eq) fun _ => ?_
      refine TO.end rfl ?_
      refine TQ.then ?_
      refine T.cond rfl (b := (v194 == (51 : UInt8))) rfl (fun h196 => ?_) (fun h196 => ?_)
      · replace hm := ite_t hm h196
        refine T.region rfl ?_
        refine TO.go rfl rfl rfl (Does.fieldAddr (o' := 1) rfl rfl fo_148_1 rfl) fun _ => ?_
        refine TO.go0 rfl rfl (Does.storePts (k := 0) (v := .int .u8 (127 : UInt8).toNat) (vs := [.int .u8 (127 : UInt8).toNat]) (cs' := [.int .i64 8, .int .u8 (127 : UInt8).toNat, .bool (decide ((54 : UInt8) ≤ v0)), .bool false]) rfl rfl rfl rfl rfl cn_5 rfl rfl rfl rfl) fun _ => ?_
        refine TO.ent (L' := pts b109 [.int .i64 8, .int .u8 (127 : UInt8).toNat, .bool (decide ((54 : UInt8) ≤ v0)), .bool false] :: pts b105 [.string ⟨v103.Name.toArray⟩, .int .i64 v103.Imm, .string ⟨v103.Params.toArray⟩, .string ⟨v103.Result.toArray⟩, .bool v103.Free] :: pts b101 [.int .i64 0, .int .u8 (0 : UInt8).toNat, .bool false, .bool false] :: R) (fun w h => h) ?_
        refine TO.go rfl rfl rfl (Does.fieldAddr (o' := 0) rfl rfl fo_148_0 rfl) fun _ => ?_
        refine TO.go0 rfl rfl (Does.storePts (k := 0) (v := .int .i64 4) (vs := [.int .i64 4]) (cs' := [.int .i64 4, .int .u8 (127 : UInt8).toNat, .bool (decide ((54 : UInt8) ≤ v0)), .bool false]) rfl rfl rfl rfl rfl cn_3 rfl rfl rfl rfl) fun _ => ?_
        refine TO.ent (L' := pts b109 [.int .i64 4, .int .u8 (127 : UInt8).toNat, .bool (decide ((54 : UInt8) ≤ v0)), .bool false] :: pts b105 [.string ⟨v103.Name.toArray⟩, .int .i64 v103.Imm, .string ⟨v103.Params.toArray⟩, .string ⟨v103.Result.toArray⟩, .bool v103.Free] :: pts b101 [.int .i64 0, .int .u8 (0 : UInt8).toNat, .bool false, .bool false] :: R) (fun w h => h) ?_
        refine TO.end rfl ?_
        exact TQ.then (T.sub (h118 (4, (127 : UInt8)) hm) (Sub.cons rfl (Sub.cons rfl (Sub.cons rfl (Sub.nil _)))) (fun w h => (((h).ent (Ent.take 1 rfl)).ent (Ent.drop _ _)).ent (Ent.take 1 rfl)))
      · replace hm := ite_f hm h196
        refine T.skip rfl ?_
        exact TQ.then (T.sub (h118 (8, (126 : UInt8)) hm) (Sub.cons rfl (Sub.cons rfl (Sub.cons rfl (Sub.nil _)))) (fun w h => (((h).ent (Ent.take 1 rfl)).ent (Ent.drop _ _)).ent (Ent.take 1 rfl)))

def f52.j1 (v136 : Bool) : Option Int :=
  (if v136 = true then some 25 else some 0)
/-- (*creel/check.checker).memory -/
def f52.f (v0 : check_checker) (v1 : api_Instr) : Option Int :=
  (if (!v0.env.Mem) = true then some 20 else ((f83.f v1.Op).bind fun v119 => (if v119.2 = true then (if (decide (3 < v1.A)) = true then f52.j1 true else (if (decide (0 ≤ v1.A)) = true then f52.j1 (decide ((IntKind.u64.wrap v119.1.Bytes) < (IntKind.u64.wrap (1 * 2 ^ (min (v1.A).toNat (IntKind.u64.bits)))))) else none)) else f52.j1 false)))
set_option maxRecDepth 20000 in
set_option maxHeartbeats 1000000 in
theorem f52.ok {W w : World} {R : List Assn} (v0 : check_checker) (b0 : Nat) (a101 : Option Addr) (n102 : Nat) (a104 : Option Addr) (n105 : Nat) (a107 : Option Addr) (n108 : Nat) (b110 : Nat) (v1 : api_Instr) (a112 : Option Addr) (n113 : Nat) {r : Int} (hm : f52.f v0 v1 = some r) (hs : St W w (pts b0 [.slice a101 v0.env.Types.length n102, .slice a104 v0.env.Funcs.length n105, .slice a107 v0.env.Globals.length n108, .bool v0.env.Table, .bool v0.env.Mem, .string ⟨v0.locals.toArray⟩, .pointer (some ⟨b110, 0, none⟩), .string ⟨v0.result.toArray⟩] :: ptr ctrl_Control.rep b110 v0.c :: ro api_GlobalType.rep a107 n108 v0.env.Globals :: ro (rI .u32) a104 n105 v0.env.Funcs :: ro api_FuncType.rep a101 n102 v0.env.Types :: ro (rI .u32) a112 n113 v1.L :: R)) :
    Calls Try.prog 52 #[.pointer (some ⟨b0, 0, none⟩), .agg #[.int .u8 v1.Op.toNat, .int .u64 v1.A, .int .u64 v1.B, .slice a112 v1.L.length n113]] w (fun e w' => ∃ x : Unit, e = .returned (.int .i64 r) ∧ St W w' (pts b0 [.slice a101 v0.env.Types.length n102, .slice a104 v0.env.Funcs.length n105, .slice a107 v0.env.Globals.length n108, .bool v0.env.Table, .bool v0.env.Mem, .string ⟨v0.locals.toArray⟩, .pointer (some ⟨b110, 0, none⟩), .string ⟨v0.result.toArray⟩] :: ptr ctrl_Control.rep b110 v0.c :: R)) := by
  unfold f52.f at hm
  refine calls_sym (vs := [.pointer (some ⟨b0, 0, none⟩), .agg #[.int .u8 v1.Op.toNat, .int .u64 v1.A, .int .u64 v1.B, .slice a112 v1.L.length n113]]) Try.func52 rfl rfl hs ?_
  refine T.seq rfl ?_
  refine T.region rfl ?_
  refine TO.go rfl rfl rfl (Does.box (vs := [.int .u8 v1.Op.toNat, .int .u64 v1.A, .int .u64 v1.B, .slice a112 v1.L.length n113]) rfl rfl rfl) fun b115 => ?_
  refine TO.ent (L' := pts b115 [.int .u8 v1.Op.toNat, .int .u64 v1.A, .int .u64 v1.B, .slice a112 v1.L.length n113] :: pts b0 [.slice a101 v0.env.Types.length n102, .slice a104 v0.env.Funcs.length n105, .slice a107 v0.env.Globals.length n108, .bool v0.env.Table, .bool v0.env.Mem, .string ⟨v0.locals.toArray⟩, .pointer (some ⟨b110, 0, none⟩), .string ⟨v0.result.toArray⟩] :: ptr ctrl_Control.rep b110 v0.c :: ro api_GlobalType.rep a107 n108 v0.env.Globals :: ro (rI .u32) a104 n105 v0.env.Funcs :: ro api_FuncType.rep a101 n102 v0.env.Types :: ro (rI .u32) a112 n113 v1.L :: R) (fun w h => h) ?_
  refine TO.go rfl rfl rfl (Does.assign (v := .int .i64 0) rfl rfl) fun _ => ?_
  refine TO.end rfl ?_
  refine TQ.then ?_
  refine T.seq rfl ?_
  refine T.seq rfl ?_
  refine T.region rfl ?_
  refine TO.go rfl rfl rfl (Does.move rfl rfl) fun _ => ?_
  refine TO.go rfl rfl rfl (Does.nilCheck rfl rfl) fun _ => ?_
  refine TO.go rfl rfl rfl (Does.fieldAddr (o' := 0) rfl rfl fo_76_0 rfl) fun _ => ?_
  refine TO.go rfl rfl rfl (Does.fieldAddr (o' := 4) rfl rfl fo_26_4 rfl) fun _ => ?_
  refine TO.go rfl rfl rfl (Does.loadPts (k := 1) (v := .bool v0.env.Mem) rfl rfl sc_4 rfl rfl) fun _ => ?_
  refine TO.go rfl rfl rfl (Does.un (v := .bool (!v0.env.Mem)) rfl rfl (fun w => rfl)) fun _ => ?_
  refine TO.end rfl ?_
  refine TQ.then ?_
  refine T.cond rfl (b := (!v0.env.Mem)) rfl (fun h118 => ?_) (fun h118 => ?_)
  · replace hm := ite_t hm h118
    refine T.seq rfl ?_
    refine T.region rfl ?_
    refine TO.go rfl rfl rfl (Does.assign (v := .int .i64 20) rfl rfl) fun _ => ?_
    refine TO.end rfl ?_
    refine TQ.then ?_
    refine T.ret rfl ?_
    refine TQ.passThenRet ?_
    refine TQ.result (.inl rfl) rfl (Res.tmp rfl Res.nil) rfl (fun w h => ?_)
    cases hm
    exact ⟨(), rfl, (((((((((((h).ent (Ent.drop _ _)).ent (Ent.take 2 rfl)).ent (Ent.drop _ _)).ent (Ent.take 2 rfl)).ent (Ent.drop _ _)).ent (Ent.take 2 rfl)).ent (Ent.drop _ _)).ent (Ent.take 2 rfl)).ent (Ent.drop _ _)).ent (Ent.take 1 rfl)).ent (Ent.take 1 rfl)⟩
  · replace hm := ite_f hm h118
    refine T.skip rfl ?_
    refine TQ.then ?_
    refine T.seq rfl ?_
    refine T.region rfl ?_
    refine TO.go rfl rfl rfl (Does.fieldAddr (o' := 0) rfl rfl fo_40_0 rfl) fun _ => ?_
    refine TO.go rfl rfl rfl (Does.loadPts (k := 0) (v := .int .u8 v1.Op.toNat) rfl rfl sc_5 rfl rfl) fun _ => ?_
    obtain ⟨v119, h120, hm⟩ := bind_o hm
    refine TO.go rfl rfl rfl (Does.conseq (Does.call (vs := [.int .u8 v1.Op.toNat]) rfl co_83 rfl (fun w h => f83.ok v1.Op h120 (h))) (fun w h => h) (fun x w h => (((((((h).ent (Ent.take 6 rfl)).ent (Ent.take 6 rfl)).ent (Ent.take 6 rfl)).ent (Ent.take 6 rfl)).ent (Ent.take 6 rfl)).ent (Ent.take 6 rfl)).ent (Ent.take 6 rfl))) fun _ => ?_
    refine TO.go rfl rfl rfl (Does.move rfl rfl) fun _ => ?_
    refine TO.go rfl rfl rfl (Does.extract rfl rfl rfl) fun _ => ?_
    refine TO.go rfl rfl rfl (Does.extract rfl rfl rfl) fun _ => ?_
    refine TO.go rfl rfl rfl (Does.alloc rfl zn_148) fun b121 => ?_
    refine TO.ent (L' := pts b121 [.int .i64 0, .int .u8 (0 : UInt8).toNat, .bool false, .bool false] :: pts b115 [.int .u8 v1.Op.toNat, .int .u64 v1.A, .int .u64 v1.B, .slice a112 v1.L.length n113] :: pts b0 [.slice a101 v0.env.Types.length n102, .slice a104 v0.env.Funcs.length n105, .slice a107 v0.env.Globals.length n108, .bool v0.env.Table, .bool v0.env.Mem, .string ⟨v0.locals.toArray⟩, .pointer (some ⟨b110, 0, none⟩), .string ⟨v0.result.toArray⟩] :: ptr ctrl_Control.rep b110 v0.c :: ro api_GlobalType.rep a107 n108 v0.env.Globals :: ro (rI .u32) a104 n105 v0.env.Funcs :: ro api_FuncType.rep a101 n102 v0.env.Types :: ro (rI .u32) a112 n113 v1.L :: R) (fun w h => h) ?_
    refine TO.go0 rfl rfl (Does.storePts (k := 0) (vs := [.int .i64 v119.1.Bytes, .int .u8 v119.1.T.toNat, .bool v119.1.Writes, .bool v119.1.Signed]) (cs' := [.int .i64 v119.1.Bytes, .int .u8 v119.1.T.toNat, .bool v119.1.Writes, .bool v119.1.Signed]) rfl rfl rfl rfl rfl cn_148 rfl rfl rfl rfl) fun _ => ?_
    refine TO.ent (L' := pts b121 [.int .i64 v119.1.Bytes, .int .u8 v119.1.T.toNat, .bool v119.1.Writes, .bool v119.1.Signed] :: pts b115 [.int .u8 v1.Op.toNat, .int .u64 v1.A, .int .u64 v1.B, .slice a112 v1.L.length n113] :: pts b0 [.slice a101 v0.env.Types.length n102, .slice a104 v0.env.Funcs.length n105, .slice a107 v0.env.Globals.length n108, .bool v0.env.Table, .bool v0.env.Mem, .string ⟨v0.locals.toArray⟩, .pointer (some ⟨b110, 0, none⟩), .string ⟨v0.result.toArray⟩] :: ptr ctrl_Control.rep b110 v0.c :: ro api_GlobalType.rep a107 n108 v0.env.Globals :: ro (rI .u32) a104 n105 v0.env.Funcs :: ro api_FuncType.rep a101 n102 v0.env.Types :: ro (rI .u32) a112 n113 v1.L :: R) (fun w h => h) ?_
    refine TO.go rfl rfl rfl (Does.assign rfl rfl) fun _ => ?_
    refine TO.end rfl ?_
    refine TQ.then ?_
    refine T.seq rfl ?_
    refine T.seqJ (X := Bool) rfl (fun x => [(33, .bool x)]) (fun x => ro api_FuncType.rep a101 n102 v0.env.Types :: ro (rI .u32) a104 n105 v0.env.Funcs :: ro api_GlobalType.rep a107 n108 v0.env.Globals :: ptr ctrl_Control.rep b110 v0.c :: pts b0 [.slice a101 v0.env.Types.length n102, .slice a104 v0.env.Funcs.length n105, .slice a107 v0.env.Globals.length n108, .bool v0.env.Table, .bool v0.env.Mem, .string ⟨v0.locals.toArray⟩, .pointer (some ⟨b110, 0, none⟩), .string ⟨v0.result.toArray⟩] :: R) (fun x => f52.j1 x = some r) ?_ ?_
    · rintro v136 hm
      try dsimp only
      unfold f52.j1 at hm
      refine T.cond rfl (b := v136) rfl (fun h143 => ?_) (fun h143 => ?_)
      · replace hm := ite_t hm h143
        refine T.seq rfl ?_
        refine T.region rfl ?_
        refine TO.go rfl rfl rfl (Does.assign (v := .int .i64 25) rfl rfl) fun _ => ?_
        refine TO.end rfl ?_
        refine TQ.then ?_
        refine T.ret rfl ?_
        refine TQ.passThenRet ?_
        refine TQ.result (.inl rfl) rfl (Res.tmp rfl Res.nil) rfl (fun w h => ?_)
        cases hm
        exact ⟨(), rfl, ((((h).ent (Ent.drop _ _)).ent (Ent.drop _ _)).ent (Ent.drop _ _)).ent (Ent.take 1 rfl)⟩
      · replace hm := ite_f hm h143
        refine T.skip rfl ?_
        refine TQ.then ?_
        refine T.seq rfl ?_
        refine T.region rfl ?_
        refine TO.go rfl rfl rfl (Does.assign (v := .int .i64 0) rfl rfl) fun _ => ?_
        refine TO.end rfl ?_
        refine TQ.then ?_
        refine T.ret rfl ?_
        refine TQ.result (.inl rfl) rfl (Res.tmp rfl Res.nil) rfl (fun w h => ?_)
        cases hm
        exact ⟨(), rfl, ((((h).ent (Ent.drop _ _)).ent (Ent.drop _ _)).ent (Ent.drop _ _)).ent (Ent.take 1 rfl)⟩
    · intro h142
      refine T.region rfl ?_
      refine TO.go rfl rfl rfl (Does.move rfl rfl) fun _ => ?_
      refine TO.go rfl rfl rfl (Does.move rfl rfl) fun _ => ?_
      by_cases h144 : v119.2 = true
      · replace hm := ite_t hm h144
        refine TO.go rfl rfl rfl (Does.fieldAddr (o' := 1) (.inl ⟨_, _, rfl, rfl, by rw [h144]; rfl⟩) rfl fo_40_1 rfl) fun _ => ?_
        refine TO.go rfl rfl rfl (Does.loadPts (k := 1) (v := .int .u64 v1.A) (.inl ⟨_, _, rfl, rfl, by rw [h144]; rfl⟩) rfl sc_38 rfl rfl) fun _ => ?_
        refine TO.go rfl rfl rfl (Does.bin (v := .bool (decide (3 < v1.A))) (vy := .int .u64 3) (.inl ⟨_, _, rfl, rfl, by rw [h144]; rfl⟩) rfl rfl g_int b_gt) fun _ => ?_
        refine TO.go rfl rfl rfl (Does.move (.inl ⟨_, _, rfl, rfl, by rw [h144]; rfl⟩) rfl) fun _ => ?_
        by_cases h145 : (decide (3 < v1.A)) = true
        · replace hm := ite_t hm h145
          refine TO.go rfl rfl rfl (Does.not (.inl ⟨_, _, rfl, rfl, by rw [h145]; rfl⟩)) fun _ => ?_
          refine TO.go rfl rfl rfl (Does.not (.inl ⟨_, _, rfl, rfl, by rw [h145]; rfl⟩)) fun _ => ?_
          refine TO.go rfl rfl rfl (Does.not (.inl ⟨_, _, rfl, rfl, by rw [h145]; rfl⟩)) fun _ => ?_
          refine TO.go rfl rfl rfl (Does.not (.inl ⟨_, _, rfl, rfl, by rw [h145]; rfl⟩)) fun _ => ?_
          refine TO.go rfl rfl rfl (Does.not (.inl ⟨_, _, rfl, rfl, by rw [h145]; rfl⟩)) fun _ => ?_
          refine TO.go rfl rfl rfl (Does.not (.inl ⟨_, _, rfl, rfl, by rw [h145]; rfl⟩)) fun _ => ?_
          refine TO.go rfl rfl rfl (Does.not (.inl ⟨_, _, rfl, rfl, by rw [h145]; rfl⟩)) fun _ => ?_
          refine TO.go rfl rfl rfl (Does.pickT (v := .bool true) (.inl ⟨_, _, rfl, rfl, by rw [h144]; rfl⟩) rfl h145 rfl) fun _ => ?_
          refine TO.go rfl rfl rfl (Does.pickT rfl rfl h144 rfl) fun _ => ?_
          refine TO.end rfl ?_
          exact TQ.then (T.sub (h142 true hm) (Sub.cons rfl (Sub.nil _)) (fun w h => ((((((((((((((((((((h).ent (Ent.copy 6 rfl)).ent (Ent.copy 6 rfl)).ent (Ent.copy 6 rfl)).ent (Ent.take 3 rfl)).ent (Ent.drop _ _)).ent (Ent.take 3 rfl)).ent (Ent.drop _ _)).ent (Ent.take 5 rfl)).ent (Ent.drop _ _)).ent (Ent.take 5 rfl)).ent (Ent.drop _ _)).ent (Ent.take 5 rfl)).ent (Ent.drop _ _)).ent (Ent.take 5 rfl)).ent (Ent.drop _ _)).ent (Ent.take 3 rfl)).ent (Ent.take 4 rfl)).ent (Ent.take 2 rfl)).ent (Ent.take 3 rfl)).ent (Ent.take 4 rfl)))
        · replace h145 := bool_f h145
          replace hm := ite_f hm h145
          refine TO.go rfl rfl rfl (Does.fieldAddr (o' := 1) (.inl ⟨_, _, rfl, rfl, by rw [h145]; rfl⟩) rfl fo_40_1 rfl) fun _ => ?_
          refine TO.go rfl rfl rfl (Does.loadPts (k := 1) (v := .int .u64 v1.A) (.inl ⟨_, _, rfl, rfl, by rw [h145]; rfl⟩) rfl sc_38 rfl rfl) fun _ => ?_
          have h149 := guard_t hm
          replace hm := ite_t hm h149
          refine TO.go rfl rfl rfl (Does.bin (v := .int .u64 (IntKind.u64.wrap (1 * 2 ^ (min (v1.A).toNat (IntKind.u64.bits))))) (vx := .int .u64 1) (.inl ⟨_, _, rfl, rfl, by rw [h145]; rfl⟩) rfl rfl g_int (b_shl (by simpa using h149))) fun _ => ?_
          refine TO.go rfl rfl rfl (Does.fieldAddr (o' := 0) (.inl ⟨_, _, rfl, rfl, by rw [h145]; rfl⟩) rfl fo_148_0 rfl) fun _ => ?_
          refine TO.go rfl rfl rfl (Does.loadPts (k := 0) (v := .int .i64 v119.1.Bytes) (.inl ⟨_, _, rfl, rfl, by rw [h145]; rfl⟩) rfl sc_3 rfl rfl) fun _ => ?_
          refine TO.go rfl rfl rfl (Does.conv (v := .int .u64 (IntKind.u64.wrap v119.1.Bytes)) (.inl ⟨_, _, rfl, rfl, by rw [h145]; rfl⟩) rfl (c_int un_3 ii_38)) fun _ => ?_
          refine TO.go rfl rfl rfl (Does.bin (v := .bool (decide ((IntKind.u64.wrap v119.1.Bytes) < (IntKind.u64.wrap (1 * 2 ^ (min (v1.A).toNat (IntKind.u64.bits))))))) (.inl ⟨_, _, rfl, rfl, by rw [h145]; rfl⟩) rfl rfl g_int b_gt) fun _ => ?_
          refine TO.go rfl rfl rfl (Does.pickF (.inl ⟨_, _, rfl, rfl, by rw [h144]; rfl⟩) rfl h145 rfl) fun _ => ?_
          refine TO.go rfl rfl rfl (Does.pickT rfl rfl h144 rfl) fun _ => ?_
          refine TO.end rfl ?_
          exact TQ.then (T.sub (h142 (decide ((IntKind.u64.wrap v119.1.Bytes) < (IntKind.u64.wrap (1 * 2 ^ (min (v1.A).toNat (IntKind.u64.bits)))))) hm) (Sub.cons rfl (Sub.nil _)) (fun w h => ((((((((((((((((((((h).ent (Ent.copy 6 rfl)).ent (Ent.copy 6 rfl)).ent (Ent.copy 6 rfl)).ent (Ent.take 3 rfl)).ent (Ent.drop _ _)).ent (Ent.take 3 rfl)).ent (Ent.drop _ _)).ent (Ent.take 5 rfl)).ent (Ent.drop _ _)).ent (Ent.take 5 rfl)).ent (Ent.drop _ _)).ent (Ent.take 5 rfl)).ent (Ent.drop _ _)).ent (Ent.take 5 rfl)).ent (Ent.drop _ _)).ent (Ent.take 3 rfl)).ent (Ent.take 4 rfl)).ent (Ent.take 2 rfl)).ent (Ent.take 3 rfl)).ent (Ent.take 4 rfl)))
      · replace h144 := bool_f h144
        replace hm := ite_f hm h144
        refine TO.go rfl rfl rfl (Does.not (.inl ⟨_, _, rfl, rfl, by rw [h144]; rfl⟩)) fun _ => ?_
        refine TO.go rfl rfl rfl (Does.not (.inl ⟨_, _, rfl, rfl, by rw [h144]; rfl⟩)) fun _ => ?_
        refine TO.go rfl rfl rfl (Does.not (.inl ⟨_, _, rfl, rfl, by rw [h144]; rfl⟩)) fun _ => ?_
        refine TO.go rfl rfl rfl (Does.not (.inl ⟨_, _, rfl, rfl, by rw [h144]; rfl⟩)) fun _ => ?_
        refine TO.go rfl rfl rfl (Does.not (.inr ⟨rfl, _, rfl, rfl⟩)) fun _ => ?_
        refine TO.go rfl rfl rfl (Does.not (.inr ⟨rfl, _, rfl, rfl⟩)) fun _ => ?_
        refine TO.go rfl rfl rfl (Does.not (.inr ⟨rfl, _, rfl, rfl⟩)) fun _ => ?_
        refine TO.go rfl rfl rfl (Does.not (.inr ⟨rfl, _, rfl, rfl⟩)) fun _ => ?_
        refine TO.go rfl rfl rfl (Does.not (.inr ⟨rfl, _, rfl, rfl⟩)) fun _ => ?_
        refine TO.go rfl rfl rfl (Does.not (.inr ⟨rfl, _, rfl, rfl⟩)) fun _ => ?_
        refine TO.go rfl rfl rfl (Does.not (.inr ⟨rfl, _, rfl, rfl⟩)) fun _ => ?_
        refine TO.go rfl rfl rfl (Does.not (.inl ⟨_, _, rfl, rfl, by rw [h144]; rfl⟩)) fun _ => ?_
        refine TO.go rfl rfl rfl (Does.pickF (v := .bool false) rfl rfl h144 rfl) fun _ => ?_
        refine TO.end rfl ?_
        exact TQ.then (T.sub (h142 false hm) (Sub.cons rfl (Sub.nil _)) (fun w h => ((((((((((((((((((((h).ent (Ent.copy 6 rfl)).ent (Ent.copy 6 rfl)).ent (Ent.copy 6 rfl)).ent (Ent.take 3 rfl)).ent (Ent.drop _ _)).ent (Ent.take 3 rfl)).ent (Ent.drop _ _)).ent (Ent.take 5 rfl)).ent (Ent.drop _ _)).ent (Ent.take 5 rfl)).ent (Ent.drop _ _)).ent (Ent.take 5 rfl)).ent (Ent.drop _ _)).ent (Ent.take 5 rfl)).ent (Ent.drop _ _)).ent (Ent.take 3 rfl)).ent (Ent.take 4 rfl)).ent (Ent.take 2 rfl)).ent (Ent.take 3 rfl)).ent (Ent.take 4 rfl)))

end Go.Proofs.Ytfonekhhbmlkbaa
