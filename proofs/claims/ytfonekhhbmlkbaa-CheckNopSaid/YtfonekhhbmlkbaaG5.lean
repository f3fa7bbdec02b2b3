/- Mirrors of functions, and that the Go functions compute them. Printed by gofun.py. -/
import Derived.Test.YtfonekhhbmlkbaaG4
set_option linter.unusedVariables false
set_option linter.unusedSimpArgs false
namespace Go.Proofs.Ytfonekhhbmlkbaa
open Go Go.Sym
/-- creel/instr.block -/
def f69.f (v0 : Int) : Option Int :=
  (if (v0 == 64) = true then some 0 else (if (decide (255 < v0)) = true then some 7 else ((f43.f (UInt8.ofNat (v0 % 256).toNat)).bind fun v105 => some v105)))
set_option maxRecDepth 20000 in
set_option maxHeartbeats 1000000 in
theorem f69.ok {W w : World} {R : List Assn} (v0 : Int) {r : Int} (hm : f69.f v0 = some r) (hs : St W w (R)) :
    Calls Try.prog 69 #[.int .u64 v0] w (fun e w' => ∃ x : Unit, e = .returned (.int .i64 r) ∧ St W w' (R)) := by
  unfold f69.f at hm
  refine calls_sym (vs := [.int .u64 v0]) Try.func69 rfl rfl hs ?_
  refine T.seq rfl ?_
  refine T.region rfl ?_
  refine TO.go rfl rfl rfl (Does.assign (v := .int .i64 0) rfl rfl) fun _ => ?_
  refine TO.end rfl ?_
  refine TQ.then ?_
  refine T.seq rfl ?_
  refine T.block rfl ?_
  refine T.seq rfl ?_
  refine T.region rfl ?_
  refine TO.go rfl rfl rfl (Does.move rfl rfl) fun _ => ?_
  refine TO.go rfl rfl rfl (Does.bin (v := .bool (v0 == 64)) (vy := .int .u64 64) rfl rfl rfl g_int b_eq) fun _ => ?_
  refine TO.go rfl rfl rfl (Does.assign rfl rfl) fun _ => ?_
  refine TO.end rfl ?_
  refine TQ.then ?_
  refine T.cond rfl (b := (v0 == 64)) rfl (fun h103 => ?_) (fun h103 => ?_)
  · replace hm := ite_t hm h103
    refine T.seq rfl ?_
    refine T.region rfl ?_
    refine TO.go rfl rfl rfl (Does.assign (v := .int .i64 0) rfl rfl) fun _ => ?_
    refine TO.end rfl ?_
    refine TQ.then ?_
    refine T.ret rfl ?_
    refine TQ.passBlockRet ?_
    refine TQ.passThenRet ?_
    refine TQ.result (.inl rfl) rfl (Res.tmp rfl Res.nil) rfl (fun w h => ?_)
    cases hm
    exact ⟨(), rfl, h⟩
  · replace hm := ite_f hm h103
    refine T.seq rfl ?_
    refine T.region rfl ?_
    refine TO.go rfl rfl rfl (Does.move rfl rfl) fun _ => ?_
    refine TO.go rfl rfl rfl (Does.bin (v := .bool (decide (255 < v0))) (vy := .int .u64 255) rfl rfl rfl g_int b_gt) fun _ => ?_
    refine TO.go rfl rfl rfl (Does.assign rfl rfl) fun _ => ?_
    refine TO.end rfl ?_
    refine TQ.then ?_
    refine T.cond rfl (b := (decide (255 < v0))) rfl (fun h104 => ?_) (fun h104 => ?_)
    · replace hm := ite_t hm h104
      refine T.seq rfl ?_
      refine T.region rfl ?_
      refine TO.go rfl rfl rfl (Does.assign (v := .int .i64 7) rfl rfl) fun _ => ?_
      refine TO.end rfl ?_
      refine TQ.then ?_
      refine T.ret rfl ?_
      refine TQ.passBlockRet ?_
      refine TQ.passThenRet ?_
      refine TQ.result (.inl rfl) rfl (Res.tmp rfl Res.nil) rfl (fun w h => ?_)
      cases hm
      exact ⟨(), rfl, h⟩
    · replace hm := ite_f hm h104
      refine T.skip rfl ?_
      refine TQ.passBlockNormal ?_
      refine TQ.then ?_
      refine T.seq rfl ?_
      refine T.region rfl ?_
      refine TO.go rfl rfl rfl (Does.move rfl rfl) fun _ => ?_
      refine TO.go rfl rfl rfl (Does.conv (v := .int .u8 (UInt8.ofNat (v0 % 256).toNat).toNat) rfl rfl (c_u8 un_38 ii_5)) fun _ => ?_
      obtain ⟨v105, h106, hm⟩ := bind_o hm
      refine TO.go rfl rfl rfl (Does.call (vs := [.int .u8 (UInt8.ofNat (v0 % 256).toNat).toNat]) rfl co_43 rfl (fun w h => f43.ok (UInt8.ofNat (v0 % 256).toNat) h106 (h))) fun _ => ?_
      refine TO.go rfl rfl rfl (Does.assign rfl rfl) fun _ => ?_
      refine TO.end rfl ?_
      refine TQ.then ?_
      refine T.ret rfl ?_
      refine TQ.result (.inl rfl) rfl (Res.tmp rfl Res.nil) rfl (fun w h => ?_)
      cases hm
      exact ⟨(), rfl, h⟩

def f46.j3 (v0 : api_Instr) (v112 : ops_Info) (v156 : Bool) : Option Int :=
  (if v156 = true then ((f68.f (v0.A == 0)).bind fun v159 => some v159) else (if (v112.Imm == 1) = true then ((f69.f v0.A).bind fun v162 => some v162) else (if (v112.Imm == 11) = true then some 0 else (if (decide (v0.A < 4294967296)) = true then ((f68.f (decide (v0.B < 4294967296))).bind fun v171 => some v171) else ((f68.f false).bind fun v173 => some v173)))))
def f46.j2 (v0 : api_Instr) (v112 : ops_Info) (v139 : Bool) : Option Int :=
  (if v139 = true then some 1 else (if (v112.Imm == 0) = true then f46.j3 v0 v112 (v112.Imm == 0) else f46.j3 v0 v112 (v112.Imm == 9)))
def f46.j1 (v0 : api_Instr) (v112 : ops_Info) (v126 : Bool) : Option Int :=
  (if v126 = true then ((f67.f v112.Imm).bind fun v129 => some v129) else (if (v0.B != 0) = true then f46.j2 v0 v112 (v112.Imm != 8) else f46.j2 v0 v112 false))
/-- creel/instr.Right -/
def f46.f (v0 : api_Instr) : Option Int :=
  ((f66.f v0.Op).bind fun v109 => (if (v109 != 0) = true then some v109 else ((f47.f v0.Op).bind fun v112 => (if (decide (0 < (v0.L.length : Int))) = true then (if (v112.Imm != 3) = true then f46.j1 v0 v112 true else f46.j1 v0 v112 (decide (10000 < (v0.L.length : Int)))) else f46.j1 v0 v112 (decide (10000 < (v0.L.length : Int)))))))
set_option maxRecDepth 20000 in
set_option maxHeartbeats 1000000 in
theorem f46.ok {W w : World} {R : List Assn} (v0 : api_Instr) (a101 : Option Addr) (n102 : Nat) {r : Int} (hm : f46.f v0 = some r) (hs : St W w (ro (rI .u32) a101 n102 v0.L :: R)) :
    Calls Try.prog 46 #[.agg #[.int .u8 v0.Op.toNat, .int .u64 v0.A, .int .u64 v0.B, .slice a101 v0.L.length n102]] w (fun e w' => ∃ x : Unit, e = .returned (.int .i64 r) ∧ St W w' (R)) := by
  unfold f46.f at hm
  refine calls_sym (vs := [.agg #[.int .u8 v0.Op.toNat, .int .u64 v0.A, .int .u64 v0.B, .slice a101 v0.L.length n102]]) Try.func46 rfl rfl hs ?_
  refine T.seq rfl ?_
  refine T.region rfl ?_
  refine TO.go rfl rfl rfl (Does.box (vs := [.int .u8 v0.Op.toNat, .int .u64 v0.A, .int .u64 v0.B, .slice a101 v0.L.length n102]) rfl rfl rfl) fun b104 => ?_
  refine TO.ent (L' := pts b104 [.int .u8 v0.Op.toNat, .int .u64 v0.A, .int .u64 v0.B, .slice a101 v0.L.length n102] :: ro (rI .u32) a101 n102 v0.L :: R) (fun w h => h) ?_
  refine TO.go rfl rfl rfl (Does.assign (v := .int .i64 0) rfl rfl) fun _ => ?_
  refine TO.end rfl ?_
  refine TQ.then ?_
  refine T.seq rfl ?_
  refine T.seq rfl ?_
  refine T.region rfl ?_
  refine TO.go rfl rfl rfl (Does.fieldAddr (o' := 0) rfl rfl fo_40_0 rfl) fun _ => ?_
  refine TO.go rfl rfl rfl (Does.loadPts (k := 0) (v := .int .u8 v0.Op.toNat) rfl rfl sc_5 rfl rfl) fun _ => ?_
  obtain ⟨v109, h110, hm⟩ := bind_o hm
  refine TO.go rfl rfl rfl (Does.conseq (Does.call (vs := [.int .u8 v0.Op.toNat]) rfl co_66 rfl (fun w h => f66.ok v0.Op h110 (h))) (fun w h => h) (fun x w h => ((h).ent (Ent.take 1 rfl)).ent (Ent.take 1 rfl))) fun _ => ?_
  refine TO.go rfl rfl rfl (Does.assign rfl rfl) fun _ => ?_
  refine TO.end rfl ?_
  refine TQ.then ?_
  refine T.seq rfl ?_
  refine T.region rfl ?_
  refine TO.go rfl rfl rfl (Does.move rfl rfl) fun _ => ?_
  refine TO.go rfl rfl rfl (Does.bin (v := .bool (v109 != 0)) (vy := .int .i64 0) rfl rfl rfl g_int b_ne) fun _ => ?_
  refine TO.end rfl ?_
  refine TQ.then ?_
  refine T.cond rfl (b := (v109 != 0)) rfl (fun h111 => ?_) (fun h111 => ?_)
  · replace hm := ite_t hm h111
    refine T.seq rfl ?_
    refine T.region rfl ?_
    refine TO.go rfl rfl rfl (Does.move rfl rfl) fun _ => ?_
    refine TO.go rfl rfl rfl (Does.assign rfl rfl) fun _ => ?_
    refine TO.end rfl ?_
    refine TQ.then ?_
    refine T.ret rfl ?_
    refine TQ.passThenRet ?_
    refine TQ.result (.inl rfl) rfl (Res.tmp rfl Res.nil) rfl (fun w h => ?_)
    cases hm
    exact ⟨(), rfl, ((h).ent (Ent.drop _ _)).ent (Ent.drop _ _)⟩
  · replace hm := ite_f hm h111
    refine T.skip rfl ?_
    refine TQ.then ?_
    refine T.seq rfl ?_
    refine T.region rfl ?_
    refine TO.go rfl rfl rfl (Does.fieldAddr (o' := 0) rfl rfl fo_40_0 rfl) fun _ => ?_
    refine TO.go rfl rfl rfl (Does.loadPts (k := 0) (v := .int .u8 v0.Op.toNat) rfl rfl sc_5 rfl rfl) fun _ => ?_
    obtain ⟨v112, h113, hm⟩ := bind_o hm
    refine TO.go rfl rfl rfl (Does.conseq (Does.call (vs := [.int .u8 v0.Op.toNat]) rfl co_47 rfl (fun w h => f47.ok v0.Op h113 (h))) (fun w h => h) (fun x w h => ((h).ent (Ent.take 1 rfl)).ent (Ent.take 1 rfl))) fun _ => ?_
    refine TO.go rfl rfl rfl (Does.fieldV (v := .int .i64 v112.Imm) rfl rfl (fun w => by kernel_rfl)) fun _ => ?_
    refine TO.go rfl rfl rfl (Does.assign rfl rfl) fun _ => ?_
    refine TO.end rfl ?_
    refine TQ.then ?_
    refine T.seq rfl ?_
    refine T.seqJ (X := Bool) rfl (fun x => [(28, .bool x), (4, .int .i64 v112.Imm), (1, .pointer (some ⟨b104, 0, none⟩))]) (fun x => ro (rI .u32) a101 n102 v0.L :: pts b104 [.int .u8 v0.Op.toNat, .int .u64 v0.A, .int .u64 v0.B, .slice a101 v0.L.length n102] :: R) (fun x => f46.j1 v0 v112 x = some r) ?_ ?_
    · rintro v126 hm
      try dsimp only
      unfold f46.j1 at hm
      refine T.cond rfl (b := v126) rfl (fun h128 => ?_) (fun h128 => ?_)
      · replace hm := ite_t hm h128
        refine T.seq rfl ?_
        refine T.region rfl ?_
        refine TO.go rfl rfl rfl (Does.move rfl rfl) fun _ => ?_
        obtain ⟨v129, h130, hm⟩ := bind_o hm
        refine TO.go rfl rfl rfl (Does.conseq (Does.call (vs := [.int .i64 v112.Imm]) rfl co_67 rfl (fun w h => f67.ok v112.Imm h130 (h))) (fun w h => h) (fun x w h => ((h).ent (Ent.take 1 rfl)).ent (Ent.take 1 rfl))) fun _ => ?_
        refine TO.go rfl rfl rfl (Does.assign rfl rfl) fun _ => ?_
        refine TO.end rfl ?_
        refine TQ.then ?_
        refine T.ret rfl ?_
        refine TQ.passThenRet ?_
        refine TQ.result (.inl rfl) rfl (Res.tmp rfl Res.nil) rfl (fun w h => ?_)
        cases hm
        exact ⟨(), rfl, ((h).ent (Ent.drop _ _)).ent (Ent.drop _ _)⟩
      · replace hm := ite_f hm h128
        refine T.skip rfl ?_
        refine TQ.then ?_
        refine T.seq rfl ?_
        refine T.seqJ (X := Bool) rfl (fun x => [(37, .bool x), (4, .int .i64 v112.Imm), (1, .pointer (some ⟨b104, 0, none⟩))]) (fun x => ro (rI .u32) a101 n102 v0.L :: pts b104 [.int .u8 v0.Op.toNat, .int .u64 v0.A, .int .u64 v0.B, .slice a101 v0.L.length n102] :: R) (fun x => f46.j2 v0 v112 x = some r) ?_ ?_
        · rintro v139 hm
          try dsimp only
          unfold f46.j2 at hm
          refine T.cond rfl (b := v139) rfl (fun h141 => ?_) (fun h141 => ?_)
          · replace hm := ite_t hm h141
            refine T.seq rfl ?_
            refine T.region rfl ?_
            refine TO.go rfl rfl rfl (Does.assign (v := .int .i64 1) rfl rfl) fun _ => ?_
            refine TO.end rfl ?_
            refine TQ.then ?_
            refine T.ret rfl ?_
            refine TQ.passThenRet ?_
            refine TQ.result (.inl rfl) rfl (Res.tmp rfl Res.nil) rfl (fun w h => ?_)
            cases hm
            exact ⟨(), rfl, ((h).ent (Ent.drop _ _)).ent (Ent.drop _ _)⟩
          · replace hm := ite_f hm h141
            refine T.skip rfl ?_
            refine TQ.then ?_
            refine T.seq rfl ?_
            refine T.seq rfl ?_
            refine T.region rfl ?_
            refine TO.go rfl rfl rfl (Does.move rfl rfl) fun _ => ?_
            refine TO.end rfl ?_
            refine TQ.then ?_
            refine T.block rfl ?_
            refine T.seqJ (X := Bool) rfl (fun x => [(39, .bool x), (38, .int .i64 v112.Imm), (1, .pointer (some ⟨b104, 0, none⟩))]) (fun x => ro (rI .u32) a101 n102 v0.L :: pts b104 [.int .u8 v0.Op.toNat, .int .u64 v0.A, .int .u64 v0.B, .slice a101 v0.L.length n102] :: R) (fun x => f46.j3 v0 v112 x = some r) ?_ ?_
            · rintro v156 hm
              try dsimp only
              unfold f46.j3 at hm
              refine T.cond rfl (b := v156) rfl (fun h158 => ?_) (fun h158 => ?_)
              · replace hm := ite_t hm h158
                refine T.seq rfl ?_
                refine T.region rfl ?_
                refine TO.go rfl rfl rfl (Does.fieldAddr (o' := 1) rfl rfl fo_40_1 rfl) fun _ => ?_
                refine TO.go rfl rfl rfl (Does.loadPts (k := 1) (v := .int .u64 v0.A) rfl rfl sc_38 rfl rfl) fun _ => ?_
                refine TO.go rfl rfl rfl (Does.bin (v := .bool (v0.A == 0)) (vy := .int .u64 0) rfl rfl rfl g_int b_eq) fun _ => ?_
                obtain ⟨v159, h160, hm⟩ := bind_o hm
                refine TO.go rfl rfl rfl (Does.conseq (Does.call (vs := [.bool (v0.A == 0)]) rfl co_68 rfl (fun w h => f68.ok (v0.A == 0) h160 (h))) (fun w h => h) (fun x w h => ((h).ent (Ent.take 1 rfl)).ent (Ent.take 1 rfl))) fun _ => ?_
                refine TO.go rfl rfl rfl (Does.assign rfl rfl) fun _ => ?_
                refine TO.end rfl ?_
                refine TQ.then ?_
                refine T.ret rfl ?_
                refine TQ.passBlockRet ?_
                refine TQ.passThenRet ?_
                refine TQ.result (.inl rfl) rfl (Res.tmp rfl Res.nil) rfl (fun w h => ?_)
                cases hm
                exact ⟨(), rfl, ((h).ent (Ent.drop _ _)).ent (Ent.drop _ _)⟩
              · replace hm := ite_f hm h158
                refine T.seq rfl ?_
                refine T.region rfl ?_
                refine TO.go rfl rfl rfl (Does.bin (v := .bool (v112.Imm == 1)) (vy := .int .i64 1) rfl rfl rfl g_int b_eq) fun _ => ?_
                refine TO.go rfl rfl rfl (Does.assign rfl rfl) fun _ => ?_
                refine TO.end rfl ?_
                refine TQ.then ?_
                refine T.cond rfl (b := (v112.Imm == 1)) rfl (fun h161 => ?_) (fun h161 => ?_)
                · replace hm := ite_t hm h161
                  refine T.seq rfl ?_
                  refine T.region rfl ?_
                  refine TO.go rfl rfl rfl (Does.fieldAddr (o' := 1) rfl rfl fo_40_1 rfl) fun _ => ?_
                  refine TO.go rfl rfl rfl (Does.loadPts (k := 1) (v := .int .u64 v0.A) rfl rfl sc_38 rfl rfl) fun _ => ?_
                  obtain ⟨v162, h163, hm⟩ := bind_o hm
                  refine TO.go rfl rfl rfl (Does.conseq (Does.call (vs := [.int .u64 v0.A]) rfl co_69 rfl (fun w h => f69.ok v0.A h163 (h))) (fun w h => h) (fun x w h => ((h).ent (Ent.take 1 rfl)).ent (Ent.take 1 rfl))) fun _ => ?_
                  refine TO.go rfl rfl rfl (Does.assign rfl rfl) fun _ => ?_
                  refine TO.end rfl ?_
                  refine TQ.then ?_
                  refine T.ret rfl ?_
                  refine TQ.passBlockRet ?_
                  refine TQ.passThenRet ?_
                  refine TQ.result (.inl rfl) rfl (Res.tmp rfl Res.nil) rfl (fun w h => ?_)
                  cases hm
                  exact ⟨(), rfl, ((h).ent (Ent.drop _ _)).ent (Ent.drop _ _)⟩
                · replace hm := ite_f hm h161
                  refine T.seq rfl ?_
                  refine T.region rfl ?_
                  refine TO.go rfl rfl rfl (Does.bin (v := .bool (v112.Imm == 11)) (vy := .int .i64 11) rfl rfl rfl g_int b_eq) fun _ => ?_
                  refine TO.go rfl rfl rfl (Does.assign rfl rfl) fun _ => ?_
                  refine TO.end rfl ?_
                  refine TQ.then ?_
                  refine T.cond rfl (b := (v112.Imm == 11)) rfl (fun h164 => ?_) (fun h164 => ?_)
                  · replace hm := ite_t hm h164
                    refine T.seq rfl ?_
                    refine T.region rfl ?_
                    refine TO.go rfl rfl rfl (Does.assign (v := .int .i64 0) rfl rfl) fun _ => ?_
                    refine TO.end rfl ?_
                    refine TQ.then ?_
                    refine T.ret rfl ?_
                    refine TQ.passBlockRet ?_
                    refine TQ.passThenRet ?_
                    refine TQ.result (.inl rfl) rfl (Res.tmp rfl Res.nil) rfl (fun w h => ?_)
                    cases hm
                    exact ⟨(), rfl, ((h).ent (Ent.drop _ _)).ent (Ent.drop _ _)⟩
                  · replace hm := ite_f hm h164
                    refine T.skip rfl ?_
                    refine TQ.passBlockNormal ?_
                    refine TQ.then ?_
                    refine T.seq rfl ?_
                    refine T.region rfl ?_
                    refine TO.go rfl rfl rfl (Does.fieldAddr (o' := 1) rfl rfl fo_40_1 rfl) fun _ => ?_
                    refine TO.go rfl rfl rfl (Does.loadPts (k := 1) (v := .int .u64 v0.A) rfl rfl sc_38 rfl rfl) fun _ => ?_
                    refine TO.go rfl rfl rfl (Does.bin (v := .bool (decide (v0.A < 4294967296))) (vy := .int .u64 4294967296) rfl rfl rfl g_int b_lt) fun _ => ?_
                    refine TO.go rfl rfl rfl (Does.move rfl rfl) fun _ => ?_
                    by_cases h170 : (decide (v0.A < 4294967296)) = true
                    · replace hm := ite_t hm h170
                      refine TO.go rfl rfl rfl (Does.fieldAddr (o' := 2) (.inl ⟨_, _, rfl, rfl, by rw [h170]; rfl⟩) rfl fo_40_2 rfl) fun _ => ?_
                      refine TO.go rfl rfl rfl (Does.loadPts (k := 1) (v := .int .u64 v0.B) (.inl ⟨_, _, rfl, rfl, by rw [h170]; rfl⟩) rfl sc_38 rfl rfl) fun _ => ?_
                      refine TO.go rfl rfl rfl (Does.bin (v := .bool (decide (v0.B < 4294967296))) (vy := .int .u64 4294967296) (.inl ⟨_, _, rfl, rfl, by rw [h170]; rfl⟩) rfl rfl g_int b_lt) fun _ => ?_
                      refine TO.go rfl rfl rfl (Does.pickT rfl rfl h170 rfl) fun _ => ?_
                      obtain ⟨v171, h172, hm⟩ := bind_o hm
                      refine TO.go rfl rfl rfl (Does.conseq (Does.call (vs := [.bool (decide (v0.B < 4294967296))]) rfl co_68 rfl (fun w h => f68.ok (decide (v0.B < 4294967296)) h172 (h))) (fun w h => h) (fun x w h => ((h).ent (Ent.take 1 rfl)).ent (Ent.take 1 rfl))) fun _ => ?_
                      refine TO.go rfl rfl rfl (Does.assign rfl rfl) fun _ => ?_
                      refine TO.end rfl ?_
                      refine TQ.then ?_
                      refine T.ret rfl ?_
                      refine TQ.result (.inl rfl) rfl (Res.tmp rfl Res.nil) rfl (fun w h => ?_)
                      cases hm
                      exact ⟨(), rfl, ((h).ent (Ent.drop _ _)).ent (Ent.drop _ _)⟩
                    · replace h170 := bool_f h170
                      replace hm := ite_f hm h170
                      refine TO.go rfl rfl rfl (Does.not (.inl ⟨_, _, rfl, rfl, by rw [h170]; rfl⟩)) fun _ => ?_
                      refine TO.go rfl rfl rfl (Does.not (.inl ⟨_, _, rfl, rfl, by rw [h170]; rfl⟩)) fun _ => ?_
                      refine TO.go rfl rfl rfl (Does.not (.inl ⟨_, _, rfl, rfl, by rw [h170]; rfl⟩)) fun _ => ?_
                      refine TO.go rfl rfl rfl (Does.pickF (v := .bool false) rfl rfl h170 rfl) fun _ => ?_
                      obtain ⟨v173, h174, hm⟩ := bind_o hm
                      refine TO.go rfl rfl rfl (Does.conseq (Does.call (vs := [.bool false]) rfl co_68 rfl (fun w h => f68.ok false h174 (h))) (fun w h => h) (fun x w h => ((h).ent (Ent.take 1 rfl)).ent (Ent.take 1 rfl))) fun _ => ?_
                      refine TO.go rfl rfl rfl (Does.assign rfl rfl) fun _ => ?_
                      refine TO.end rfl ?_
                      refine TQ.then ?_
                      refine T.ret rfl ?_
                      refine TQ.result (.inl rfl) rfl (Res.tmp rfl Res.nil) rfl (fun w h => ?_)
                      cases hm
                      exact ⟨(), rfl, ((h).ent (Ent.drop _ _)).ent (Ent.drop _ _)⟩
            · intro h157
              refine T.seq rfl ?_
              refine T.region rfl ?_
              refine TO.go rfl rfl rfl (Does.bin (v := .bool (v112.Imm == 0)) (vy := .int .i64 0) rfl rfl rfl g_int b_eq) fun _ => ?_
              refine TO.go rfl rfl rfl (Does.assign rfl rfl) fun _ => ?_
              refine TO.end rfl ?_
              refine TQ.then ?_
              refine T.cond rfl (b := (v112.Imm == 0)) rfl (fun h175 => ?_) (fun h175 => ?_)
              · replace hm := ite_t hm h175
                refine T.skip rfl ?_
                exact TQ.then (T.sub (h157 (v112.Imm == 0) hm) (Sub.cons rfl (Sub.cons rfl (Sub.cons rfl (Sub.nil _)))) (fun w h => (((((h).ent (Ent.copy 0 rfl)).ent (Ent.take 1 rfl)).ent (Ent.drop _ _)).ent (Ent.take 1 rfl)).ent (Ent.take 1 rfl)))
              · replace hm := ite_f hm h175
                refine T.region rfl ?_
                refine TO.go rfl rfl rfl (Does.bin (v := .bool (v112.Imm == 9)) (vy := .int .i64 9) rfl rfl rfl g_int b_eq) fun _ => ?_
                refine TO.go rfl rfl rfl (Does.assign rfl rfl) fun _ => ?_
                refine TO.end rfl ?_
                exact TQ.then (T.sub (h157 (v112.Imm == 9) hm) (Sub.cons rfl (Sub.cons rfl (Sub.cons rfl (Sub.nil _)))) (fun w h => (((((h).ent (Ent.copy 0 rfl)).ent (Ent.take 1 rfl)).ent (Ent.drop _ _)).ent (Ent.take 1 rfl)).ent (Ent.take 1 rfl)))
        · intro h140
          refine T.region rfl ?_
          refine TO.go rfl rfl rfl (Does.fieldAddr (o' := 2) rfl rfl fo_40_2 rfl) fun _ => ?_
          refine TO.go rfl rfl rfl (Does.loadPts (k := 1) (v := .int .u64 v0.B) rfl rfl sc_38 rfl rfl) fun _ => ?_
          refine TO.go rfl rfl rfl (Does.bin (v := .bool (v0.B != 0)) (vy := .int .u64 0) rfl rfl rfl g_int b_ne) fun _ => ?_
          refine TO.go rfl rfl rfl (Does.move rfl rfl) fun _ => ?_
          by_cases h178 : (v0.B != 0) = true
          · replace hm := ite_t hm h178
            refine TO.go rfl rfl rfl (Does.move (.inl ⟨_, _, rfl, rfl, by rw [h178]; rfl⟩) rfl) fun _ => ?_
            refine TO.go rfl rfl rfl (Does.bin (v := .bool (v112.Imm != 8)) (vy := .int .i64 8) (.inl ⟨_, _, rfl, rfl, by rw [h178]; rfl⟩) rfl rfl g_int b_ne) fun _ => ?_
            refine TO.go rfl rfl rfl (Does.pickT rfl rfl h178 rfl) fun _ => ?_
            refine TO.end rfl ?_
            exact TQ.then (T.sub (h140 (v112.Imm != 8) hm) (Sub.cons rfl (Sub.cons rfl (Sub.cons rfl (Sub.nil _)))) (fun w h => (((((h).ent (Ent.copy 0 rfl)).ent (Ent.take 1 rfl)).ent (Ent.drop _ _)).ent (Ent.take 1 rfl)).ent (Ent.take 1 rfl)))
          · replace h178 := bool_f h178
            replace hm := ite_f hm h178
            refine TO.go rfl rfl rfl (Does.not (.inl ⟨_, _, rfl, rfl, by rw [h178]; rfl⟩)) fun _ => ?_
            refine TO.go rfl rfl rfl (Does.not (.inl ⟨_, _, rfl, rfl, by rw [h178]; rfl⟩)) fun _ => ?_
            refine TO.go rfl rfl rfl (Does.pickF (v := .bool false) rfl rfl h178 rfl) fun _ => ?_
            refine TO.end rfl ?_
            exact TQ.then (T.sub (h140 false hm) (Sub.cons rfl (Sub.cons rfl (Sub.cons rfl (Sub.nil _)))) (fun w h => (((((h).ent (Ent.copy 0 rfl)).ent (Ent.take 1 rfl)).ent (Ent.drop _ _)).ent (Ent.take 1 rfl)).ent (Ent.take 1 rfl)))
    · intro h127
      refine T.region rfl ?_
      refine TO.go rfl rfl rfl (Does.fieldAddr (o' := 3) rfl rfl fo_40_3 rfl) fun _ => ?_
      refine TO.go rfl rfl rfl (Does.loadPts (k := 0) (v := .slice a101 v0.L.length n102) rfl rfl sc_23 rfl rfl) fun _ => ?_
      refine TO.go rfl rfl rfl (Does.lenSl rfl rfl sl_23) fun _ => ?_
      refine TO.go rfl rfl rfl (Does.bin (v := .bool (decide (0 < (v0.L.length : Int)))) (vy := .int .i64 0) rfl rfl rfl g_int b_gt) fun _ => ?_
      refine TO.go rfl rfl rfl (Does.move rfl rfl) fun _ => ?_
      by_cases h181 : (decide (0 < (v0.L.length : Int))) = true
      · replace hm := ite_t hm h181
        refine TO.go rfl rfl rfl (Does.move (.inl ⟨_, _, rfl, rfl, by rw [h181]; rfl⟩) rfl) fun _ => ?_
        refine TO.go rfl rfl rfl (Does.bin (v := .bool (v112.Imm != 3)) (vy := .int .i64 3) (.inl ⟨_, _, rfl, rfl, by rw [h181]; rfl⟩) rfl rfl g_int b_ne) fun _ => ?_
        refine TO.go rfl rfl rfl (Does.pickT rfl rfl h181 rfl) fun _ => ?_
        refine TO.go rfl rfl rfl (Does.move rfl rfl) fun _ => ?_
        by_cases h182 : (v112.Imm != 3) = true
        · replace hm := ite_t hm h182
          refine TO.go rfl rfl rfl (Does.not (.inl ⟨_, _, rfl, rfl, by rw [h182]; rfl⟩)) fun _ => ?_
          refine TO.go rfl rfl rfl (Does.not (.inl ⟨_, _, rfl, rfl, by rw [h182]; rfl⟩)) fun _ => ?_
          refine TO.go rfl rfl rfl (Does.not (.inl ⟨_, _, rfl, rfl, by rw [h182]; rfl⟩)) fun _ => ?_
          refine TO.go rfl rfl rfl (Does.not (.inl ⟨_, _, rfl, rfl, by rw [h182]; rfl⟩)) fun _ => ?_
          refine TO.go rfl rfl rfl (Does.pickT (v := .bool true) rfl rfl h182 rfl) fun _ => ?_
          refine TO.end rfl ?_
          exact TQ.then (T.sub (h127 true hm) (Sub.cons rfl (Sub.cons rfl (Sub.cons rfl (Sub.nil _)))) (fun w h => (((((h).ent (Ent.copy 1 rfl)).ent (Ent.take 2 rfl)).ent (Ent.drop _ _)).ent (Ent.take 1 rfl)).ent (Ent.take 1 rfl)))
        · replace h182 := bool_f h182
          replace hm := ite_f hm h182
          refine TO.go rfl rfl rfl (Does.fieldAddr (o' := 3) (.inl ⟨_, _, rfl, rfl, by rw [h182]; rfl⟩) rfl fo_40_3 rfl) fun _ => ?_
          refine TO.go rfl rfl rfl (Does.loadPts (k := 0) (v := .slice a101 v0.L.length n102) (.inl ⟨_, _, rfl, rfl, by rw [h182]; rfl⟩) rfl sc_23 rfl rfl) fun _ => ?_
          refine TO.go rfl rfl rfl (Does.lenSl (.inl ⟨_, _, rfl, rfl, by rw [h182]; rfl⟩) rfl sl_23) fun _ => ?_
          refine TO.go rfl rfl rfl (Does.bin (v := .bool (decide (10000 < (v0.L.length : Int)))) (vy := .int .i64 10000) (.inl ⟨_, _, rfl, rfl, by rw [h182]; rfl⟩) rfl rfl g_int b_gt) fun _ => ?_
          refine TO.go rfl rfl rfl (Does.pickF rfl rfl h182 rfl) fun _ => ?_
          refine TO.end rfl ?_
          exact TQ.then (T.sub (h127 (decide (10000 < (v0.L.length : Int))) hm) (Sub.cons rfl (Sub.cons rfl (Sub.cons rfl (Sub.nil _)))) (fun w h => (((((h).ent (Ent.copy 1 rfl)).ent (Ent.take 2 rfl)).ent (Ent.drop _ _)).ent (Ent.take 1 rfl)).ent (Ent.take 1 rfl)))
      · replace h181 := bool_f h181
        replace hm := ite_f hm h181
        refine TO.go rfl rfl rfl (Does.not (.inl ⟨_, _, rfl, rfl, by rw [h181]; rfl⟩)) fun _ => ?_
        refine TO.go rfl rfl rfl (Does.not (.inl ⟨_, _, rfl, rfl, by rw [h181]; rfl⟩)) fun _ => ?_
        refine TO.go rfl rfl rfl (Does.pickF (v := .bool false) rfl rfl h181 rfl) fun _ => ?_
        refine TO.go rfl rfl rfl (Does.move rfl rfl) fun _ => ?_
        refine TO.go rfl rfl rfl (Does.fieldAddr (o' := 3) (.inl ⟨_, _, rfl, rfl, rfl⟩) rfl fo_40_3 rfl) fun _ => ?_
        refine TO.go rfl rfl rfl (Does.loadPts (k := 0) (v := .slice a101 v0.L.length n102) (.inl ⟨_, _, rfl, rfl, rfl⟩) rfl sc_23 rfl rfl) fun _ => ?_
        refine TO.go rfl rfl rfl (Does.lenSl (.inl ⟨_, _, rfl, rfl, rfl⟩) rfl sl_23) fun _ => ?_
        refine TO.go rfl rfl rfl (Does.bin (v := .bool (decide (10000 < (v0.L.length : Int)))) (vy := .int .i64 10000) (.inl ⟨_, _, rfl, rfl, rfl⟩) rfl rfl g_int b_gt) fun _ => ?_
        refine TO.go rfl rfl rfl (Does.pickF rfl rfl rfl rfl) fun _ => ?_
        refine TO.end rfl ?_
        exact TQ.then (T.sub (h127 (decide (10000 < (v0.L.length : Int))) hm) (Sub.cons rfl (Sub.cons rfl (Sub.cons rfl (Sub.nil _)))) (fun w h => (((((h).ent (Ent.copy 1 rfl)).ent (Ent.take 2 rfl)).ent (Ent.drop _ _)).ent (Ent.take 1 rfl)).ent (Ent.take 1 rfl)))

/-- (*creel/ctrl.Control).Top -/
def f89.f (v0 : ctrl_Control) : Option (ctrl_Frame × Bool) :=
  (if ((v0.frames.length : Int) == 0) = true then some (({ Op := (0 : UInt8), Results := ([] : List UInt8), Height := 0, Dead := false } : ctrl_Frame), false) else ((at? v0.frames (IntKind.i64.wrap ((v0.frames.length : Int) - 1))).bind fun v147 => some (v147, true)))
set_option maxRecDepth 20000 in
set_option maxHeartbeats 1000000 in
theorem f89.ok {W w : World} {R : List Assn} (v0 : ctrl_Control) (b0 : Nat) {r : ctrl_Frame × Bool} (hm : f89.f v0 = some r) (hs : St W w (ptr ctrl_Control.rep b0 v0 :: R)) :
    Calls Try.prog 89 #[.pointer (some ⟨b0, 0, none⟩)] w (fun e w' => ∃ x : Unit, e = .returned (.tuple #[.agg #[.int .u8 r.1.Op.toNat, .string ⟨r.1.Results.toArray⟩, .int .i64 r.1.Height, .bool r.1.Dead], .bool r.2]) ∧ St W w' (ptr ctrl_Control.rep b0 v0 :: R)) := by
  unfold f89.f at hm
  refine calls_sym (vs := [.pointer (some ⟨b0, 0, none⟩)]) Try.func89 rfl rfl hs ?_
  refine T.seq rfl ?_
  refine T.region rfl ?_
  refine TO.go rfl rfl rfl (Does.alloc rfl zn_136) fun b101 => ?_
  refine TO.ent (L' := pts b101 [.int .u8 (0 : UInt8).toNat, .string ⟨([] : List UInt8).toArray⟩, .int .i64 0, .bool false] :: ptr ctrl_Control.rep b0 v0 :: R) (fun w h => h) ?_
  refine TO.go rfl rfl rfl (Does.assign (v := .bool false) rfl rfl) fun _ => ?_
  refine TO.end rfl ?_
  refine TQ.then ?_
  refine T.seq rfl ?_
  refine T.seq rfl ?_
  refine T.region rfl ?_
  refine TO.go rfl rfl rfl (Does.move rfl rfl) fun _ => ?_
  refine TO.go rfl rfl rfl (Does.nilCheck rfl rfl) fun _ => ?_
  refine TO.go rfl rfl rfl (Does.fieldAddr (o' := 0) rfl rfl fo_113_0 rfl) fun _ => ?_
  refine TO.st (X := List Value) (p := fun _ => True) (fun w h => let ⟨cs, h⟩ := open_ptr (h.ent (Ent.take 1 rfl)); ⟨cs, trivial, h⟩) ?_
  intro cs115 _
  refine TO.st (fun w h => ctrl_Control.open h) ?_
  rintro ⟨a110, n111, b113⟩ rfl
  refine TO.go rfl rfl rfl (Does.loadPts (k := 2) (v := .slice a110 v0.frames.length n111) rfl rfl sc_111 rfl rfl) fun _ => ?_
  refine TO.go rfl rfl rfl (Does.lenSl rfl rfl sl_111) fun _ => ?_
  refine TO.go rfl rfl rfl (Does.bin (v := .bool ((v0.frames.length : Int) == 0)) (vy := .int .i64 0) rfl rfl rfl g_int b_eq) fun _ => ?_
  refine TO.end rfl ?_
  refine TQ.then ?_
  refine T.cond rfl (b := ((v0.frames.length : Int) == 0)) rfl (fun h116 => ?_) (fun h116 => ?_)
  · replace hm := ite_t hm h116
    refine T.seq rfl ?_
    refine T.region rfl ?_
    refine TO.go rfl rfl rfl (Does.build (v := .agg #[.int .u8 (0 : UInt8).toNat, .string ⟨([] : List UInt8).toArray⟩, .int .i64 0, .bool false]) (vs := []) rfl rfl (fun w => by kernel_rfl)) fun _ => ?_
    refine TO.go0 rfl rfl (Does.storePts (k := 3) (vs := [.int .u8 (0 : UInt8).toNat, .string ⟨([] : List UInt8).toArray⟩, .int .i64 0, .bool false]) (cs' := [.int .u8 (0 : UInt8).toNat, .string ⟨([] : List UInt8).toArray⟩, .int .i64 0, .bool false]) rfl rfl rfl rfl rfl cn_136 rfl rfl rfl rfl) fun _ => ?_
    refine TO.ent (L' := ptr opstack_Stack.rep b113 v0.Stack :: own ctrl_Frame.rep a110 n111 v0.frames :: pts b0 [.slice a110 v0.frames.length n111, .pointer (some ⟨b113, 0, none⟩)] :: pts b101 [.int .u8 (0 : UInt8).toNat, .string ⟨([] : List UInt8).toArray⟩, .int .i64 0, .bool false] :: R) (fun w h => h) ?_
    refine TO.go rfl rfl rfl (Does.assign (v := .bool false) rfl rfl) fun _ => ?_
    refine TO.end rfl ?_
    refine TQ.then ?_
    refine T.ret rfl ?_
    refine TQ.passThenRet ?_
    refine TQ.result (.inl rfl) rfl (Res.cellN (k := 3) rfl rfl ag_136 (Res.tmp rfl Res.nil)) rfl (fun w h => ?_)
    cases hm
    exact ⟨(), rfl, ((shut_ptr (ctrl_Control.shut (x := v0) (a110, n111, b113) ((((h).ent (Ent.take 2 rfl)).ent (Ent.take 2 rfl)).ent (Ent.take 2 rfl)))).ent (Ent.take 1 rfl)).ent (Ent.drop _ _)⟩
  · replace hm := ite_f hm h116
    refine T.skip rfl ?_
    refine TQ.then ?_
    refine T.seq rfl ?_
    refine T.draw [0, 1, 2, 3, 4, 5, 6, 7, 8, 9, 10, 11] rfl mixed ?_
    refine RA.quiet (i := 0) (v := .pointer (some ⟨b0, 0, none⟩)) PendOK.nil rfl rfl rfl rfl rfl rfl (Does.move rfl rfl) fun h137 => ?_
    refine RA.quiet (i := 1) (v := .pointer (some ⟨b0, 0, none⟩)) h137 rfl rfl rfl rfl rfl rfl (Does.nilCheck rfl rfl) fun h138 => ?_
    refine RA.quiet (i := 2) (v := .pointer (some ⟨b0, 0, none⟩)) h138 rfl rfl rfl rfl rfl rfl (Does.fieldAddr (o' := 0) rfl rfl fo_113_0 rfl) fun h139 => ?_
    refine RA.quiet (i := 3) (v := .slice a110 v0.frames.length n111) h139 rfl rfl rfl rfl rfl rfl (Does.loadPts (k := 2) (v := .slice a110 v0.frames.length n111) rfl rfl sc_111 rfl rfl) fun h140 => ?_
    refine RA.quiet (i := 4) (v := .pointer (some ⟨b0, 0, none⟩)) h140 rfl rfl rfl rfl rfl rfl (Does.move rfl rfl) fun h141 => ?_
    refine RA.quiet (i := 5) (v := .pointer (some ⟨b0, 0, none⟩)) h141 rfl rfl rfl rfl rfl rfl (Does.nilCheck rfl rfl) fun h142 => ?_
    refine RA.quiet (i := 6) (v := .pointer (some ⟨b0, 0, none⟩)) h142 rfl rfl rfl rfl rfl rfl (Does.fieldAddr (o' := 0) rfl rfl fo_113_0 rfl) fun h143 => ?_
    refine RA.quiet (i := 7) (v := .slice a110 v0.frames.length n111) h143 rfl rfl rfl rfl rfl rfl (Does.loadPts (k := 2) (v := .slice a110 v0.frames.length n111) rfl rfl sc_111 rfl rfl) fun h144 => ?_
    refine RA.quiet (i := 8) (v := .int .i64 (v0.frames.length : Int)) h144 rfl rfl rfl rfl rfl rfl (Does.lenSl rfl rfl sl_111) fun h145 => ?_
    refine RA.quiet (i := 9) (v := .int .i64 (IntKind.i64.wrap ((v0.frames.length : Int) - 1))) h145 rfl rfl rfl rfl rfl rfl (Does.bin (v := .int .i64 (IntKind.i64.wrap ((v0.frames.length : Int) - 1))) (vy := .int .i64 1) rfl rfl rfl g_int b_sub) fun h146 => ?_
    obtain ⟨v147, h148, hm⟩ := bind_o hm
    refine RA.quiet (i := 10) (v := .pointer (some (adA a110 ((((IntKind.i64.wrap ((v0.frames.length : Int) - 1))).toNat) * ctrl_Frame.rep.n) 0))) h146 rfl rfl rfl rfl rfl rfl (Does.indexSl (r := ctrl_Frame.rep) (k := 1) rfl rfl rfl sl_111 rfl Arrd.own h148) fun h149 => ?_
    refine RA.quiet (i := 11) (v := .agg #[.int .u8 v147.Op.toNat, .string ⟨v147.Results.toArray⟩, .int .i64 v147.Height, .bool v147.Dead]) h149 rfl rfl rfl rfl rfl rfl (Does.loadFlatN (r := ctrl_Frame.rep) (k := 1) (f := 0) (vs := [.int .u8 v147.Op.toNat, .string ⟨v147.Results.toArray⟩, .int .i64 v147.Height, .bool v147.Dead]) rfl rfl ag_136 rfl Arrd.own (at?_out h148).2.2 rfl rfl) fun h150 => ?_
    refine RA.eff (k := 12) (pend' := []) (by kernel_rfl) h150 rfl (.inr ⟨rfl, fun _ => rfl⟩) rfl (by kernel_rfl) (Does.storePts (k := 3) (vs := [.int .u8 v147.Op.toNat, .string ⟨v147.Results.toArray⟩, .int .i64 v147.Height, .bool v147.Dead]) (cs' := [.int .u8 v147.Op.toNat, .string ⟨v147.Results.toArray⟩, .int .i64 v147.Height, .bool v147.Dead]) rfl rfl rfl rfl rfl cn_136 rfl rfl rfl rfl) rfl (fun _ => (fun _ h => by cases h)) (fun _ h151 => ?_)
    refine RA.eff (k := 13) (pend' := []) (by kernel_rfl) h151 rfl (.inl ⟨_, rfl, rfl, fun _ => rfl⟩) rfl (by kernel_rfl) (Does.assign (v := .bool true) rfl rfl) rfl (fun _ => (fun _ h => by cases h)) (fun _ h152 => ?_)
    refine RA.done (by kernel_rfl) h152 rfl ?_
    refine TQ.then ?_
    refine T.ret rfl ?_
    refine TQ.result (.inl rfl) rfl (Res.cellN (k := 3) rfl rfl ag_136 (Res.tmp rfl Res.nil)) rfl (fun w h => ?_)
    cases hm
    exact ⟨(), rfl, ((shut_ptr (ctrl_Control.shut (x := v0) (a110, n111, b113) ((((h).ent (Ent.take 2 rfl)).ent (Ent.take 2 rfl)).ent (Ent.take 2 rfl)))).ent (Ent.take 1 rfl)).ent (Ent.drop _ _)⟩

/-- (*creel/opstack.Stack).Pop -/
def f90.f (v0 : opstack_Stack) (v1 : Int) (v2 : Bool) : Option (UInt8 × Int × opstack_Stack) :=
  (if (decide ((v0.list.length : Int) ≤ (if 0 > v1 then 0 else v1))) = true then (if v2 = true then some ((0 : UInt8), 0, v0) else some ((0 : UInt8), 21, v0)) else ((at? v0.list (IntKind.i64.wrap ((v0.list.length : Int) - 1))).bind fun v143 => ((sl? v0.list (0 : Int) (IntKind.i64.wrap ((v0.list.length : Int) - 1))).bind fun v180 => some (v143, 0, ({ list := v180 } : opstack_Stack)))))
set_option maxRecDepth 20000 in
set_option maxHeartbeats 1000000 in
theorem f90.ok {W w : World} {R : List Assn} (v0 : opstack_Stack) (b0 : Nat) (v1 : Int) (v2 : Bool) {r : UInt8 × Int × opstack_Stack} (hm : f90.f v0 v1 v2 = some r) (hs : St W w (ptr opstack_Stack.rep b0 v0 :: R)) :
    Calls Try.prog 90 #[.pointer (some ⟨b0, 0, none⟩), .int .i64 v1, .bool v2] w (fun e w' => ∃ x : Unit, e = .returned (.tuple #[.int .u8 r.1.toNat, .int .i64 r.2.1]) ∧ St W w' (ptr opstack_Stack.rep b0 r.2.2 :: R)) := by
  unfold f90.f at hm
  refine calls_sym (vs := [.pointer (some ⟨b0, 0, none⟩), .int .i64 v1, .bool v2]) Try.func90 rfl rfl hs ?_
  refine T.seq rfl ?_
  refine T.region rfl ?_
  refine TO.go rfl rfl rfl (Does.assign (v := .int .u8 (0 : UInt8).toNat) rfl rfl) fun _ => ?_
  refine TO.go rfl rfl rfl (Does.assign (v := .int .i64 0) rfl rfl) fun _ => ?_
  refine TO.end rfl ?_
  refine TQ.then ?_
  refine T.seq rfl ?_
  refine T.seq rfl ?_
  refine T.region rfl ?_
  refine TO.go rfl rfl rfl (Does.move rfl rfl) fun _ => ?_
  refine TO.go rfl rfl rfl (Does.nilCheck rfl rfl) fun _ => ?_
  refine TO.go rfl rfl rfl (Does.fieldAddr (o' := 0) rfl rfl fo_110_0 rfl) fun _ => ?_
  refine TO.st (X := List Value) (p := fun _ => True) (fun w h => let ⟨cs, h⟩ := open_ptr (h); ⟨cs, trivial, h⟩) ?_
  intro cs110 _
  refine TO.st (fun w h => opstack_Stack.open h) ?_
  rintro ⟨a107, n108⟩ rfl
  refine TO.go rfl rfl rfl (Does.loadPts (k := 1) (v := .slice a107 v0.list.length n108) rfl rfl sc_107 rfl rfl) fun _ => ?_
  refine TO.go rfl rfl rfl (Does.lenSl rfl rfl sl_107) fun _ => ?_
  refine TO.go rfl rfl rfl (Does.move rfl rfl) fun _ => ?_
  refine TO.go rfl rfl rfl (Does.max2 rfl rfl rfl) fun _ => ?_
  refine TO.go rfl rfl rfl (Does.bin (v := .bool (decide ((v0.list.length : Int) ≤ (if 0 > v1 then 0 else v1)))) rfl rfl rfl g_int b_le) fun _ => ?_
  refine TO.end rfl ?_
  refine TQ.then ?_
  refine T.cond rfl (b := (decide ((v0.list.length : Int) ≤ (if 0 > v1 then 0 else v1)))) rfl (fun h111 => ?_) (fun h111 => ?_)
  · replace hm := ite_t hm h111
    refine T.seq rfl ?_
    refine T.seq rfl ?_
    refine T.region rfl ?_
    refine TO.go rfl rfl rfl (Does.move rfl rfl) fun _ => ?_
    refine TO.end rfl ?_
    refine TQ.then ?_
    refine T.cond rfl (b := v2) rfl (fun h113 => ?_) (fun h113 => ?_)
    · replace hm := ite_t hm h113
      refine T.seq rfl ?_
      refine T.region rfl ?_
      refine TO.go rfl rfl rfl (Does.assign (v := .int .u8 (0 : UInt8).toNat) rfl rfl) fun _ => ?_
      refine TO.go rfl rfl rfl (Does.assign (v := .int .i64 0) rfl rfl) fun _ => ?_
      refine TO.end rfl ?_
      refine TQ.then ?_
      refine T.ret rfl ?_
      refine TQ.passThenRet ?_
      refine TQ.passThenRet ?_
      refine TQ.result (.inl rfl) rfl (Res.tmp rfl (Res.tmp rfl Res.nil)) rfl (fun w h => ?_)
      cases hm
      exact ⟨(), rfl, shut_ptr (opstack_Stack.shut (x := v0) (a107, n108) (((h).ent (Ent.take 1 rfl)).ent (Ent.take 1 rfl)))⟩
    · replace hm := ite_f hm h113
      refine T.skip rfl ?_
      refine TQ.then ?_
      refine T.seq rfl ?_
      refine T.region rfl ?_
      refine TO.go rfl rfl rfl (Does.assign (v := .int .u8 (0 : UInt8).toNat) rfl rfl) fun _ => ?_
      refine TO.go rfl rfl rfl (Does.assign (v := .int .i64 21) rfl rfl) fun _ => ?_
      refine TO.end rfl ?_
      refine TQ.then ?_
      refine T.ret rfl ?_
      refine TQ.passThenRet ?_
      refine TQ.result (.inl rfl) rfl (Res.tmp rfl (Res.tmp rfl Res.nil)) rfl (fun w h => ?_)
      cases hm
      exact ⟨(), rfl, shut_ptr (opstack_Stack.shut (x := v0) (a107, n108) (((h).ent (Ent.take 1 rfl)).ent (Ent.take 1 rfl)))⟩
  · replace hm := ite_f hm h111
    refine T.skip rfl ?_
    refine TQ.then ?_
    refine T.seq rfl ?_
    refine T.draw [0, 1, 2, 3, 4, 5, 6, 7, 8, 9, 10, 11] rfl mixed ?_
    refine RA.quiet (i := 0) (v := .pointer (some ⟨b0, 0, none⟩)) PendOK.nil rfl rfl rfl rfl rfl rfl (Does.move rfl rfl) fun h133 => ?_
    refine RA.quiet (i := 1) (v := .pointer (some ⟨b0, 0, none⟩)) h133 rfl rfl rfl rfl rfl rfl (Does.nilCheck rfl rfl) fun h134 => ?_
    refine RA.quiet (i := 2) (v := .pointer (some ⟨b0, 0, none⟩)) h134 rfl rfl rfl rfl rfl rfl (Does.fieldAddr (o' := 0) rfl rfl fo_110_0 rfl) fun h135 => ?_
    refine RA.quiet (i := 3) (v := .slice a107 v0.list.length n108) h135 rfl rfl rfl rfl rfl rfl (Does.loadPts (k := 1) (v := .slice a107 v0.list.length n108) rfl rfl sc_107 rfl rfl) fun h136 => ?_
    refine RA.quiet (i := 4) (v := .pointer (some ⟨b0, 0, none⟩)) h136 rfl rfl rfl rfl rfl rfl (Does.move rfl rfl) fun h137 => ?_
    refine RA.quiet (i := 5) (v := .pointer (some ⟨b0, 0, none⟩)) h137 rfl rfl rfl rfl rfl rfl (Does.nilCheck rfl rfl) fun h138 => ?_
    refine RA.quiet (i := 6) (v := .pointer (some ⟨b0, 0, none⟩)) h138 rfl rfl rfl rfl rfl rfl (Does.fieldAddr (o' := 0) rfl rfl fo_110_0 rfl) fun h139 => ?_
    refine RA.quiet (i := 7) (v := .slice a107 v0.list.length n108) h139 rfl rfl rfl rfl rfl rfl (Does.loadPts (k := 1) (v := .slice a107 v0.list.length n108) rfl rfl sc_107 rfl rfl) fun h140 => ?_
    refine RA.quiet (i := 8) (v := .int .i64 (v0.list.length : Int)) h140 rfl rfl rfl rfl rfl rfl (Does.lenSl rfl rfl sl_107) fun h141 => ?_
    refine RA.quiet (i := 9) (v := .int .i64 (IntKind.i64.wrap ((v0.list.length : Int) - 1))) h141 rfl rfl rfl rfl rfl rfl (Does.bin (v := .int .i64 (IntKind.i64.wrap ((v0.list.length : Int) - 1))) (vy := .int .i64 1) rfl rfl rfl g_int b_sub) fun h142 => ?_
    obtain ⟨v143, h144, hm⟩ := bind_o hm
    refine RA.quiet (i := 10) (v := .pointer (some (adA a107 ((((IntKind.i64.wrap ((v0.list.length : Int) - 1))).toNat) * rU8.n) 0))) h142 rfl rfl rfl rfl rfl rfl (Does.indexSl (r := rU8) (k := 0) rfl rfl rfl sl_107 rfl Arrd.own h144) fun h145 => ?_
    refine RA.quiet (i := 11) (v := .int .u8 v143.toNat) h145 rfl rfl rfl rfl rfl rfl (Does.loadFlat (r := rU8) (k := 0) (f := 0) (v := .int .u8 v143.toNat) rfl rfl sc_5 rfl Arrd.own (at?_out h144).2.2 rfl) fun h146 => ?_
    refine RA.eff (k := 12) (pend' := []) (by kernel_rfl) h146 rfl (.inl ⟨_, rfl, rfl, fun _ => rfl⟩) rfl (by kernel_rfl) (Does.assign rfl rfl) rfl (fun _ => (fun _ h => by cases h)) (fun _ h147 => ?_)
    refine RA.done (by kernel_rfl) h147 rfl ?_
    refine TQ.then ?_
    refine T.seq rfl ?_
    refine T.draw [0, 1, 2, 3, 4, 5, 6, 7, 8, 9, 10, 12, 13] rfl mixed ?_
    refine RA.quiet (i := 0) (v := .pointer (some ⟨b0, 0, none⟩)) PendOK.nil rfl rfl rfl rfl rfl rfl (Does.move rfl rfl) fun h169 => ?_
    refine RA.quiet (i := 1) (v := .pointer (some ⟨b0, 0, none⟩)) h169 rfl rfl rfl rfl rfl rfl (Does.move rfl rfl) fun h170 => ?_
    refine RA.quiet (i := 2) (v := .pointer (some ⟨b0, 0, none⟩)) h170 rfl rfl rfl rfl rfl rfl (Does.nilCheck rfl rfl) fun h171 => ?_
    refine RA.quiet (i := 3) (v := .pointer (some ⟨b0, 0, none⟩)) h171 rfl rfl rfl rfl rfl rfl (Does.fieldAddr (o' := 0) rfl rfl fo_110_0 rfl) fun h172 => ?_
    refine RA.quiet (i := 4) (v := .slice a107 v0.list.length n108) h172 rfl rfl rfl rfl rfl rfl (Does.loadPts (k := 1) (v := .slice a107 v0.list.length n108) rfl rfl sc_107 rfl rfl) fun h173 => ?_
    refine RA.quiet (i := 5) (v := .pointer (some ⟨b0, 0, none⟩)) h173 rfl rfl rfl rfl rfl rfl (Does.move rfl rfl) fun h174 => ?_
    refine RA.quiet (i := 6) (v := .pointer (some ⟨b0, 0, none⟩)) h174 rfl rfl rfl rfl rfl rfl (Does.nilCheck rfl rfl) fun h175 => ?_
    refine RA.quiet (i := 7) (v := .pointer (some ⟨b0, 0, none⟩)) h175 rfl rfl rfl rfl rfl rfl (Does.fieldAddr (o' := 0) rfl rfl fo_110_0 rfl) fun h176 => ?_
    refine RA.quiet (i := 8) (v := .slice a107 v0.list.length n108) h176 rfl rfl rfl rfl rfl rfl (Does.loadPts (k := 1) (v := .slice a107 v0.list.length n108) rfl rfl sc_107 rfl rfl) fun h177 => ?_
    refine RA.quiet (i := 9) (v := .int .i64 (v0.list.length : Int)) h177 rfl rfl rfl rfl rfl rfl (Does.lenSl rfl rfl sl_107) fun h178 => ?_
    refine RA.quiet (i := 10) (v := .int .i64 (IntKind.i64.wrap ((v0.list.length : Int) - 1))) h178 rfl rfl rfl rfl rfl rfl (Does.bin (v := .int .i64 (IntKind.i64.wrap ((v0.list.length : Int) - 1))) (vy := .int .i64 1) rfl rfl rfl g_int b_sub) fun h179 => ?_
    obtain ⟨v180, h181, hm⟩ := bind_o hm
    refine RA.eff (k := 11) (pend' := [(9, .int .i64 (v0.list.length : Int)), (8, .slice a107 v0.list.length n108), (7, .pointer (some ⟨b0, 0, none⟩)), (6, .pointer (some ⟨b0, 0, none⟩)), (5, .pointer (some ⟨b0, 0, none⟩)), (3, .pointer (some ⟨b0, 0, none⟩)), (2, .pointer (some ⟨b0, 0, none⟩)), (1, .pointer (some ⟨b0, 0, none⟩)), (0, .pointer (some ⟨b0, 0, none⟩))]) (by kernel_rfl) h179 rfl (.inl ⟨_, rfl, rfl, fun _ => rfl⟩) rfl (by kernel_rfl) (Does.sliceOwn (r := rU8) (k := 0) rfl rfl rfl rfl sl_107 rfl h181) rfl (fun _ => (List.forall_mem_cons.2 ⟨⟨_, rfl, Does.lenSl rfl rfl sl_107⟩, (List.forall_mem_cons.2 ⟨⟨_, rfl, Does.loadPts (k := 1) (v := .slice a107 v0.list.length n108) rfl rfl sc_107 rfl rfl⟩, (List.forall_mem_cons.2 ⟨⟨_, rfl, Does.fieldAddr (o' := 0) rfl rfl fo_110_0 rfl⟩, (List.forall_mem_cons.2 ⟨⟨_, rfl, Does.nilCheck rfl rfl⟩, (List.forall_mem_cons.2 ⟨⟨_, rfl, Does.move rfl rfl⟩, (List.forall_mem_cons.2 ⟨⟨_, rfl, Does.fieldAddr (o' := 0) rfl rfl fo_110_0 rfl⟩, (List.forall_mem_cons.2 ⟨⟨_, rfl, Does.nilCheck rfl rfl⟩, (List.forall_mem_cons.2 ⟨⟨_, rfl, Does.move rfl rfl⟩, (List.forall_mem_cons.2 ⟨⟨_, rfl, Does.move rfl rfl⟩, (fun _ h => by cases h)⟩)⟩)⟩)⟩)⟩)⟩)⟩)⟩)⟩)) (fun _ h182 => ?_)
    refine RA.quiet (i := 12) (v := .pointer (some ⟨b0, 0, none⟩)) h182 rfl rfl rfl rfl rfl rfl (Does.nilCheck rfl rfl) fun h183 => ?_
    refine RA.quiet (i := 13) (v := .pointer (some ⟨b0, 0, none⟩)) h183 rfl rfl rfl rfl rfl rfl (Does.fieldAddr (o' := 0) rfl rfl fo_110_0 rfl) fun h184 => ?_
    refine RA.eff (k := 14) (pend' := [(12, .pointer (some ⟨b0, 0, none⟩))]) (by kernel_rfl) h184 rfl (.inr ⟨rfl, fun _ => rfl⟩) rfl (by kernel_rfl) (Does.storePts (k := 1) (vs := [.slice (subA a107 ((0 : Int)).toNat n108 rU8.n) v180.length (n108 - ((0 : Int)).toNat)]) (cs' := [.slice (subA a107 ((0 : Int)).toNat n108 rU8.n) v180.length (n108 - ((0 : Int)).toNat)]) rfl rfl rfl rfl rfl cn_107 rfl rfl rfl rfl) rfl (fun _ => (List.forall_mem_cons.2 ⟨⟨_, rfl, Does.nilCheck rfl rfl⟩, (fun _ h => by cases h)⟩)) (fun _ h185 => ?_)
    refine RA.done (by kernel_rfl) h185 rfl ?_
    refine TQ.then ?_
    refine T.seq rfl ?_
    refine T.region rfl ?_
    refine TO.go rfl rfl rfl (Does.move rfl rfl) fun _ => ?_
    refine TO.go rfl rfl rfl (Does.assign rfl rfl) fun _ => ?_
    refine TO.go rfl rfl rfl (Does.assign (v := .int .i64 0) rfl rfl) fun _ => ?_
    refine TO.end rfl ?_
    refine TQ.then ?_
    refine T.ret rfl ?_
    refine TQ.result (.inl rfl) rfl (Res.tmp rfl (Res.tmp rfl Res.nil)) rfl (fun w h => ?_)
    cases hm
    exact ⟨(), rfl, shut_ptr (opstack_Stack.shut (x := ({ list := v180 } : opstack_Stack)) ((subA a107 ((0 : Int)).toNat n108 rU8.n), (n108 - ((0 : Int)).toNat)) (((h).ent (Ent.take 1 rfl)).ent (Ent.take 1 rfl)))⟩

def f91.j1 (v101 : UInt8 × Int × opstack_Stack) (v112 : Bool) : Option (UInt8 × Int × opstack_Stack) :=
  (if v112 = true then some (v101.1, 0, v101.2.2) else some ((0 : UInt8), 21, v101.2.2))
/-- (*creel/opstack.Stack).Want -/
def f91.f (v0 : opstack_Stack) (v1 : UInt8) (v2 : Int) (v3 : Bool) : Option (UInt8 × Int × opstack_Stack) :=
  ((f90.f v0 v2 v3).bind fun v101 => (if (v101.2.1 != 0) = true then some ((0 : UInt8), v101.2.1, v101.2.2) else (if (v101.1 == (0 : UInt8)) = true then some (v1, 0, v101.2.2) else (if (v1 == (0 : UInt8)) = true then f91.j1 v101 true else f91.j1 v101 (v101.1 == v1)))))
set_option maxRecDepth 20000 in
set_option maxHeartbeats 1000000 in
theorem f91.ok {W w : World} {R : List Assn} (v0 : opstack_Stack) (b0 : Nat) (v1 : UInt8) (v2 : Int) (v3 : Bool) {r : UInt8 × Int × opstack_Stack} (hm : f91.f v0 v1 v2 v3 = some r) (hs : St W w (ptr opstack_Stack.rep b0 v0 :: R)) :
    Calls Try.prog 91 #[.pointer (some ⟨b0, 0, none⟩), .int .u8 v1.toNat, .int .i64 v2, .bool v3] w (fun e w' => ∃ x : Unit, e = .returned (.tuple #[.int .u8 r.1.toNat, .int .i64 r.2.1]) ∧ St W w' (ptr opstack_Stack.rep b0 r.2.2 :: R)) := by
  unfold f91.f at hm
  refine calls_sym (vs := [.pointer (some ⟨b0, 0, none⟩), .int .u8 v1.toNat, .int .i64 v2, .bool v3]) Try.func91 rfl rfl hs ?_
  refine T.seq rfl ?_
  refine T.region rfl ?_
  refine TO.go rfl rfl rfl (Does.assign (v := .int .u8 (0 : UInt8).toNat) rfl rfl) fun _ => ?_
  refine TO.go rfl rfl rfl (Does.assign (v := .int .i64 0) rfl rfl) fun _ => ?_
  refine TO.end rfl ?_
  refine TQ.then ?_
  refine T.seq rfl ?_
  refine T.region rfl ?_
  refine TO.go rfl rfl rfl (Does.move rfl rfl) fun _ => ?_
  refine TO.go rfl rfl rfl (Does.move rfl rfl) fun _ => ?_
  refine TO.go rfl rfl rfl (Does.move rfl rfl) fun _ => ?_
  obtain ⟨v101, h102, hm⟩ := bind_o hm
  refine TO.go rfl rfl rfl (Does.call (vs := [.pointer (some ⟨b0, 0, none⟩), .int .i64 v2, .bool v3]) rfl co_90 rfl (fun w h => f90.ok v0 b0 v2 v3 h102 (h))) fun _ => ?_
  refine TO.ent (L' := ptr opstack_Stack.rep b0 v101.2.2 :: R) (fun w h => h) ?_
  refine TO.go rfl rfl rfl (Does.move rfl rfl) fun _ => ?_
  refine TO.go rfl rfl rfl (Does.extract rfl rfl rfl) fun _ => ?_
  refine TO.go rfl rfl rfl (Does.extract rfl rfl rfl) fun _ => ?_
  refine TO.go rfl rfl rfl (Does.assign rfl rfl) fun _ => ?_
  refine TO.go rfl rfl rfl (Does.assign rfl rfl) fun _ => ?_
  refine TO.end rfl ?_
  refine TQ.then ?_
  refine T.seq rfl ?_
  refine T.block rfl ?_
  refine T.seq rfl ?_
  refine T.region rfl ?_
  refine TO.go rfl rfl rfl (Does.move rfl rfl) fun _ => ?_
  refine TO.go rfl rfl rfl (Does.bin (v := .bool (v101.2.1 != 0)) (vy := .int .i64 0) rfl rfl rfl g_int b_ne) fun _ => ?_
  refine TO.go rfl rfl rfl (Does.assign rfl rfl) fun _ => ?_
  refine TO.end rfl ?_
  refine TQ.then ?_
  refine T.cond rfl (b := (v101.2.1 != 0)) rfl (fun h109 => ?_) (fun h109 => ?_)
  · replace hm := ite_t hm h109
    refine T.seq rfl ?_
    refine T.region rfl ?_
    refine TO.go rfl rfl rfl (Does.move rfl rfl) fun _ => ?_
    refine TO.go rfl rfl rfl (Does.assign (v := .int .u8 (0 : UInt8).toNat) rfl rfl) fun _ => ?_
    refine TO.go rfl rfl rfl (Does.assign rfl rfl) fun _ => ?_
    refine TO.end rfl ?_
    refine TQ.then ?_
    refine T.ret rfl ?_
    refine TQ.passBlockRet ?_
    refine TQ.passThenRet ?_
    refine TQ.result (.inl rfl) rfl (Res.tmp rfl (Res.tmp rfl Res.nil)) rfl (fun w h => ?_)
    cases hm
    exact ⟨(), rfl, h⟩
  · replace hm := ite_f hm h109
    refine T.seq rfl ?_
    refine T.region rfl ?_
    refine TO.go rfl rfl rfl (Does.move rfl rfl) fun _ => ?_
    refine TO.go rfl rfl rfl (Does.bin (v := .bool (v101.1 == (0 : UInt8))) (vy := .int .u8 (0 : UInt8).toNat) rfl rfl rfl g_int b8_eq) fun _ => ?_
    refine TO.go rfl rfl rfl (Does.assign rfl rfl) fun _ => ?_
    refine TO.end rfl ?_
    refine TQ.then ?_
    refine T.cond rfl (b := (v101.1 == (0 : UInt8))) rfl (fun h110 => ?_) (fun h110 => ?_)
    · replace hm := ite_t hm h110
      refine T.seq rfl ?_
      refine T.region rfl ?_
      refine TO.go rfl rfl rfl (Does.move rfl rfl) fun _ => ?_
      refine TO.go rfl rfl rfl (Does.assign rfl rfl) fun _ => ?_
      refine TO.go rfl rfl rfl (Does.assign (v := .int .i64 0) rfl rfl) fun _ => ?_
      refine TO.end rfl ?_
      refine TQ.then ?_
      refine T.ret rfl ?_
      refine TQ.passBlockRet ?_
      refine TQ.passThenRet ?_
      refine TQ.result (.inl rfl) rfl (Res.tmp rfl (Res.tmp rfl Res.nil)) rfl (fun w h => ?_)
      cases hm
      exact ⟨(), rfl, h⟩
    · replace hm := ite_f hm h110
      refine T.seqJ (X := Bool) rfl (fun x => [(27, .bool x), (10, .int .u8 v101.1.toNat)]) (fun x => ptr opstack_Stack.rep b0 v101.2.2 :: R) (fun x => f91.j1 v101 x = some r) ?_ ?_
      · rintro v112 hm
        try dsimp only
        unfold f91.j1 at hm
        refine T.cond rfl (b := v112) rfl (fun h115 => ?_) (fun h115 => ?_)
        · replace hm := ite_t hm h115
          refine T.seq rfl ?_
          refine T.region rfl ?_
          refine TO.go rfl rfl rfl (Does.move rfl rfl) fun _ => ?_
          refine TO.go rfl rfl rfl (Does.assign rfl rfl) fun _ => ?_
          refine TO.go rfl rfl rfl (Does.assign (v := .int .i64 0) rfl rfl) fun _ => ?_
          refine TO.end rfl ?_
          refine TQ.then ?_
          refine T.ret rfl ?_
          refine TQ.passBlockRet ?_
          refine TQ.passThenRet ?_
          refine TQ.result (.inl rfl) rfl (Res.tmp rfl (Res.tmp rfl Res.nil)) rfl (fun w h => ?_)
          cases hm
          exact ⟨(), rfl, h⟩
        · replace hm := ite_f hm h115
          refine T.skip rfl ?_
          refine TQ.passBlockNormal ?_
          refine TQ.then ?_
          refine T.seq rfl ?_
          refine T.region rfl ?_
          refine TO.go rfl rfl rfl (Does.assign (v := .int .u8 (0 : UInt8).toNat) rfl rfl) fun _ => ?_
          refine TO.go rfl rfl rfl (Does.assign (v := .int .i64 21) rfl rfl) fun _ => ?_
          refine TO.end rfl ?_
          refine TQ.then ?_
          refine T.ret rfl ?_
          refine TQ.result (.inl rfl) rfl (Res.tmp rfl (Res.tmp rfl Res.nil)) rfl (fun w h => ?_)
          cases hm
          exact ⟨(), rfl, h⟩
      · intro h114
        refine T.region rfl ?_
        refine TO.go rfl rfl rfl (Does.move rfl rfl) fun _ => ?_
        refine TO.go rfl rfl rfl (Does.bin (v := .bool (v1 == (0 : UInt8))) (vy := .int .u8 (0 : UInt8).toNat) rfl rfl rfl g_int b8_eq) fun _ => ?_
        refine TO.go rfl rfl rfl (Does.move rfl rfl) fun _ => ?_
        by_cases h116 : (v1 == (0 : UInt8)) = true
        · replace hm := ite_t hm h116
          refine TO.go rfl rfl rfl (Does.not (.inl ⟨_, _, rfl, rfl, by rw [h116]; rfl⟩)) fun _ => ?_
          refine TO.go rfl rfl rfl (Does.not (.inl ⟨_, _, rfl, rfl, by rw [h116]; rfl⟩)) fun _ => ?_
          refine TO.go rfl rfl rfl (Does.not (.inl ⟨_, _, rfl, rfl, by rw [h116]; rfl⟩)) fun _ => ?_
          refine TO.go rfl rfl rfl (Does.pickT (v := .bool true) rfl rfl h116 rfl) fun _ => ?_
          refine TO.go rfl rfl rfl (Does.assign rfl rfl) fun _ => ?_
          refine TO.end rfl ?_
          exact TQ.then (T.sub (h114 true hm) (Sub.cons rfl (Sub.cons rfl (Sub.nil _))) (fun w h => h))
        · replace h116 := bool_f h116
          replace hm := ite_f hm h116
          refine TO.go rfl rfl rfl (Does.move (.inl ⟨_, _, rfl, rfl, by rw [h116]; rfl⟩) rfl) fun _ => ?_
          refine TO.go rfl rfl rfl (Does.move (.inl ⟨_, _, rfl, rfl, by rw [h116]; rfl⟩) rfl) fun _ => ?_
          refine TO.go rfl rfl rfl (Does.bin (v := .bool (v101.1 == v1)) (.inl ⟨_, _, rfl, rfl, by rw [h116]; rfl⟩) rfl rfl g_int b8_eq) fun _ => ?_
          refine TO.go rfl rfl rfl (Does.pickF rfl rfl h116 rfl) fun _ => ?_
          refine TO.go rfl rfl rfl (Does.assign rfl rfl) fun _ => ?_
          refine TO.end rfl ?_
          exact TQ.then (T.sub (h114 (v101.1 == v1) hm) (Sub.cons rfl (Sub.cons rfl (Sub.nil _))) (fun w h => h))

def f93.l1 : Nat → (List UInt8) → Int → Bool → opstack_Stack → Int → Option (Int × opstack_Stack)
  | 0, _, _, _, _, _ => none
  | k + 1, v1, v2, v3, v143, v144 => (if (decide (0 ≤ v144)) = true then ((at? v1 v144).bind fun v154 => ((f91.f v143 v154 v2 v3).bind fun v156 => (if (v156.2.1 != 0) = true then some (v156.2.1, v156.2.2) else f93.l1 k v1 v2 v3 v156.2.2 (IntKind.i64.wrap (v144 - 1))))) else some (0, v143))
/-- (*creel/opstack.Stack).WantAll -/
def f93.f (v0 : opstack_Stack) (v1 : List UInt8) (v2 : Int) (v3 : Bool) : Option (Int × opstack_Stack) :=
  f93.l1 rounds v1 v2 v3 v0 (IntKind.i64.wrap ((v1.length : Int) - 1))
set_option maxRecDepth 20000 in
set_option maxHeartbeats 1000000 in
theorem f93.ok {W w : World} {R : List Assn} (v0 : opstack_Stack) (b0 : Nat) (v1 : List UInt8) (v2 : Int) (v3 : Bool) {r : Int × opstack_Stack} (hm : f93.f v0 v1 v2 v3 = some r) (hs : St W w (ptr opstack_Stack.rep b0 v0 :: R)) :
    Calls Try.prog 93 #[.pointer (some ⟨b0, 0, none⟩), .string ⟨v1.toArray⟩, .int .i64 v2, .bool v3] w (fun e w' => ∃ x : Unit, e = .returned (.int .i64 r.1) ∧ St W w' (ptr opstack_Stack.rep b0 r.2 :: R)) := by
  unfold f93.f at hm
  refine calls_sym (vs := [.pointer (some ⟨b0, 0, none⟩), .string ⟨v1.toArray⟩, .int .i64 v2, .bool v3]) Try.func93 rfl rfl hs ?_
  refine T.seq rfl ?_
  refine T.region rfl ?_
  refine TO.go rfl rfl rfl (Does.assign (v := .int .i64 0) rfl rfl) fun _ => ?_
  refine TO.end rfl ?_
  refine TQ.then ?_
  refine T.seq rfl ?_
  refine T.seq rfl ?_
  refine T.region rfl ?_
  refine TO.go rfl rfl rfl (Does.move rfl rfl) fun _ => ?_
  refine TO.go rfl rfl rfl (Does.lenStr (l := v1) rfl rfl ss_9) fun _ => ?_
  refine TO.go rfl rfl rfl (Does.bin (v := .int .i64 (IntKind.i64.wrap ((v1.length : Int) - 1))) (vy := .int .i64 1) rfl rfl rfl g_int b_sub) fun _ => ?_
  refine TO.go rfl rfl rfl (Does.assign rfl rfl) fun _ => ?_
  refine TO.end rfl ?_
  refine TQ.then ?_
  refine T.block rfl ?_
  refine T.loopJ (X := opstack_Stack × Int) rfl rounds (fun x => [(9, .int .i64 x.2), (3, .bool v3), (2, .int .i64 v2), (1, .string ⟨v1.toArray⟩), (0, .pointer (some ⟨b0, 0, none⟩))]) (fun x => ptr opstack_Stack.rep b0 x.1 :: R) (fun n x => f93.l1 n v1 v2 v3 x.1 x.2 = some r) (fun x h => by simp [f93.l1] at h) ?_ (v0, (IntKind.i64.wrap ((v1.length : Int) - 1))) hm (Sub.cons rfl (Sub.cons rfl (Sub.cons rfl (Sub.cons rfl (Sub.cons rfl (Sub.nil _)))))) (fun w h => h)
  intro k145 h146
  rintro ⟨v143, v144⟩ hm
  try dsimp only
  rw [f93.l1.eq_2] at hm
  refine T.seq rfl ?_
  refine T.seq rfl ?_
  refine T.region rfl ?_
  refine TO.go rfl rfl rfl (Does.move rfl rfl) fun _ => ?_
  refine TO.go rfl rfl rfl (Does.bin (v := .bool (decide (0 ≤ v144))) (vy := .int .i64 0) rfl rfl rfl g_int b_ge) fun _ => ?_
  refine TO.end rfl ?_
  refine TQ.then ?_
  refine T.cond rfl (b := (decide (0 ≤ v144))) rfl (fun h148 => ?_) (fun h148 => ?_)
  · replace hm := ite_t hm h148
    refine T.skip rfl ?_
    refine TQ.then ?_
    refine T.seq rfl ?_
    refine T.block rfl ?_
    refine T.seq rfl ?_
    refine T.region rfl ?_
    refine TO.go rfl rfl rfl (Does.move rfl rfl) fun _ => ?_
    refine TO.go rfl rfl rfl (Does.move rfl rfl) fun _ => ?_
    refine TO.go rfl rfl rfl (Does.move rfl rfl) fun _ => ?_
    obtain ⟨v154, h155, hm⟩ := bind_o hm
    refine TO.go rfl rfl rfl (Does.indexStr rfl rfl rfl ss_9 h155) fun _ => ?_
    refine TO.go rfl rfl rfl (Does.move rfl rfl) fun _ => ?_
    refine TO.go rfl rfl rfl (Does.move rfl rfl) fun _ => ?_
    obtain ⟨v156, h157, hm⟩ := bind_o hm
    refine TO.go rfl rfl rfl (Does.call (vs := [.pointer (some ⟨b0, 0, none⟩), .int .u8 v154.toNat, .int .i64 v2, .bool v3]) rfl co_91 rfl (fun w h => f91.ok v143 b0 v154 v2 v3 h157 (h))) fun _ => ?_
    refine TO.ent (L' := ptr opstack_Stack.rep b0 v156.2.2 :: R) (fun w h => h) ?_
    refine TO.go rfl rfl rfl (Does.move rfl rfl) fun _ => ?_
    refine TO.go rfl rfl rfl (Does.extract rfl rfl rfl) fun _ => ?_
    refine TO.go rfl rfl rfl (Does.extract rfl rfl rfl) fun _ => ?_
    refine TO.go rfl rfl rfl (Does.assign rfl rfl) fun _ => ?_
    refine TO.go rfl rfl rfl (Does.assign rfl rfl) fun _ => ?_
    refine TO.end rfl ?_
    refine TQ.then ?_
    refine T.seq rfl ?_
    refine T.region rfl ?_
    refine TO.go rfl rfl rfl (Does.move rfl rfl) fun _ => ?_
    refine TO.go rfl rfl rfl (Does.bin (v := .bool (v156.2.1 != 0)) (vy := .int .i64 0) rfl rfl rfl g_int b_ne) fun _ => ?_
    refine TO.end rfl ?_
    refine TQ.then ?_
    refine T.cond rfl (b := (v156.2.1 != 0)) rfl (fun h158 => ?_) (fun h158 => ?_)
    · replace hm := ite_t hm h158
      refine T.seq rfl ?_
      refine T.region rfl ?_
      refine TO.go rfl rfl rfl (Does.move rfl rfl) fun _ => ?_
      refine TO.go rfl rfl rfl (Does.assign rfl rfl) fun _ => ?_
      refine TO.end rfl ?_
      refine TQ.then ?_
      refine T.ret rfl ?_
      refine TQ.passBlockRet ?_
      refine TQ.passThenRet ?_
      refine TQ.passThenRet ?_
      refine TQ.passBlockRet ?_
      refine TQ.passThenRet ?_
      refine TQ.result (.inl rfl) rfl (Res.tmp rfl Res.nil) rfl (fun w h => ?_)
      cases hm
      exact ⟨(), rfl, h⟩
    · replace hm := ite_f hm h158
      refine T.skip rfl ?_
      refine TQ.passBlockNormal ?_
      refine TQ.then ?_
      refine T.region rfl ?_
      refine TO.go rfl rfl rfl (Does.move rfl rfl) fun _ => ?_
      refine TO.go rfl rfl rfl (Does.bin (v := .int .i64 (IntKind.i64.wrap (v144 - 1))) (vy := .int .i64 1) rfl rfl rfl g_int b_sub) fun _ => ?_
      refine TO.go rfl rfl rfl (Does.assign rfl rfl) fun _ => ?_
      refine TO.end rfl ?_
      exact TQ.again (TR.sub (h146 (v156.2.2, (IntKind.i64.wrap (v144 - 1))) hm) (Sub.cons rfl (Sub.cons rfl (Sub.cons rfl (Sub.cons rfl (Sub.cons rfl (Sub.nil _)))))) (fun w h => h))
  · replace hm := ite_f hm h148
    refine T.exit rfl ?_
    refine TQ.passThenExit ?_
    refine TQ.passThenExit ?_
    refine TQ.exitHere ?_
    refine TQ.then ?_
    refine T.seq rfl ?_
    refine T.region rfl ?_
    refine TO.go rfl rfl rfl (Does.assign (v := .int .i64 0) rfl rfl) fun _ => ?_
    refine TO.end rfl ?_
    refine TQ.then ?_
    refine T.ret rfl ?_
    refine TQ.result (.inl rfl) rfl (Res.tmp rfl Res.nil) rfl (fun w h => ?_)
    cases hm
    exact ⟨(), rfl, h⟩

end Go.Proofs.Ytfonekhhbmlkbaa
