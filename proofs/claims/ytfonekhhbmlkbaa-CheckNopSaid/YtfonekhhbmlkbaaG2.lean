/- Mirrors of functions, and that the Go functions compute them. Printed by gofun.py. -/
import Derived.Test.YtfonekhhbmlkbaaG1
set_option linter.unusedVariables false
set_option linter.unusedSimpArgs false
namespace Go.Proofs.Ytfonekhhbmlkbaa
open Go Go.Sym
def f71.k0 : List Value := [.string ⟨([105, 51, 50, 46, 108, 111, 97, 100] : List UInt8).toArray⟩, .string ⟨([105, 54, 52, 46, 108, 111, 97, 100] : List UInt8).toArray⟩, .string ⟨([] : List UInt8).toArray⟩, .string ⟨([] : List UInt8).toArray⟩, .string ⟨([105, 51, 50, 46, 108, 111, 97, 100, 56, 95, 115] : List UInt8).toArray⟩, .string ⟨([105, 51, 50, 46, 108, 111, 97, 100, 56, 95, 117] : List UInt8).toArray⟩, .string ⟨([105, 51, 50, 46, 108, 111, 97, 100, 49, 54, 95, 115] : List UInt8).toArray⟩, .string ⟨([105, 51, 50, 46, 108, 111, 97, 100, 49, 54, 95, 117] : List UInt8).toArray⟩, .string ⟨([105, 54, 52, 46, 108, 111, 97, 100, 56, 95, 115] : List UInt8).toArray⟩, .string ⟨([105, 54, 52, 46, 108, 111, 97, 100, 56, 95, 117] : List UInt8).toArray⟩, .string ⟨([105, 54, 52, 46, 108, 111, 97, 100, 49, 54, 95, 115] : List UInt8).toArray⟩, .string ⟨([105, 54, 52, 46, 108, 111, 97, 100, 49, 54, 95, 117] : List UInt8).toArray⟩, .string ⟨([105, 54, 52, 46, 108, 111, 97, 100, 51, 50, 95, 115] : List UInt8).toArray⟩, .string ⟨([105, 54, 52, 46, 108, 111, 97, 100, 51, 50, 95, 117] : List UInt8).toArray⟩, .string ⟨([105, 51, 50, 46, 115, 116, 111, 114, 101] : List UInt8).toArray⟩, .string ⟨([105, 54, 52, 46, 115, 116, 111, 114, 101] : List UInt8).toArray⟩, .string ⟨([] : List UInt8).toArray⟩, .string ⟨([] : List UInt8).toArray⟩, .string ⟨([105, 51, 50, 46, 115, 116, 111, 114, 101, 56] : List UInt8).toArray⟩, .string ⟨([105, 51, 50, 46, 115, 116, 111, 114, 101, 49, 54] : List UInt8).toArray⟩, .string ⟨([105, 54, 52, 46, 115, 116, 111, 114, 101, 56] : List UInt8).toArray⟩, .string ⟨([105, 54, 52, 46, 115, 116, 111, 114, 101, 49, 54] : List UInt8).toArray⟩, .string ⟨([105, 54, 52, 46, 115, 116, 111, 114, 101, 51, 50] : List UInt8).toArray⟩]
def f71.c1 : List (List UInt8) := [([105, 51, 50, 46, 108, 111, 97, 100] : List UInt8), ([105, 54, 52, 46, 108, 111, 97, 100] : List UInt8), ([] : List UInt8), ([] : List UInt8), ([105, 51, 50, 46, 108, 111, 97, 100, 56, 95, 115] : List UInt8), ([105, 51, 50, 46, 108, 111, 97, 100, 56, 95, 117] : List UInt8), ([105, 51, 50, 46, 108, 111, 97, 100, 49, 54, 95, 115] : List UInt8), ([105, 51, 50, 46, 108, 111, 97, 100, 49, 54, 95, 117] : List UInt8), ([105, 54, 52, 46, 108, 111, 97, 100, 56, 95, 115] : List UInt8), ([105, 54, 52, 46, 108, 111, 97, 100, 56, 95, 117] : List UInt8), ([105, 54, 52, 46, 108, 111, 97, 100, 49, 54, 95, 115] : List UInt8), ([105, 54, 52, 46, 108, 111, 97, 100, 49, 54, 95, 117] : List UInt8), ([105, 54, 52, 46, 108, 111, 97, 100, 51, 50, 95, 115] : List UInt8), ([105, 54, 52, 46, 108, 111, 97, 100, 51, 50, 95, 117] : List UInt8), ([105, 51, 50, 46, 115, 116, 111, 114, 101] : List UInt8), ([105, 54, 52, 46, 115, 116, 111, 114, 101] : List UInt8), ([] : List UInt8), ([] : List UInt8), ([105, 51, 50, 46, 115, 116, 111, 114, 101, 56] : List UInt8), ([105, 51, 50, 46, 115, 116, 111, 114, 101, 49, 54] : List UInt8), ([105, 54, 52, 46, 115, 116, 111, 114, 101, 56] : List UInt8), ([105, 54, 52, 46, 115, 116, 111, 114, 101, 49, 54] : List UInt8), ([105, 54, 52, 46, 115, 116, 111, 114, 101, 51, 50] : List UInt8)]
def f71.j2 (v0 : UInt8) (v126 : List UInt8) (v135 : List UInt8) : Option ops_Info :=
  (if (decide (v0 < (54 : UInt8))) = true then some ({ Name := v126, Imm := 8, Params := ([127] : List UInt8), Result := v135, Free := false } : ops_Info) else ((cat ([127] : List UInt8) v135).bind fun v141 => some ({ Name := v126, Imm := 8, Params := v141, Result := ([] : List UInt8), Free := false } : ops_Info)))
def f71.j1 (v0 : UInt8) (v123 : Bool) : Option ops_Info :=
  (if v123 = true then some ({ Name := ([] : List UInt8), Imm := 0, Params := ([] : List UInt8), Result := ([] : List UInt8), Free := false } : ops_Info) else ((at? f71.c1 ((v0 - (40 : UInt8)).toNat : Int)).bind fun v126 => ((at? v126 1).bind fun v143 => (if (v143 == (51 : UInt8)) = true then f71.j2 v0 v126 ([127] : List UInt8) else f71.j2 v0 v126 ([126] : List UInt8)))))
/-- creel/ops.memory -/
def f71.f (v0 : UInt8) : Option ops_Info :=
  (if (v0 == (63 : UInt8)) = true then some ({ Name := ([109, 101, 109, 111, 114, 121, 46, 115, 105, 122, 101] : List UInt8), Imm := 9, Params := ([] : List UInt8), Result := ([127] : List UInt8), Free := false } : ops_Info) else (if (v0 == (64 : UInt8)) = true then some ({ Name := ([109, 101, 109, 111, 114, 121, 46, 103, 114, 111, 119] : List UInt8), Imm := 9, Params := ([127] : List UInt8), Result := ([127] : List UInt8), Free := false } : ops_Info) else (if (decide (v0 < (40 : UInt8))) = true then f71.j1 v0 true else (if (decide ((62 : UInt8) < v0)) = true then f71.j1 v0 true else ((at? f71.c1 ((v0 - (40 : UInt8)).toNat : Int)).bind fun v148 => f71.j1 v0 (v148 == ([] : List UInt8)))))))
set_option maxRecDepth 20000 in
set_option maxHeartbeats 1000000 in
theorem f71.ok {W w : World} {R : List Assn} (v0 : UInt8) {r : ops_Info} (hm : f71.f v0 = some r) (hs : St W w (R)) :
    Calls Try.prog 71 #[.int .u8 v0.toNat] w (fun e w' => ∃ x : Unit, e = .returned (.agg #[.string ⟨r.Name.toArray⟩, .int .i64 r.Imm, .string ⟨r.Params.toArray⟩, .string ⟨r.Result.toArray⟩, .bool r.Free]) ∧ St W w' (R)) := by
  unfold f71.f at hm
  refine calls_sym (vs := [.int .u8 v0.toNat]) Try.func71 rfl rfl hs ?_
  refine T.seq rfl ?_
  refine T.region rfl ?_
  refine TO.go rfl rfl rfl (Does.alloc rfl zn_117) fun b101 => ?_
  refine TO.ent (L' := pts b101 [.string ⟨([] : List UInt8).toArray⟩, .int .i64 0, .string ⟨([] : List UInt8).toArray⟩, .string ⟨([] : List UInt8).toArray⟩, .bool false] :: R) (fun w h => h) ?_
  refine TO.end rfl ?_
  refine TQ.then ?_
  refine T.seq rfl ?_
  refine T.region rfl ?_
  refine TO.go rfl rfl rfl (Does.build (v := .agg f71.k0.toArray) (vs := [(0, .string ⟨([105, 51, 50, 46, 108, 111, 97, 100] : List UInt8).toArray⟩), (1, .string ⟨([105, 54, 52, 46, 108, 111, 97, 100] : List UInt8).toArray⟩), (2, .string ⟨([] : List UInt8).toArray⟩), (3, .string ⟨([] : List UInt8).toArray⟩), (4, .string ⟨([105, 51, 50, 46, 108, 111, 97, 100, 56, 95, 115] : List UInt8).toArray⟩), (5, .string ⟨([105, 51, 50, 46, 108, 111, 97, 100, 56, 95, 117] : List UInt8).toArray⟩), (6, .string ⟨([105, 51, 50, 46, 108, 111, 97, 100, 49, 54, 95, 115] : List UInt8).toArray⟩), (7, .string ⟨([105, 51, 50, 46, 108, 111, 97, 100, 49, 54, 95, 117] : List UInt8).toArray⟩), (8, .string ⟨([105, 54, 52, 46, 108, 111, 97, 100, 56, 95, 115] : List UInt8).toArray⟩), (9, .string ⟨([105, 54, 52, 46, 108, 111, 97, 100, 56, 95, 117] : List UInt8).toArray⟩), (10, .string ⟨([105, 54, 52, 46, 108, 111, 97, 100, 49, 54, 95, 115] : List UInt8).toArray⟩), (11, .string ⟨([105, 54, 52, 46, 108, 111, 97, 100, 49, 54, 95, 117] : List UInt8).toArray⟩), (12, .string ⟨([105, 54, 52, 46, 108, 111, 97, 100, 51, 50, 95, 115] : List UInt8).toArray⟩), (13, .string ⟨([105, 54, 52, 46, 108, 111, 97, 100, 51, 50, 95, 117] : List UInt8).toArray⟩), (14, .string ⟨([105, 51, 50, 46, 115, 116, 111, 114, 101] : List UInt8).toArray⟩), (15, .string ⟨([105, 54, 52, 46, 115, 116, 111, 114, 101] : List UInt8).toArray⟩), (16, .string ⟨([] : List UInt8).toArray⟩), (17, .string ⟨([] : List UInt8).toArray⟩), (18, .string ⟨([105, 51, 50, 46, 115, 116, 111, 114, 101, 56] : List UInt8).toArray⟩), (19, .string ⟨([105, 51, 50, 46, 115, 116, 111, 114, 101, 49, 54] : List UInt8).toArray⟩), (20, .string ⟨([105, 54, 52, 46, 115, 116, 111, 114, 101, 56] : List UInt8).toArray⟩), (21, .string ⟨([105, 54, 52, 46, 115, 116, 111, 114, 101, 49, 54] : List UInt8).toArray⟩), (22, .string ⟨([105, 54, 52, 46, 115, 116, 111, 114, 101, 51, 50] : List UInt8).toArray⟩)]) rfl rfl (fun w => by kernel_rfl)) fun _ => ?_
  refine TO.go rfl rfl rfl (Does.alloc rfl zn_155) fun b103 => ?_
  refine TO.ent (L' := pts b103 zl_155 :: pts b101 [.string ⟨([] : List UInt8).toArray⟩, .int .i64 0, .string ⟨([] : List UInt8).toArray⟩, .string ⟨([] : List UInt8).toArray⟩, .bool false] :: R) (fun w h => h) ?_
  refine TO.go0 rfl rfl (Does.storePts (k := 0) (v := .agg f71.k0.toArray) (vs := f71.k0) (cs' := f71.k0) rfl rfl rfl rfl (by kernel_rfl) cn_155 rfl (by kernel_rfl) (by kernel_rfl) rfl) fun _ => ?_
  refine TO.ent (fun w h => arr_of_pts (r := rS) f71.c1 (by kernel_rfl) (h)) ?_
  refine TO.end rfl ?_
  refine TQ.then ?_
  refine T.seq rfl ?_
  refine T.block rfl ?_
  refine T.seq rfl ?_
  refine T.region rfl ?_
  refine TO.go rfl rfl rfl (Does.move rfl rfl) fun _ => ?_
  refine TO.go rfl rfl rfl (Does.bin (v := .bool (v0 == (63 : UInt8))) (vy := .int .u8 (63 : UInt8).toNat) rfl rfl rfl g_int b8_eq) fun _ => ?_
  refine TO.go rfl rfl rfl (Does.assign rfl rfl) fun _ => ?_
  refine TO.end rfl ?_
  refine TQ.then ?_
  refine T.cond rfl (b := (v0 == (63 : UInt8))) rfl (fun h115 => ?_) (fun h115 => ?_)
  · replace hm := ite_t hm h115
    refine T.seq rfl ?_
    refine T.region rfl ?_
    refine TO.go rfl rfl rfl (Does.build (v := .agg #[.string ⟨([109, 101, 109, 111, 114, 121, 46, 115, 105, 122, 101] : List UInt8).toArray⟩, .int .i64 9, .string ⟨([] : List UInt8).toArray⟩, .string ⟨([127] : List UInt8).toArray⟩, .bool false]) (vs := [(0, .string ⟨([109, 101, 109, 111, 114, 121, 46, 115, 105, 122, 101] : List UInt8).toArray⟩), (1, .int .i64 9), (3, .string ⟨([127] : List UInt8).toArray⟩)]) rfl rfl (fun w => by kernel_rfl)) fun _ => ?_
    refine TO.go0 rfl rfl (Does.storePts (k := 1) (vs := [.string ⟨([109, 101, 109, 111, 114, 121, 46, 115, 105, 122, 101] : List UInt8).toArray⟩, .int .i64 9, .string ⟨([] : List UInt8).toArray⟩, .string ⟨([127] : List UInt8).toArray⟩, .bool false]) (cs' := [.string ⟨([109, 101, 109, 111, 114, 121, 46, 115, 105, 122, 101] : List UInt8).toArray⟩, .int .i64 9, .string ⟨([] : List UInt8).toArray⟩, .string ⟨([127] : List UInt8).toArray⟩, .bool false]) rfl rfl rfl rfl rfl cn_117 rfl rfl rfl rfl) fun _ => ?_
    refine TO.ent (L' := arr rS b103 f71.c1 :: pts b101 [.string ⟨([109, 101, 109, 111, 114, 121, 46, 115, 105, 122, 101] : List UInt8).toArray⟩, .int .i64 9, .string ⟨([] : List UInt8).toArray⟩, .string ⟨([127] : List UInt8).toArray⟩, .bool false] :: R) (fun w h => h) ?_
    refine TO.end rfl ?_
    refine TQ.then ?_
    refine T.ret rfl ?_
    refine TQ.passBlockRet ?_
    refine TQ.passThenRet ?_
    refine TQ.result (.inl rfl) rfl (Res.cellN (k := 1) rfl rfl ag_117 Res.nil) rfl (fun w h => ?_)
    cases hm
    exact ⟨(), rfl, ((h).ent (Ent.drop _ _)).ent (Ent.drop _ _)⟩
  · replace hm := ite_f hm h115
    refine T.seq rfl ?_
    refine T.region rfl ?_
    refine TO.go rfl rfl rfl (Does.move rfl rfl) fun _ => ?_
    refine TO.go rfl rfl rfl (Does.bin (v := .bool (v0 == (64 : UInt8))) (vy := .int .u8 (64 : UInt8).toNat) rfl rfl rfl g_int b8_eq) fun _ => ?_
    refine TO.go rfl rfl rfl (Does.assign rfl rfl) fun _ => ?_
    refine TO.end rfl ?_
    refine TQ.then ?_
    refine T.cond rfl (b := (v0 == (64 : UInt8))) rfl (fun h116 => ?_) (fun h116 => ?_)
    · replace hm := ite_t hm h116
      refine T.seq rfl ?_
      refine T.region rfl ?_
      refine TO.go rfl rfl rfl (Does.build (v := .agg #[.string ⟨([109, 101, 109, 111, 114, 121, 46, 103, 114, 111, 119] : List UInt8).toArray⟩, .int .i64 9, .string ⟨([127] : List UInt8).toArray⟩, .string ⟨([127] : List UInt8).toArray⟩, .bool false]) (vs := [(0, .string ⟨([109, 101, 109, 111, 114, 121, 46, 103, 114, 111, 119] : List UInt8).toArray⟩), (1, .int .i64 9), (2, .string ⟨([127] : List UInt8).toArray⟩), (3, .string ⟨([127] : List UInt8).toArray⟩)]) rfl rfl (fun w => by kernel_rfl)) fun _ => ?_
      refine TO.go0 rfl rfl (Does.storePts (k := 1) (vs := [.string ⟨([109, 101, 109, 111, 114, 121, 46, 103, 114, 111, 119] : List UInt8).toArray⟩, .int .i64 9, .string ⟨([127] : List UInt8).toArray⟩, .string ⟨([127] : List UInt8).toArray⟩, .bool false]) (cs' := [.string ⟨([109, 101, 109, 111, 114, 121, 46, 103, 114, 111, 119] : List UInt8).toArray⟩, .int .i64 9, .string ⟨([127] : List UInt8).toArray⟩, .string ⟨([127] : List UInt8).toArray⟩, .bool false]) rfl rfl rfl rfl rfl cn_117 rfl rfl rfl rfl) fun _ => ?_
      refine TO.ent (L' := arr rS b103 f71.c1 :: pts b101 [.string ⟨([109, 101, 109, 111, 114, 121, 46, 103, 114, 111, 119] : List UInt8).toArray⟩, .int .i64 9, .string ⟨([127] : List UInt8).toArray⟩, .string ⟨([127] : List UInt8).toArray⟩, .bool false] :: R) (fun w h => h) ?_
      refine TO.end rfl ?_
      refine TQ.then ?_
      refine T.ret rfl ?_
      refine TQ.passBlockRet ?_
      refine TQ.passThenRet ?_
      refine TQ.result (.inl rfl) rfl (Res.cellN (k := 1) rfl rfl ag_117 Res.nil) rfl (fun w h => ?_)
      cases hm
      exact ⟨(), rfl, ((h).ent (Ent.drop _ _)).ent (Ent.drop _ _)⟩
    · replace hm := ite_f hm h116
      refine T.seqJ (X := Bool) rfl (fun x => [(15, .bool x), (3, .pointer (some ⟨b103, 0, none⟩)), (2, .pointer (some ⟨b101, 0, none⟩)), (0, .int .u8 v0.toNat)]) (fun x => pts b101 [.string ⟨([] : List UInt8).toArray⟩, .int .i64 0, .string ⟨([] : List UInt8).toArray⟩, .string ⟨([] : List UInt8).toArray⟩, .bool false] :: arr rS b103 f71.c1 :: R) (fun x => f71.j1 v0 x = some r) ?_ ?_
      · rintro v123 hm
        try dsimp only
        unfold f71.j1 at hm
        refine T.cond rfl (b := v123) rfl (fun h125 => ?_) (fun h125 => ?_)
        · replace hm := ite_t hm h125
          refine T.seq rfl ?_
          refine T.region rfl ?_
          refine TO.go rfl rfl rfl (Does.build (v := .agg #[.string ⟨([] : List UInt8).toArray⟩, .int .i64 0, .string ⟨([] : List UInt8).toArray⟩, .string ⟨([] : List UInt8).toArray⟩, .bool false]) (vs := []) rfl rfl (fun w => by kernel_rfl)) fun _ => ?_
          refine TO.go0 rfl rfl (Does.storePts (k := 0) (vs := [.string ⟨([] : List UInt8).toArray⟩, .int .i64 0, .string ⟨([] : List UInt8).toArray⟩, .string ⟨([] : List UInt8).toArray⟩, .bool false]) (cs' := [.string ⟨([] : List UInt8).toArray⟩, .int .i64 0, .string ⟨([] : List UInt8).toArray⟩, .string ⟨([] : List UInt8).toArray⟩, .bool false]) rfl rfl rfl rfl rfl cn_117 rfl rfl rfl rfl) fun _ => ?_
          refine TO.ent (L' := pts b101 [.string ⟨([] : List UInt8).toArray⟩, .int .i64 0, .string ⟨([] : List UInt8).toArray⟩, .string ⟨([] : List UInt8).toArray⟩, .bool false] :: arr rS b103 f71.c1 :: R) (fun w h => h) ?_
          refine TO.end rfl ?_
          refine TQ.then ?_
          refine T.ret rfl ?_
          refine TQ.passBlockRet ?_
          refine TQ.passThenRet ?_
          refine TQ.result (.inl rfl) rfl (Res.cellN (k := 0) rfl rfl ag_117 Res.nil) rfl (fun w h => ?_)
          cases hm
          exact ⟨(), rfl, ((h).ent (Ent.drop _ _)).ent (Ent.drop _ _)⟩
        · replace hm := ite_f hm h125
          refine T.skip rfl ?_
          refine TQ.passBlockNormal ?_
          refine TQ.then ?_
          refine T.seq rfl ?_
          refine T.region rfl ?_
          refine TO.go rfl rfl rfl (Does.move rfl rfl) fun _ => ?_
          refine TO.go rfl rfl rfl (Does.bin (v := .int .u8 (v0 - (40 : UInt8)).toNat) (vy := .int .u8 (40 : UInt8).toNat) rfl rfl rfl g_int b8_sub) fun _ => ?_
          obtain ⟨v126, h127, hm⟩ := bind_o hm
          refine TO.go rfl rfl rfl (Does.indexArr rfl rfl rfl ar_155 (at?_out h127).1 (at?_out h127).2.1) fun _ => ?_
          refine TO.go rfl rfl rfl (Does.loadFlat (r := rS) (k := 1) (f := 0) (v := .string ⟨v126.toArray⟩) rfl rfl sc_9 rfl Arrd.arr (at?_out h127).2.2 rfl) fun _ => ?_
          refine TO.go rfl rfl rfl (Does.build (v := .agg #[.string ⟨v126.toArray⟩, .int .i64 8, .string ⟨([127] : List UInt8).toArray⟩, .string ⟨([] : List UInt8).toArray⟩, .bool false]) (vs := [(0, .string ⟨v126.toArray⟩), (1, .int .i64 8), (2, .string ⟨([127] : List UInt8).toArray⟩)]) rfl rfl (fun w => by kernel_rfl)) fun _ => ?_
          refine TO.go rfl rfl rfl (Does.alloc rfl zn_117) fun b128 => ?_
          refine TO.ent (L' := pts b128 [.string ⟨([] : List UInt8).toArray⟩, .int .i64 0, .string ⟨([] : List UInt8).toArray⟩, .string ⟨([] : List UInt8).toArray⟩, .bool false] :: pts b101 [.string ⟨([] : List UInt8).toArray⟩, .int .i64 0, .string ⟨([] : List UInt8).toArray⟩, .string ⟨([] : List UInt8).toArray⟩, .bool false] :: arr rS b103 f71.c1 :: R) (fun w h => h) ?_
          refine TO.go0 rfl rfl (Does.storePts (k := 0) (vs := [.string ⟨v126.toArray⟩, .int .i64 8, .string ⟨([127] : List UInt8).toArray⟩, .string ⟨([] : List UInt8).toArray⟩, .bool false]) (cs' := [.string ⟨v126.toArray⟩, .int .i64 8, .string ⟨([127] : List UInt8).toArray⟩, .string ⟨([] : List UInt8).toArray⟩, .bool false]) rfl rfl rfl rfl rfl cn_117 rfl rfl rfl rfl) fun _ => ?_
          refine TO.ent (L' := pts b128 [.string ⟨v126.toArray⟩, .int .i64 8, .string ⟨([127] : List UInt8).toArray⟩, .string ⟨([] : List UInt8).toArray⟩, .bool false] :: pts b101 [.string ⟨([] : List UInt8).toArray⟩, .int .i64 0, .string ⟨([] : List UInt8).toArray⟩, .string ⟨([] : List UInt8).toArray⟩, .bool false] :: arr rS b103 f71.c1 :: R) (fun w h => h) ?_
          refine TO.end rfl ?_
          refine TQ.then ?_
          refine T.seq rfl ?_
          refine T.region rfl ?_
          refine TO.go rfl rfl rfl (Does.assign (v := .string ⟨([126] : List UInt8).toArray⟩) rfl rfl) fun _ => ?_
          refine TO.end rfl ?_
          refine TQ.then ?_
          refine T.seqJ (X := (List UInt8)) rfl (fun x => [(5, .string ⟨x.toArray⟩), (4, .pointer (some ⟨b128, 0, none⟩)), (2, .pointer (some ⟨b101, 0, none⟩)), (0, .int .u8 v0.toNat)]) (fun x => pts b101 [.string ⟨([] : List UInt8).toArray⟩, .int .i64 0, .string ⟨([] : List UInt8).toArray⟩, .string ⟨([] : List UInt8).toArray⟩, .bool false] :: pts b128 [.string ⟨v126.toArray⟩, .int .i64 8, .string ⟨([127] : List UInt8).toArray⟩, .string ⟨([] : List UInt8).toArray⟩, .bool false] :: R) (fun x => f71.j2 v0 v126 x = some r) ?_ ?_
          · rintro v135 hm
            try dsimp only
            unfold f71.j2 at hm
            refine T.seq rfl ?_
            refine T.seq rfl ?_
            refine T.region rfl ?_
            refine TO.go rfl rfl rfl (Does.move rfl rfl) fun _ => ?_
            refine TO.go rfl rfl rfl (Does.bin (v := .bool (decide (v0 < (54 : UInt8)))) (vy := .int .u8 (54 : UInt8).toNat) rfl rfl rfl g_int b8_lt) fun _ => ?_
            refine TO.end rfl ?_
            refine TQ.then ?_
            refine T.cond rfl (b := (decide (v0 < (54 : UInt8)))) rfl (fun h140 => ?_) (fun h140 => ?_)
            · replace hm := ite_t hm h140
              refine T.region rfl ?_
              refine TO.go rfl rfl rfl (Does.move rfl rfl) fun _ => ?_
              refine TO.go rfl rfl rfl (Does.fieldAddr (o' := 3) rfl rfl fo_117_3 rfl) fun _ => ?_
              refine TO.go0 rfl rfl (Does.storePts (k := 1) (vs := [.string ⟨v135.toArray⟩]) (cs' := [.string ⟨v126.toArray⟩, .int .i64 8, .string ⟨([127] : List UInt8).toArray⟩, .string ⟨v135.toArray⟩, .bool false]) rfl rfl rfl rfl rfl cn_9 rfl rfl rfl rfl) fun _ => ?_
              refine TO.ent (L' := pts b101 [.string ⟨([] : List UInt8).toArray⟩, .int .i64 0, .string ⟨([] : List UInt8).toArray⟩, .string ⟨([] : List UInt8).toArray⟩, .bool false] :: pts b128 [.string ⟨v126.toArray⟩, .int .i64 8, .string ⟨([127] : List UInt8).toArray⟩, .string ⟨v135.toArray⟩, .bool false] :: R) (fun w h => h) ?_
              refine TO.end rfl ?_
              refine TQ.then ?_
              refine T.seq rfl ?_
              refine T.region rfl ?_
              refine TO.go rfl rfl rfl (Does.loadPtsN (k := 1) (vs := [.string ⟨v126.toArray⟩, .int .i64 8, .string ⟨([127] : List UInt8).toArray⟩, .string ⟨v135.toArray⟩, .bool false]) rfl rfl ag_117 rfl rfl rfl) fun _ => ?_
              refine TO.go0 rfl rfl (Does.storePts (k := 0) (vs := [.string ⟨v126.toArray⟩, .int .i64 8, .string ⟨([127] : List UInt8).toArray⟩, .string ⟨v135.toArray⟩, .bool false]) (cs' := [.string ⟨v126.toArray⟩, .int .i64 8, .string ⟨([127] : List UInt8).toArray⟩, .string ⟨v135.toArray⟩, .bool false]) rfl rfl rfl rfl rfl cn_117 rfl rfl rfl rfl) fun _ => ?_
              refine TO.ent (L' := pts b101 [.string ⟨v126.toArray⟩, .int .i64 8, .string ⟨([127] : List UInt8).toArray⟩, .string ⟨v135.toArray⟩, .bool false] :: pts b128 [.string ⟨v126.toArray⟩, .int .i64 8, .string ⟨([127] : List UInt8).toArray⟩, .string ⟨v135.toArray⟩, .bool false] :: R) (fun w h => h) ?_
              refine TO.end rfl ?_
              refine TQ.then ?_
              refine T.ret rfl ?_
              refine TQ.result (.inl rfl) rfl (Res.cellN (k := 0) rfl rfl ag_117 Res.nil) rfl (fun w h => ?_)
              cases hm
              exact ⟨(), rfl, ((h).ent (Ent.drop _ _)).ent (Ent.drop _ _)⟩
            · replace hm := ite_f hm h140
              refine T.region rfl ?_
              refine TO.go rfl rfl rfl (Does.fieldAddr (o' := 2) rfl rfl fo_117_2 rfl) fun _ => ?_
              refine TO.go rfl rfl rfl (Does.loadPts (k := 1) (v := .string ⟨([127] : List UInt8).toArray⟩) rfl rfl sc_9 rfl rfl) fun _ => ?_
              refine TO.go rfl rfl rfl (Does.move rfl rfl) fun _ => ?_
              obtain ⟨v141, h142, hm⟩ := bind_o hm
              refine TO.go rfl rfl rfl (Does.bin (v := .string ⟨v141.toArray⟩) rfl rfl rfl g_str (s_add h142)) fun _ => ?_
              refine TO.go rfl rfl rfl (Does.fieldAddr (o' := 2) rfl rfl fo_117_2 rfl) fun _ => ?_
              refine TO.go0 rfl rfl (Does.storePts (k := 1) (vs := [.string ⟨v141.toArray⟩]) (cs' := [.string ⟨v126.toArray⟩, .int .i64 8, .string ⟨v141.toArray⟩, .string ⟨([] : List UInt8).toArray⟩, .bool false]) rfl rfl rfl rfl rfl cn_9 rfl rfl rfl rfl) fun _ => ?_
              refine TO.ent (L' := pts b101 [.string ⟨([] : List UInt8).toArray⟩, .int .i64 0, .string ⟨([] : List UInt8).toArray⟩, .string ⟨([] : List UInt8).toArray⟩, .bool false] :: pts b128 [.string ⟨v126.toArray⟩, .int .i64 8, .string ⟨v141.toArray⟩, .string ⟨([] : List UInt8).toArray⟩, .bool false] :: R) (fun w h => h) ?_
              refine TO.end rfl ?_
              refine TQ.then ?_
              refine T.seq rfl ?_
              refine T.region rfl ?_
              refine TO.go rfl rfl rfl (Does.loadPtsN (k := 1) (vs := [.string ⟨v126.toArray⟩, .int .i64 8, .string ⟨v141.toArray⟩, .string ⟨([] : List UInt8).toArray⟩, .bool false]) rfl rfl ag_117 rfl rfl rfl) fun _ => ?_
              refine TO.go0 rfl rfl (Does.storePts (k := 0) (vs := [.string ⟨v126.toArray⟩, .int .i64 8, .string ⟨v141.toArray⟩, .string ⟨([] : List UInt8).toArray⟩, .bool false]) (cs' := [.string ⟨v126.toArray⟩, .int .i64 8, .string ⟨v141.toArray⟩, .string ⟨([] : List UInt8).toArray⟩, .bool false]) rfl rfl rfl rfl rfl cn_117 rfl rfl rfl rfl) fun _ => ?_
              refine TO.ent (L' := pts b101 [.string ⟨v126.toArray⟩, .int .i64 8, .string ⟨v141.toArray⟩, .string ⟨([] : List UInt8).toArray⟩, .bool false] :: pts b128 [.string ⟨v126.toArray⟩, .int .i64 8, .string ⟨v141.toArray⟩, .string ⟨([] : List UInt8).toArray⟩, .bool false] :: R) (fun w h => h) ?_
              refine TO.end rfl ?_
              refine TQ.then ?_
              refine T.ret rfl ?_
              refine TQ.result (.inl rfl) rfl (Res.cellN (k := 0) rfl rfl ag_117 Res.nil) rfl (fun w h => ?_)
              cases hm
              exact ⟨(), rfl, ((h).ent (Ent.drop _ _)).ent (Ent.drop _ _)⟩
          · intro h136
            refine T.seq rfl ?_
            refine T.region rfl ?_
            refine TO.go rfl rfl rfl (Does.fieldAddr (o' := 0) rfl rfl fo_117_0 rfl) fun _ => ?_
            refine TO.go rfl rfl rfl (Does.loadPts (k := 0) (v := .string ⟨v126.toArray⟩) rfl rfl sc_9 rfl rfl) fun _ => ?_
            obtain ⟨v143, h144, hm⟩ := bind_o hm
            refine TO.go rfl rfl rfl (Does.indexStr rfl rfl rfl ss_9 h144) fun _ => ?_
            refine TO.go rfl rfl rfl (Does.bin (v := .bool (v143 == (51 : UInt8))) (vy := .int .u8 (51 : UInt8).toNat) rfl rfl rfl g_int b8_eq) fun _ => ?_
            refine TO.end rfl ?_
            refine TQ.then ?_
            refine T.cond rfl (b := (v143 == (51 : UInt8))) rfl (fun h145 => ?_) (fun h145 => ?_)
            · replace hm := ite_t hm h145
              refine T.region rfl ?_
              refine TO.go rfl rfl rfl (Does.assign (v := .string ⟨([127] : List UInt8).toArray⟩) rfl rfl) fun _ => ?_
              refine TO.end rfl ?_
              exact TQ.then (T.sub (h136 ([127] : List UInt8) hm) (Sub.cons rfl (Sub.cons rfl (Sub.cons rfl (Sub.cons rfl (Sub.nil _))))) (fun w h => (((h).ent (Ent.take 2 rfl)).ent (Ent.drop _ _)).ent (Ent.take 1 rfl)))
            · replace hm := ite_f hm h145
              refine T.skip rfl ?_
              exact TQ.then (T.sub (h136 ([126] : List UInt8) hm) (Sub.cons rfl (Sub.cons rfl (Sub.cons rfl (Sub.cons rfl (Sub.nil _))))) (fun w h => (((h).ent (Ent.take 2 rfl)).ent (Ent.drop _ _)).ent (Ent.take 1 rfl)))
      · intro h124
        refine T.region rfl ?_
        refine TO.go rfl rfl rfl (Does.move rfl rfl) fun _ => ?_
        refine TO.go rfl rfl rfl (Does.bin (v := .bool (decide (v0 < (40 : UInt8)))) (vy := .int .u8 (40 : UInt8).toNat) rfl rfl rfl g_int b8_lt) fun _ => ?_
        refine TO.go rfl rfl rfl (Does.move rfl rfl) fun _ => ?_
        by_cases h146 : (decide (v0 < (40 : UInt8))) = true
        · replace hm := ite_t hm h146
          refine TO.go rfl rfl rfl (Does.not (.inl ⟨_, _, rfl, rfl, by rw [h146]; rfl⟩)) fun _ => ?_
          refine TO.go rfl rfl rfl (Does.not (.inl ⟨_, _, rfl, rfl, by rw [h146]; rfl⟩)) fun _ => ?_
          refine TO.go rfl rfl rfl (Does.pickT (v := .bool true) rfl rfl h146 rfl) fun _ => ?_
          refine TO.go rfl rfl rfl (Does.move rfl rfl) fun _ => ?_
          refine TO.go rfl rfl rfl (Does.not (.inl ⟨_, _, rfl, rfl, rfl⟩)) fun _ => ?_
          refine TO.go rfl rfl rfl (Does.not (.inl ⟨_, _, rfl, rfl, rfl⟩)) fun _ => ?_
          refine TO.go rfl rfl rfl (Does.not (.inl ⟨_, _, rfl, rfl, rfl⟩)) fun _ => ?_
          refine TO.go rfl rfl rfl (Does.not (.inl ⟨_, _, rfl, rfl, rfl⟩)) fun _ => ?_
          refine TO.go rfl rfl rfl (Does.not (.inl ⟨_, _, rfl, rfl, rfl⟩)) fun _ => ?_
          refine TO.go rfl rfl rfl (Does.pickT (v := .bool true) rfl rfl rfl rfl) fun _ => ?_
          refine TO.go rfl rfl rfl (Does.assign rfl rfl) fun _ => ?_
          refine TO.end rfl ?_
          exact TQ.then (T.sub (h124 true hm) (Sub.cons rfl (Sub.cons rfl (Sub.cons rfl (Sub.cons rfl (Sub.nil _))))) (fun w h => (h).ent (Ent.take 1 rfl)))
        · replace h146 := bool_f h146
          replace hm := ite_f hm h146
          refine TO.go rfl rfl rfl (Does.move (.inl ⟨_, _, rfl, rfl, by rw [h146]; rfl⟩) rfl) fun _ => ?_
          refine TO.go rfl rfl rfl (Does.bin (v := .bool (decide ((62 : UInt8) < v0))) (vy := .int .u8 (62 : UInt8).toNat) (.inl ⟨_, _, rfl, rfl, by rw [h146]; rfl⟩) rfl rfl g_int b8_gt) fun _ => ?_
          refine TO.go rfl rfl rfl (Does.pickF rfl rfl h146 rfl) fun _ => ?_
          refine TO.go rfl rfl rfl (Does.move rfl rfl) fun _ => ?_
          by_cases h147 : (decide ((62 : UInt8) < v0)) = true
          · replace hm := ite_t hm h147
            refine TO.go rfl rfl rfl (Does.not (.inl ⟨_, _, rfl, rfl, by rw [h147]; rfl⟩)) fun _ => ?_
            refine TO.go rfl rfl rfl (Does.not (.inl ⟨_, _, rfl, rfl, by rw [h147]; rfl⟩)) fun _ => ?_
            refine TO.go rfl rfl rfl (Does.not (.inl ⟨_, _, rfl, rfl, by rw [h147]; rfl⟩)) fun _ => ?_
            refine TO.go rfl rfl rfl (Does.not (.inl ⟨_, _, rfl, rfl, by rw [h147]; rfl⟩)) fun _ => ?_
            refine TO.go rfl rfl rfl (Does.not (.inl ⟨_, _, rfl, rfl, by rw [h147]; rfl⟩)) fun _ => ?_
            refine TO.go rfl rfl rfl (Does.pickT (v := .bool true) rfl rfl h147 rfl) fun _ => ?_
            refine TO.go rfl rfl rfl (Does.assign rfl rfl) fun _ => ?_
            refine TO.end rfl ?_
            exact TQ.then (T.sub (h124 true hm) (Sub.cons rfl (Sub.cons rfl (Sub.cons rfl (Sub.cons rfl (Sub.nil _))))) (fun w h => (h).ent (Ent.take 1 rfl)))
          · replace h147 := bool_f h147
            replace hm := ite_f hm h147
            refine TO.go rfl rfl rfl (Does.move (.inl ⟨_, _, rfl, rfl, by rw [h147]; rfl⟩) rfl) fun _ => ?_
            refine TO.go rfl rfl rfl (Does.bin (v := .int .u8 (v0 - (40 : UInt8)).toNat) (vy := .int .u8 (40 : UInt8).toNat) (.inl ⟨_, _, rfl, rfl, by rw [h147]; rfl⟩) rfl rfl g_int b8_sub) fun _ => ?_
            obtain ⟨v148, h149, hm⟩ := bind_o hm
            refine TO.go rfl rfl rfl (Does.indexArr (.inl ⟨_, _, rfl, rfl, by rw [h147]; rfl⟩) rfl rfl ar_155 (at?_out h149).1 (at?_out h149).2.1) fun _ => ?_
            refine TO.go rfl rfl rfl (Does.loadFlat (r := rS) (k := 0) (f := 0) (v := .string ⟨v148.toArray⟩) (.inl ⟨_, _, rfl, rfl, by rw [h147]; rfl⟩) rfl sc_9 rfl Arrd.arr (at?_out h149).2.2 rfl) fun _ => ?_
            refine TO.go rfl rfl rfl (Does.bin (v := .bool (v148 == ([] : List UInt8))) (vy := .string ⟨([] : List UInt8).toArray⟩) (.inl ⟨_, _, rfl, rfl, by rw [h147]; rfl⟩) rfl rfl g_str s_eq) fun _ => ?_
            refine TO.go rfl rfl rfl (Does.pickF rfl rfl h147 rfl) fun _ => ?_
            refine TO.go rfl rfl rfl (Does.assign rfl rfl) fun _ => ?_
            refine TO.end rfl ?_
            exact TQ.then (T.sub (h124 (v148 == ([] : List UInt8)) hm) (Sub.cons rfl (Sub.cons rfl (Sub.cons rfl (Sub.cons rfl (Sub.nil _))))) (fun w h => (h).ent (Ent.take 1 rfl)))

/-- creel/ops.binary -/
def f88.f (v0 : List UInt8) (v1 : List UInt8) (v2 : List UInt8) (v3 : List UInt8) (v4 : Bool) : Option ops_Info :=
  ((cat v0 v1).bind fun v103 => ((cat v2 v2).bind fun v105 => (if v4 = true then some ({ Name := v103, Imm := 0, Params := v2, Result := v3, Free := false } : ops_Info) else some ({ Name := v103, Imm := 0, Params := v105, Result := v3, Free := false } : ops_Info))))
set_option maxRecDepth 20000 in
set_option maxHeartbeats 1000000 in
theorem f88.ok {W w : World} {R : List Assn} (v0 : List UInt8) (v1 : List UInt8) (v2 : List UInt8) (v3 : List UInt8) (v4 : Bool) {r : ops_Info} (hm : f88.f v0 v1 v2 v3 v4 = some r) (hs : St W w (R)) :
    Calls Try.prog 88 #[.string ⟨v0.toArray⟩, .string ⟨v1.toArray⟩, .string ⟨v2.toArray⟩, .string ⟨v3.toArray⟩, .bool v4] w (fun e w' => ∃ x : Unit, e = .returned (.agg #[.string ⟨r.Name.toArray⟩, .int .i64 r.Imm, .string ⟨r.Params.toArray⟩, .string ⟨r.Result.toArray⟩, .bool r.Free]) ∧ St W w' (R)) := by
  unfold f88.f at hm
  refine calls_sym (vs := [.string ⟨v0.toArray⟩, .string ⟨v1.toArray⟩, .string ⟨v2.toArray⟩, .string ⟨v3.toArray⟩, .bool v4]) Try.func88 rfl rfl hs ?_
  refine T.seq rfl ?_
  refine T.region rfl ?_
  refine TO.go rfl rfl rfl (Does.alloc rfl zn_117) fun b101 => ?_
  refine TO.ent (L' := pts b101 [.string ⟨([] : List UInt8).toArray⟩, .int .i64 0, .string ⟨([] : List UInt8).toArray⟩, .string ⟨([] : List UInt8).toArray⟩, .bool false] :: R) (fun w h => h) ?_
  refine TO.end rfl ?_
  refine TQ.then ?_
  refine T.seq rfl ?_
  refine T.region rfl ?_
  refine TO.go rfl rfl rfl (Does.move rfl rfl) fun _ => ?_
  refine TO.go rfl rfl rfl (Does.move rfl rfl) fun _ => ?_
  obtain ⟨v103, h104, hm⟩ := bind_o hm
  refine TO.go rfl rfl rfl (Does.bin (v := .string ⟨v103.toArray⟩) rfl rfl rfl g_str (s_add h104)) fun _ => ?_
  refine TO.go rfl rfl rfl (Does.move rfl rfl) fun _ => ?_
  refine TO.go rfl rfl rfl (Does.move rfl rfl) fun _ => ?_
  obtain ⟨v105, h106, hm⟩ := bind_o hm
  refine TO.go rfl rfl rfl (Does.bin (v := .string ⟨v105.toArray⟩) rfl rfl rfl g_str (s_add h106)) fun _ => ?_
  refine TO.go rfl rfl rfl (Does.move rfl rfl) fun _ => ?_
  refine TO.go rfl rfl rfl (Does.build (v := .agg #[.string ⟨v103.toArray⟩, .int .i64 0, .string ⟨v105.toArray⟩, .string ⟨v3.toArray⟩, .bool false]) (vs := [(0, .string ⟨v103.toArray⟩), (2, .string ⟨v105.toArray⟩), (3, .string ⟨v3.toArray⟩)]) rfl rfl (fun w => by kernel_rfl)) fun _ => ?_
  refine TO.go rfl rfl rfl (Does.alloc rfl zn_117) fun b107 => ?_
  refine TO.ent (L' := pts b107 [.string ⟨([] : List UInt8).toArray⟩, .int .i64 0, .string ⟨([] : List UInt8).toArray⟩, .string ⟨([] : List UInt8).toArray⟩, .bool false] :: pts b101 [.string ⟨([] : List UInt8).toArray⟩, .int .i64 0, .string ⟨([] : List UInt8).toArray⟩, .string ⟨([] : List UInt8).toArray⟩, .bool false] :: R) (fun w h => h) ?_
  refine TO.go0 rfl rfl (Does.storePts (k := 0) (vs := [.string ⟨v103.toArray⟩, .int .i64 0, .string ⟨v105.toArray⟩, .string ⟨v3.toArray⟩, .bool false]) (cs' := [.string ⟨v103.toArray⟩, .int .i64 0, .string ⟨v105.toArray⟩, .string ⟨v3.toArray⟩, .bool false]) rfl rfl rfl rfl rfl cn_117 rfl rfl rfl rfl) fun _ => ?_
  refine TO.ent (L' := pts b107 [.string ⟨v103.toArray⟩, .int .i64 0, .string ⟨v105.toArray⟩, .string ⟨v3.toArray⟩, .bool false] :: pts b101 [.string ⟨([] : List UInt8).toArray⟩, .int .i64 0, .string ⟨([] : List UInt8).toArray⟩, .string ⟨([] : List UInt8).toArray⟩, .bool false] :: R) (fun w h => h) ?_
  refine TO.end rfl ?_
  refine TQ.then ?_
  refine T.seq rfl ?_
  refine T.seq rfl ?_
  refine T.region rfl ?_
  refine TO.go rfl rfl rfl (Does.move rfl rfl) fun _ => ?_
  refine TO.end rfl ?_
  refine TQ.then ?_
  refine T.cond rfl (b := v4) rfl (fun h110 => ?_) (fun h110 => ?_)
  · replace hm := ite_t hm h110
    refine T.region rfl ?_
    refine TO.go rfl rfl rfl (Does.move rfl rfl) fun _ => ?_
    refine TO.go rfl rfl rfl (Does.fieldAddr (o' := 2) rfl rfl fo_117_2 rfl) fun _ => ?_
    refine TO.go0 rfl rfl (Does.storePts (k := 0) (vs := [.string ⟨v2.toArray⟩]) (cs' := [.string ⟨v103.toArray⟩, .int .i64 0, .string ⟨v2.toArray⟩, .string ⟨v3.toArray⟩, .bool false]) rfl rfl rfl rfl rfl cn_9 rfl rfl rfl rfl) fun _ => ?_
    refine TO.ent (L' := pts b107 [.string ⟨v103.toArray⟩, .int .i64 0, .string ⟨v2.toArray⟩, .string ⟨v3.toArray⟩, .bool false] :: pts b101 [.string ⟨([] : List UInt8).toArray⟩, .int .i64 0, .string ⟨([] : List UInt8).toArray⟩, .string ⟨([] : List UInt8).toArray⟩, .bool false] :: R) (fun w h => h) ?_
    refine TO.end rfl ?_
    refine TQ.then ?_
    refine T.seq rfl ?_
    refine T.region rfl ?_
    refine TO.go rfl rfl rfl (Does.loadPtsN (k := 0) (vs := [.string ⟨v103.toArray⟩, .int .i64 0, .string ⟨v2.toArray⟩, .string ⟨v3.toArray⟩, .bool false]) rfl rfl ag_117 rfl rfl rfl) fun _ => ?_
    refine TO.go0 rfl rfl (Does.storePts (k := 1) (vs := [.string ⟨v103.toArray⟩, .int .i64 0, .string ⟨v2.toArray⟩, .string ⟨v3.toArray⟩, .bool false]) (cs' := [.string ⟨v103.toArray⟩, .int .i64 0, .string ⟨v2.toArray⟩, .string ⟨v3.toArray⟩, .bool false]) rfl rfl rfl rfl rfl cn_117 rfl rfl rfl rfl) fun _ => ?_
    refine TO.ent (L' := pts b107 [.string ⟨v103.toArray⟩, .int .i64 0, .string ⟨v2.toArray⟩, .string ⟨v3.toArray⟩, .bool false] :: pts b101 [.string ⟨v103.toArray⟩, .int .i64 0, .string ⟨v2.toArray⟩, .string ⟨v3.toArray⟩, .bool false] :: R) (fun w h => h) ?_
    refine TO.end rfl ?_
    refine TQ.then ?_
    refine T.ret rfl ?_
    refine TQ.result (.inl rfl) rfl (Res.cellN (k := 1) rfl rfl ag_117 Res.nil) rfl (fun w h => ?_)
    cases hm
    exact ⟨(), rfl, ((h).ent (Ent.drop _ _)).ent (Ent.drop _ _)⟩
  · replace hm := ite_f hm h110
    refine T.skip rfl ?_
    refine TQ.then ?_
    refine T.seq rfl ?_
    refine T.region rfl ?_
    refine TO.go rfl rfl rfl (Does.loadPtsN (k := 0) (vs := [.string ⟨v103.toArray⟩, .int .i64 0, .string ⟨v105.toArray⟩, .string ⟨v3.toArray⟩, .bool false]) rfl rfl ag_117 rfl rfl rfl) fun _ => ?_
    refine TO.go0 rfl rfl (Does.storePts (k := 1) (vs := [.string ⟨v103.toArray⟩, .int .i64 0, .string ⟨v105.toArray⟩, .string ⟨v3.toArray⟩, .bool false]) (cs' := [.string ⟨v103.toArray⟩, .int .i64 0, .string ⟨v105.toArray⟩, .string ⟨v3.toArray⟩, .bool false]) rfl rfl rfl rfl rfl cn_117 rfl rfl rfl rfl) fun _ => ?_
    refine TO.ent (L' := pts b107 [.string ⟨v103.toArray⟩, .int .i64 0, .string ⟨v105.toArray⟩, .string ⟨v3.toArray⟩, .bool false] :: pts b101 [.string ⟨v103.toArray⟩, .int .i64 0, .string ⟨v105.toArray⟩, .string ⟨v3.toArray⟩, .bool false] :: R) (fun w h => h) ?_
    refine TO.end rfl ?_
    refine TQ.then ?_
    refine T.ret rfl ?_
    refine TQ.result (.inl rfl) rfl (Res.cellN (k := 1) rfl rfl ag_117 Res.nil) rfl (fun w h => ?_)
    cases hm
    exact ⟨(), rfl, ((h).ent (Ent.drop _ _)).ent (Ent.drop _ _)⟩

end Go.Proofs.Ytfonekhhbmlkbaa
