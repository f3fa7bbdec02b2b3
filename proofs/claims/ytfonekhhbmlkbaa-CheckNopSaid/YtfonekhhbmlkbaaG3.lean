/- Mirrors of functions, and that the Go functions compute them. Printed by gofun.py. -/
import Derived.Test.YtfonekhhbmlkbaaG2
set_option linter.unusedVariables false
set_option linter.unusedSimpArgs false
namespace Go.Proofs.Ytfonekhhbmlkbaa
open Go Go.Sym
def f72.k0 : List Value := [.string ⟨([101, 113, 122] : List UInt8).toArray⟩, .string ⟨([101, 113] : List UInt8).toArray⟩, .string ⟨([110, 101] : List UInt8).toArray⟩, .string ⟨([108, 116, 95, 115] : List UInt8).toArray⟩, .string ⟨([108, 116, 95, 117] : List UInt8).toArray⟩, .string ⟨([103, 116, 95, 115] : List UInt8).toArray⟩, .string ⟨([103, 116, 95, 117] : List UInt8).toArray⟩, .string ⟨([108, 101, 95, 115] : List UInt8).toArray⟩, .string ⟨([108, 101, 95, 117] : List UInt8).toArray⟩, .string ⟨([103, 101, 95, 115] : List UInt8).toArray⟩, .string ⟨([103, 101, 95, 117] : List UInt8).toArray⟩]
def f72.c1 : List (List UInt8) := [([101, 113, 122] : List UInt8), ([101, 113] : List UInt8), ([110, 101] : List UInt8), ([108, 116, 95, 115] : List UInt8), ([108, 116, 95, 117] : List UInt8), ([103, 116, 95, 115] : List UInt8), ([103, 116, 95, 117] : List UInt8), ([108, 101, 95, 115] : List UInt8), ([108, 101, 95, 117] : List UInt8), ([103, 101, 95, 115] : List UInt8), ([103, 101, 95, 117] : List UInt8)]
def f72.k1 : List Value := [.string ⟨([99, 108, 122] : List UInt8).toArray⟩, .string ⟨([99, 116, 122] : List UInt8).toArray⟩, .string ⟨([112, 111, 112, 99, 110, 116] : List UInt8).toArray⟩, .string ⟨([97, 100, 100] : List UInt8).toArray⟩, .string ⟨([115, 117, 98] : List UInt8).toArray⟩, .string ⟨([109, 117, 108] : List UInt8).toArray⟩, .string ⟨([100, 105, 118, 95, 115] : List UInt8).toArray⟩, .string ⟨([100, 105, 118, 95, 117] : List UInt8).toArray⟩, .string ⟨([114, 101, 109, 95, 115] : List UInt8).toArray⟩, .string ⟨([114, 101, 109, 95, 117] : List UInt8).toArray⟩, .string ⟨([97, 110, 100] : List UInt8).toArray⟩, .string ⟨([111, 114] : List UInt8).toArray⟩, .string ⟨([120, 111, 114] : List UInt8).toArray⟩, .string ⟨([115, 104, 108] : List UInt8).toArray⟩, .string ⟨([115, 104, 114, 95, 115] : List UInt8).toArray⟩, .string ⟨([115, 104, 114, 95, 117] : List UInt8).toArray⟩, .string ⟨([114, 111, 116, 108] : List UInt8).toArray⟩, .string ⟨([114, 111, 116, 114] : List UInt8).toArray⟩]
def f72.c3 : List (List UInt8) := [([99, 108, 122] : List UInt8), ([99, 116, 122] : List UInt8), ([112, 111, 112, 99, 110, 116] : List UInt8), ([97, 100, 100] : List UInt8), ([115, 117, 98] : List UInt8), ([109, 117, 108] : List UInt8), ([100, 105, 118, 95, 115] : List UInt8), ([100, 105, 118, 95, 117] : List UInt8), ([114, 101, 109, 95, 115] : List UInt8), ([114, 101, 109, 95, 117] : List UInt8), ([97, 110, 100] : List UInt8), ([111, 114] : List UInt8), ([120, 111, 114] : List UInt8), ([115, 104, 108] : List UInt8), ([115, 104, 114, 95, 115] : List UInt8), ([115, 104, 114, 95, 117] : List UInt8), ([114, 111, 116, 108] : List UInt8), ([114, 111, 116, 114] : List UInt8)]
def f72.j4 (v0 : UInt8) (v187 : Bool) : Option ops_Info :=
  (if v187 = true then ((at? f72.c3 ((v0 - (121 : UInt8)).toNat : Int)).bind fun v190 => ((f88.f ([105, 54, 52, 46] : List UInt8) v190 ([126] : List UInt8) ([126] : List UInt8) (decide (v0 < (124 : UInt8)))).bind fun v192 => some v192)) else (if (v0 == (167 : UInt8)) = true then some ({ Name := ([105, 51, 50, 46, 119, 114, 97, 112, 95, 105, 54, 52] : List UInt8), Imm := 0, Params := ([126] : List UInt8), Result := ([127] : List UInt8), Free := false } : ops_Info) else (if (v0 == (172 : UInt8)) = true then some ({ Name := ([105, 54, 52, 46, 101, 120, 116, 101, 110, 100, 95, 105, 51, 50, 95, 115] : List UInt8), Imm := 0, Params := ([127] : List UInt8), Result := ([126] : List UInt8), Free := false } : ops_Info) else (if (v0 == (173 : UInt8)) = true then some ({ Name := ([105, 54, 52, 46, 101, 120, 116, 101, 110, 100, 95, 105, 51, 50, 95, 117] : List UInt8), Imm := 0, Params := ([127] : List UInt8), Result := ([126] : List UInt8), Free := false } : ops_Info) else some ({ Name := ([] : List UInt8), Imm := 0, Params := ([] : List UInt8), Result := ([] : List UInt8), Free := false } : ops_Info)))))
def f72.j3 (v0 : UInt8) (v177 : Bool) : Option ops_Info :=
  (if v177 = true then ((at? f72.c3 ((v0 - (103 : UInt8)).toNat : Int)).bind fun v180 => ((f88.f ([105, 51, 50, 46] : List UInt8) v180 ([127] : List UInt8) ([127] : List UInt8) (decide (v0 < (106 : UInt8)))).bind fun v182 => some v182)) else (if (decide ((121 : UInt8) ≤ v0)) = true then f72.j4 v0 (decide (v0 ≤ (138 : UInt8))) else f72.j4 v0 false))
def f72.j2 (v0 : UInt8) (v167 : Bool) : Option ops_Info :=
  (if v167 = true then ((at? f72.c1 ((v0 - (80 : UInt8)).toNat : Int)).bind fun v170 => ((f88.f ([105, 54, 52, 46] : List UInt8) v170 ([126] : List UInt8) ([127] : List UInt8) (v0 == (80 : UInt8))).bind fun v172 => some v172)) else (if (decide ((103 : UInt8) ≤ v0)) = true then f72.j3 v0 (decide (v0 ≤ (120 : UInt8))) else f72.j3 v0 false))
def f72.j1 (v0 : UInt8) (v156 : Bool) : Option ops_Info :=
  (if v156 = true then ((at? f72.c1 ((v0 - (69 : UInt8)).toNat : Int)).bind fun v159 => ((f88.f ([105, 51, 50, 46] : List UInt8) v159 ([127] : List UInt8) ([127] : List UInt8) (v0 == (69 : UInt8))).bind fun v161 => some v161)) else (if (decide ((80 : UInt8) ≤ v0)) = true then f72.j2 v0 (decide (v0 ≤ (90 : UInt8))) else f72.j2 v0 false))
/-- creel/ops.number -/
def f72.f (v0 : UInt8) : Option ops_Info :=
  (if (v0 == (65 : UInt8)) = true then some ({ Name := ([105, 51, 50, 46, 99, 111, 110, 115, 116] : List UInt8), Imm := 10, Params := ([] : List UInt8), Result := ([127] : List UInt8), Free := false } : ops_Info) else (if (v0 == (66 : UInt8)) = true then some ({ Name := ([105, 54, 52, 46, 99, 111, 110, 115, 116] : List UInt8), Imm := 11, Params := ([] : List UInt8), Result := ([126] : List UInt8), Free := false } : ops_Info) else (if (decide ((69 : UInt8) ≤ v0)) = true then f72.j1 v0 (decide (v0 ≤ (79 : UInt8))) else f72.j1 v0 false)))
set_option maxRecDepth 20000 in
set_option maxHeartbeats 1000000 in
theorem f72.ok {W w : World} {R : List Assn} (v0 : UInt8) {r : ops_Info} (hm : f72.f v0 = some r) (hs : St W w (R)) :
    Calls Try.prog 72 #[.int .u8 v0.toNat] w (fun e w' => ∃ x : Unit, e = .returned (.agg #[.string ⟨r.Name.toArray⟩, .int .i64 r.Imm, .string ⟨r.Params.toArray⟩, .string ⟨r.Result.toArray⟩, .bool r.Free]) ∧ St W w' (R)) := by
  unfold f72.f at hm
  refine calls_sym (vs := [.int .u8 v0.toNat]) Try.func72 rfl rfl hs ?_
  refine T.seq rfl ?_
  refine T.region rfl ?_
  refine TO.go rfl rfl rfl (Does.alloc rfl zn_117) fun b101 => ?_
  refine TO.ent (L' := pts b101 [.string ⟨([] : List UInt8).toArray⟩, .int .i64 0, .string ⟨([] : List UInt8).toArray⟩, .string ⟨([] : List UInt8).toArray⟩, .bool false] :: R) (fun w h => h) ?_
  refine TO.end rfl ?_
  refine TQ.then ?_
  refine T.seq rfl ?_
  refine T.region rfl ?_
  refine TO.go rfl rfl rfl (Does.build (v := .agg f72.k0.toArray) (vs := [(0, .string ⟨([101, 113, 122] : List UInt8).toArray⟩), (1, .string ⟨([101, 113] : List UInt8).toArray⟩), (2, .string ⟨([110, 101] : List UInt8).toArray⟩), (3, .string ⟨([108, 116, 95, 115] : List UInt8).toArray⟩), (4, .string ⟨([108, 116, 95, 117] : List UInt8).toArray⟩), (5, .string ⟨([103, 116, 95, 115] : List UInt8).toArray⟩), (6, .string ⟨([103, 116, 95, 117] : List UInt8).toArray⟩), (7, .string ⟨([108, 101, 95, 115] : List UInt8).toArray⟩), (8, .string ⟨([108, 101, 95, 117] : List UInt8).toArray⟩), (9, .string ⟨([103, 101, 95, 115] : List UInt8).toArray⟩), (10, .string ⟨([103, 101, 95, 117] : List UInt8).toArray⟩)]) rfl rfl (fun w => by kernel_rfl)) fun _ => ?_
  refine TO.go rfl rfl rfl (Does.alloc rfl zn_156) fun b103 => ?_
  refine TO.ent (L' := pts b103 zl_156 :: pts b101 [.string ⟨([] : List UInt8).toArray⟩, .int .i64 0, .string ⟨([] : List UInt8).toArray⟩, .string ⟨([] : List UInt8).toArray⟩, .bool false] :: R) (fun w h => h) ?_
  refine TO.go0 rfl rfl (Does.storePts (k := 0) (v := .agg f72.k0.toArray) (vs := f72.k0) (cs' := f72.k0) rfl rfl rfl rfl (by kernel_rfl) cn_156 rfl (by kernel_rfl) (by kernel_rfl) rfl) fun _ => ?_
  refine TO.ent (fun w h => arr_of_pts (r := rS) f72.c1 (by kernel_rfl) (h)) ?_
  refine TO.end rfl ?_
  refine TQ.then ?_
  refine T.seq rfl ?_
  refine T.region rfl ?_
  refine TO.go rfl rfl rfl (Does.build (v := .agg f72.k1.toArray) (vs := [(0, .string ⟨([99, 108, 122] : List UInt8).toArray⟩), (1, .string ⟨([99, 116, 122] : List UInt8).toArray⟩), (2, .string ⟨([112, 111, 112, 99, 110, 116] : List UInt8).toArray⟩), (3, .string ⟨([97, 100, 100] : List UInt8).toArray⟩), (4, .string ⟨([115, 117, 98] : List UInt8).toArray⟩), (5, .string ⟨([109, 117, 108] : List UInt8).toArray⟩), (6, .string ⟨([100, 105, 118, 95, 115] : List UInt8).toArray⟩), (7, .string ⟨([100, 105, 118, 95, 117] : List UInt8).toArray⟩), (8, .string ⟨([114, 101, 109, 95, 115] : List UInt8).toArray⟩), (9, .string ⟨([114, 101, 109, 95, 117] : List UInt8).toArray⟩), (10, .string ⟨([97, 110, 100] : List UInt8).toArray⟩), (11, .string ⟨([111, 114] : List UInt8).toArray⟩), (12, .string ⟨([120, 111, 114] : List UInt8).toArray⟩), (13, .string ⟨([115, 104, 108] : List UInt8).toArray⟩), (14, .string ⟨([115, 104, 114, 95, 115] : List UInt8).toArray⟩), (15, .string ⟨([115, 104, 114, 95, 117] : List UInt8).toArray⟩), (16, .string ⟨([114, 111, 116, 108] : List UInt8).toArray⟩), (17, .string ⟨([114, 111, 116, 114] : List UInt8).toArray⟩)]) rfl rfl (fun w => by kernel_rfl)) fun _ => ?_
  refine TO.go rfl rfl rfl (Does.alloc rfl zn_157) fun b105 => ?_
  refine TO.ent (L' := pts b105 zl_157 :: arr rS b103 f72.c1 :: pts b101 [.string ⟨([] : List UInt8).toArray⟩, .int .i64 0, .string ⟨([] : List UInt8).toArray⟩, .string ⟨([] : List UInt8).toArray⟩, .bool false] :: R) (fun w h => h) ?_
  refine TO.go0 rfl rfl (Does.storePts (k := 0) (v := .agg f72.k1.toArray) (vs := f72.k1) (cs' := f72.k1) rfl rfl rfl rfl (by kernel_rfl) cn_157 rfl (by kernel_rfl) (by kernel_rfl) rfl) fun _ => ?_
  refine TO.ent (fun w h => arr_of_pts (r := rS) f72.c3 (by kernel_rfl) (h)) ?_
  refine TO.end rfl ?_
  refine TQ.then ?_
  refine T.seq rfl ?_
  refine T.block rfl ?_
  refine T.seq rfl ?_
  refine T.region rfl ?_
  refine TO.go rfl rfl rfl (Does.move rfl rfl) fun _ => ?_
  refine TO.go rfl rfl rfl (Does.bin (v := .bool (v0 == (65 : UInt8))) (vy := .int .u8 (65 : UInt8).toNat) rfl rfl rfl g_int b8_eq) fun _ => ?_
  refine TO.go rfl rfl rfl (Does.assign rfl rfl) fun _ => ?_
  refine TO.end rfl ?_
  refine TQ.then ?_
  refine T.cond rfl (b := (v0 == (65 : UInt8))) rfl (fun h150 => ?_) (fun h150 => ?_)
  · replace hm := ite_t hm h150
    refine T.seq rfl ?_
    refine T.region rfl ?_
    refine TO.go rfl rfl rfl (Does.build (v := .agg #[.string ⟨([105, 51, 50, 46, 99, 111, 110, 115, 116] : List UInt8).toArray⟩, .int .i64 10, .string ⟨([] : List UInt8).toArray⟩, .string ⟨([127] : List UInt8).toArray⟩, .bool false]) (vs := [(0, .string ⟨([105, 51, 50, 46, 99, 111, 110, 115, 116] : List UInt8).toArray⟩), (1, .int .i64 10), (3, .string ⟨([127] : List UInt8).toArray⟩)]) rfl rfl (fun w => by kernel_rfl)) fun _ => ?_
    refine TO.go0 rfl rfl (Does.storePts (k := 2) (vs := [.string ⟨([105, 51, 50, 46, 99, 111, 110, 115, 116] : List UInt8).toArray⟩, .int .i64 10, .string ⟨([] : List UInt8).toArray⟩, .string ⟨([127] : List UInt8).toArray⟩, .bool false]) (cs' := [.string ⟨([105, 51, 50, 46, 99, 111, 110, 115, 116] : List UInt8).toArray⟩, .int .i64 10, .string ⟨([] : List UInt8).toArray⟩, .string ⟨([127] : List UInt8).toArray⟩, .bool false]) rfl rfl rfl rfl rfl cn_117 rfl rfl rfl rfl) fun _ => ?_
    refine TO.ent (L' := arr rS b105 f72.c3 :: arr rS b103 f72.c1 :: pts b101 [.string ⟨([105, 51, 50, 46, 99, 111, 110, 115, 116] : List UInt8).toArray⟩, .int .i64 10, .string ⟨([] : List UInt8).toArray⟩, .string ⟨([127] : List UInt8).toArray⟩, .bool false] :: R) (fun w h => h) ?_
    refine TO.end rfl ?_
    refine TQ.then ?_
    refine T.ret rfl ?_
    refine TQ.passBlockRet ?_
    refine TQ.passThenRet ?_
    refine TQ.result (.inl rfl) rfl (Res.cellN (k := 2) rfl rfl ag_117 Res.nil) rfl (fun w h => ?_)
    cases hm
    exact ⟨(), rfl, (((h).ent (Ent.drop _ _)).ent (Ent.drop _ _)).ent (Ent.drop _ _)⟩
  · replace hm := ite_f hm h150
    refine T.seq rfl ?_
    refine T.region rfl ?_
    refine TO.go rfl rfl rfl (Does.move rfl rfl) fun _ => ?_
    refine TO.go rfl rfl rfl (Does.bin (v := .bool (v0 == (66 : UInt8))) (vy := .int .u8 (66 : UInt8).toNat) rfl rfl rfl g_int b8_eq) fun _ => ?_
    refine TO.go rfl rfl rfl (Does.assign rfl rfl) fun _ => ?_
    refine TO.end rfl ?_
    refine TQ.then ?_
    refine T.cond rfl (b := (v0 == (66 : UInt8))) rfl (fun h151 => ?_) (fun h151 => ?_)
    · replace hm := ite_t hm h151
      refine T.seq rfl ?_
      refine T.region rfl ?_
      refine TO.go rfl rfl rfl (Does.build (v := .agg #[.string ⟨([105, 54, 52, 46, 99, 111, 110, 115, 116] : List UInt8).toArray⟩, .int .i64 11, .string ⟨([] : List UInt8).toArray⟩, .string ⟨([126] : List UInt8).toArray⟩, .bool false]) (vs := [(0, .string ⟨([105, 54, 52, 46, 99, 111, 110, 115, 116] : List UInt8).toArray⟩), (1, .int .i64 11), (3, .string ⟨([126] : List UInt8).toArray⟩)]) rfl rfl (fun w => by kernel_rfl)) fun _ => ?_
      refine TO.go0 rfl rfl (Does.storePts (k := 2) (vs := [.string ⟨([105, 54, 52, 46, 99, 111, 110, 115, 116] : List UInt8).toArray⟩, .int .i64 11, .string ⟨([] : List UInt8).toArray⟩, .string ⟨([126] : List UInt8).toArray⟩, .bool false]) (cs' := [.string ⟨([105, 54, 52, 46, 99, 111, 110, 115, 116] : List UInt8).toArray⟩, .int .i64 11, .string ⟨([] : List UInt8).toArray⟩, .string ⟨([126] : List UInt8).toArray⟩, .bool false]) rfl rfl rfl rfl rfl cn_117 rfl rfl rfl rfl) fun _ => ?_
      refine TO.ent (L' := arr rS b105 f72.c3 :: arr rS b103 f72.c1 :: pts b101 [.string ⟨([105, 54, 52, 46, 99, 111, 110, 115, 116] : List UInt8).toArray⟩, .int .i64 11, .string ⟨([] : List UInt8).toArray⟩, .string ⟨([126] : List UInt8).toArray⟩, .bool false] :: R) (fun w h => h) ?_
      refine TO.end rfl ?_
      refine TQ.then ?_
      refine T.ret rfl ?_
      refine TQ.passBlockRet ?_
      refine TQ.passThenRet ?_
      refine TQ.result (.inl rfl) rfl (Res.cellN (k := 2) rfl rfl ag_117 Res.nil) rfl (fun w h => ?_)
      cases hm
      exact ⟨(), rfl, (((h).ent (Ent.drop _ _)).ent (Ent.drop _ _)).ent (Ent.drop _ _)⟩
    · replace hm := ite_f hm h151
      refine T.seqJ (X := Bool) rfl (fun x => [(15, .bool x), (4, .pointer (some ⟨b105, 0, none⟩)), (3, .pointer (some ⟨b103, 0, none⟩)), (2, .pointer (some ⟨b101, 0, none⟩)), (0, .int .u8 v0.toNat)]) (fun x => pts b101 [.string ⟨([] : List UInt8).toArray⟩, .int .i64 0, .string ⟨([] : List UInt8).toArray⟩, .string ⟨([] : List UInt8).toArray⟩, .bool false] :: arr rS b103 f72.c1 :: arr rS b105 f72.c3 :: R) (fun x => f72.j1 v0 x = some r) ?_ ?_
      · rintro v156 hm
        try dsimp only
        unfold f72.j1 at hm
        refine T.cond rfl (b := v156) rfl (fun h158 => ?_) (fun h158 => ?_)
        · replace hm := ite_t hm h158
          refine T.seq rfl ?_
          refine T.region rfl ?_
          refine TO.go rfl rfl rfl (Does.move rfl rfl) fun _ => ?_
          refine TO.go rfl rfl rfl (Does.bin (v := .int .u8 (v0 - (69 : UInt8)).toNat) (vy := .int .u8 (69 : UInt8).toNat) rfl rfl rfl g_int b8_sub) fun _ => ?_
          obtain ⟨v159, h160, hm⟩ := bind_o hm
          refine TO.go rfl rfl rfl (Does.indexArr rfl rfl rfl ar_156 (at?_out h160).1 (at?_out h160).2.1) fun _ => ?_
          refine TO.go rfl rfl rfl (Does.loadFlat (r := rS) (k := 1) (f := 0) (v := .string ⟨v159.toArray⟩) rfl rfl sc_9 rfl Arrd.arr (at?_out h160).2.2 rfl) fun _ => ?_
          refine TO.go rfl rfl rfl (Does.move rfl rfl) fun _ => ?_
          refine TO.go rfl rfl rfl (Does.bin (v := .bool (v0 == (69 : UInt8))) (vy := .int .u8 (69 : UInt8).toNat) rfl rfl rfl g_int b8_eq) fun _ => ?_
          obtain ⟨v161, h162, hm⟩ := bind_o hm
          refine TO.go rfl rfl rfl (Does.conseq (Does.call (vs := [.string ⟨([105, 51, 50, 46] : List UInt8).toArray⟩, .string ⟨v159.toArray⟩, .string ⟨([127] : List UInt8).toArray⟩, .string ⟨([127] : List UInt8).toArray⟩, .bool (v0 == (69 : UInt8))]) rfl co_88 rfl (fun w h => f88.ok ([105, 51, 50, 46] : List UInt8) v159 ([127] : List UInt8) ([127] : List UInt8) (v0 == (69 : UInt8)) h162 (h))) (fun w h => h) (fun x w h => (((h).ent (Ent.take 2 rfl)).ent (Ent.take 2 rfl)).ent (Ent.take 2 rfl))) fun _ => ?_
          refine TO.go0 rfl rfl (Does.storePts (k := 0) (vs := [.string ⟨v161.Name.toArray⟩, .int .i64 v161.Imm, .string ⟨v161.Params.toArray⟩, .string ⟨v161.Result.toArray⟩, .bool v161.Free]) (cs' := [.string ⟨v161.Name.toArray⟩, .int .i64 v161.Imm, .string ⟨v161.Params.toArray⟩, .string ⟨v161.Result.toArray⟩, .bool v161.Free]) rfl rfl rfl rfl rfl cn_117 rfl rfl rfl rfl) fun _ => ?_
          refine TO.ent (L' := pts b101 [.string ⟨v161.Name.toArray⟩, .int .i64 v161.Imm, .string ⟨v161.Params.toArray⟩, .string ⟨v161.Result.toArray⟩, .bool v161.Free] :: arr rS b103 f72.c1 :: arr rS b105 f72.c3 :: R) (fun w h => h) ?_
          refine TO.end rfl ?_
          refine TQ.then ?_
          refine T.ret rfl ?_
          refine TQ.passBlockRet ?_
          refine TQ.passThenRet ?_
          refine TQ.result (.inl rfl) rfl (Res.cellN (k := 0) rfl rfl ag_117 Res.nil) rfl (fun w h => ?_)
          cases hm
          exact ⟨(), rfl, (((h).ent (Ent.drop _ _)).ent (Ent.drop _ _)).ent (Ent.drop _ _)⟩
        · replace hm := ite_f hm h158
          refine T.seqJ (X := Bool) rfl (fun x => [(29, .bool x), (4, .pointer (some ⟨b105, 0, none⟩)), (3, .pointer (some ⟨b103, 0, none⟩)), (2, .pointer (some ⟨b101, 0, none⟩)), (0, .int .u8 v0.toNat)]) (fun x => pts b101 [.string ⟨([] : List UInt8).toArray⟩, .int .i64 0, .string ⟨([] : List UInt8).toArray⟩, .string ⟨([] : List UInt8).toArray⟩, .bool false] :: arr rS b103 f72.c1 :: arr rS b105 f72.c3 :: R) (fun x => f72.j2 v0 x = some r) ?_ ?_
          · rintro v167 hm
            try dsimp only
            unfold f72.j2 at hm
            refine T.cond rfl (b := v167) rfl (fun h169 => ?_) (fun h169 => ?_)
            · replace hm := ite_t hm h169
              refine T.seq rfl ?_
              refine T.region rfl ?_
              refine TO.go rfl rfl rfl (Does.move rfl rfl) fun _ => ?_
              refine TO.go rfl rfl rfl (Does.bin (v := .int .u8 (v0 - (80 : UInt8)).toNat) (vy := .int .u8 (80 : UInt8).toNat) rfl rfl rfl g_int b8_sub) fun _ => ?_
              obtain ⟨v170, h171, hm⟩ := bind_o hm
              refine TO.go rfl rfl rfl (Does.indexArr rfl rfl rfl ar_156 (at?_out h171).1 (at?_out h171).2.1) fun _ => ?_
              refine TO.go rfl rfl rfl (Does.loadFlat (r := rS) (k := 1) (f := 0) (v := .string ⟨v170.toArray⟩) rfl rfl sc_9 rfl Arrd.arr (at?_out h171).2.2 rfl) fun _ => ?_
              refine TO.go rfl rfl rfl (Does.move rfl rfl) fun _ => ?_
              refine TO.go rfl rfl rfl (Does.bin (v := .bool (v0 == (80 : UInt8))) (vy := .int .u8 (80 : UInt8).toNat) rfl rfl rfl g_int b8_eq) fun _ => ?_
              obtain ⟨v172, h173, hm⟩ := bind_o hm
              refine TO.go rfl rfl rfl (Does.conseq (Does.call (vs := [.string ⟨([105, 54, 52, 46] : List UInt8).toArray⟩, .string ⟨v170.toArray⟩, .string ⟨([126] : List UInt8).toArray⟩, .string ⟨([127] : List UInt8).toArray⟩, .bool (v0 == (80 : UInt8))]) rfl co_88 rfl (fun w h => f88.ok ([105, 54, 52, 46] : List UInt8) v170 ([126] : List UInt8) ([127] : List UInt8) (v0 == (80 : UInt8)) h173 (h))) (fun w h => h) (fun x w h => (((h).ent (Ent.take 2 rfl)).ent (Ent.take 2 rfl)).ent (Ent.take 2 rfl))) fun _ => ?_
              refine TO.go0 rfl rfl (Does.storePts (k := 0) (vs := [.string ⟨v172.Name.toArray⟩, .int .i64 v172.Imm, .string ⟨v172.Params.toArray⟩, .string ⟨v172.Result.toArray⟩, .bool v172.Free]) (cs' := [.string ⟨v172.Name.toArray⟩, .int .i64 v172.Imm, .string ⟨v172.Params.toArray⟩, .string ⟨v172.Result.toArray⟩, .bool v172.Free]) rfl rfl rfl rfl rfl cn_117 rfl rfl rfl rfl) fun _ => ?_
              refine TO.ent (L' := pts b101 [.string ⟨v172.Name.toArray⟩, .int .i64 v172.Imm, .string ⟨v172.Params.toArray⟩, .string ⟨v172.Result.toArray⟩, .bool v172.Free] :: arr rS b103 f72.c1 :: arr rS b105 f72.c3 :: R) (fun w h => h) ?_
              refine TO.end rfl ?_
              refine TQ.then ?_
              refine T.ret rfl ?_
              refine TQ.passBlockRet ?_
              refine TQ.passThenRet ?_
              refine TQ.result (.inl rfl) rfl (Res.cellN (k := 0) rfl rfl ag_117 Res.nil) rfl (fun w h => ?_)
              cases hm
              exact ⟨(), rfl, (((h).ent (Ent.drop _ _)).ent (Ent.drop _ _)).ent (Ent.drop _ _)⟩
            · replace hm := ite_f hm h169
              refine T.seqJ (X := Bool) rfl (fun x => [(43, .bool x), (4, .pointer (some ⟨b105, 0, none⟩)), (2, .pointer (some ⟨b101, 0, none⟩)), (0, .int .u8 v0.toNat)]) (fun x => pts b101 [.string ⟨([] : List UInt8).toArray⟩, .int .i64 0, .string ⟨([] : List UInt8).toArray⟩, .string ⟨([] : List UInt8).toArray⟩, .bool false] :: arr rS b105 f72.c3 :: R) (fun x => f72.j3 v0 x = some r) ?_ ?_
              · rintro v177 hm
                try dsimp only
                unfold f72.j3 at hm
                refine T.cond rfl (b := v177) rfl (fun h179 => ?_) (fun h179 => ?_)
                · replace hm := ite_t hm h179
                  refine T.seq rfl ?_
                  refine T.region rfl ?_
                  refine TO.go rfl rfl rfl (Does.move rfl rfl) fun _ => ?_
                  refine TO.go rfl rfl rfl (Does.bin (v := .int .u8 (v0 - (103 : UInt8)).toNat) (vy := .int .u8 (103 : UInt8).toNat) rfl rfl rfl g_int b8_sub) fun _ => ?_
                  obtain ⟨v180, h181, hm⟩ := bind_o hm
                  refine TO.go rfl rfl rfl (Does.indexArr rfl rfl rfl ar_157 (at?_out h181).1 (at?_out h181).2.1) fun _ => ?_
                  refine TO.go rfl rfl rfl (Does.loadFlat (r := rS) (k := 1) (f := 0) (v := .string ⟨v180.toArray⟩) rfl rfl sc_9 rfl Arrd.arr (at?_out h181).2.2 rfl) fun _ => ?_
                  refine TO.go rfl rfl rfl (Does.move rfl rfl) fun _ => ?_
                  refine TO.go rfl rfl rfl (Does.bin (v := .bool (decide (v0 < (106 : UInt8)))) (vy := .int .u8 (106 : UInt8).toNat) rfl rfl rfl g_int b8_lt) fun _ => ?_
                  obtain ⟨v182, h183, hm⟩ := bind_o hm
                  refine TO.go rfl rfl rfl (Does.conseq (Does.call (vs := [.string ⟨([105, 51, 50, 46] : List UInt8).toArray⟩, .string ⟨v180.toArray⟩, .string ⟨([127] : List UInt8).toArray⟩, .string ⟨([127] : List UInt8).toArray⟩, .bool (decide (v0 < (106 : UInt8)))]) rfl co_88 rfl (fun w h => f88.ok ([105, 51, 50, 46] : List UInt8) v180 ([127] : List UInt8) ([127] : List UInt8) (decide (v0 < (106 : UInt8))) h183 (h))) (fun w h => h) (fun x w h => ((h).ent (Ent.take 1 rfl)).ent (Ent.take 1 rfl))) fun _ => ?_
                  refine TO.go0 rfl rfl (Does.storePts (k := 0) (vs := [.string ⟨v182.Name.toArray⟩, .int .i64 v182.Imm, .string ⟨v182.Params.toArray⟩, .string ⟨v182.Result.toArray⟩, .bool v182.Free]) (cs' := [.string ⟨v182.Name.toArray⟩, .int .i64 v182.Imm, .string ⟨v182.Params.toArray⟩, .string ⟨v182.Result.toArray⟩, .bool v182.Free]) rfl rfl rfl rfl rfl cn_117 rfl rfl rfl rfl) fun _ => ?_
                  refine TO.ent (L' := pts b101 [.string ⟨v182.Name.toArray⟩, .int .i64 v182.Imm, .string ⟨v182.Params.toArray⟩, .string ⟨v182.Result.toArray⟩, .bool v182.Free] :: arr rS b105 f72.c3 :: R) (fun w h => h) ?_
                  refine TO.end rfl ?_
                  refine TQ.then ?_
                  refine T.ret rfl ?_
                  refine TQ.passBlockRet ?_
                  refine TQ.passThenRet ?_
                  refine TQ.result (.inl rfl) rfl (Res.cellN (k := 0) rfl rfl ag_117 Res.nil) rfl (fun w h => ?_)
                  cases hm
                  exact ⟨(), rfl, ((h).ent (Ent.drop _ _)).ent (Ent.drop _ _)⟩
                · replace hm := ite_f hm h179
                  refine T.seqJ (X := Bool) rfl (fun x => [(57, .bool x), (4, .pointer (some ⟨b105, 0, none⟩)), (2, .pointer (some ⟨b101, 0, none⟩)), (0, .int .u8 v0.toNat)]) (fun x => pts b101 [.string ⟨([] : List UInt8).toArray⟩, .int .i64 0, .string ⟨([] : List UInt8).toArray⟩, .string ⟨([] : List UInt8).toArray⟩, .bool false] :: arr rS b105 f72.c3 :: R) (fun x => f72.j4 v0 x = some r) ?_ ?_
                  · rintro v187 hm
                    try dsimp only
                    unfold f72.j4 at hm
                    refine T.cond rfl (b := v187) rfl (fun h189 => ?_) (fun h189 => ?_)
                    · replace hm := ite_t hm h189
                      refine T.seq rfl ?_
                      refine T.region rfl ?_
                      refine TO.go rfl rfl rfl (Does.move rfl rfl) fun _ => ?_
                      refine TO.go rfl rfl rfl (Does.bin (v := .int .u8 (v0 - (121 : UInt8)).toNat) (vy := .int .u8 (121 : UInt8).toNat) rfl rfl rfl g_int b8_sub) fun _ => ?_
                      obtain ⟨v190, h191, hm⟩ := bind_o hm
                      refine TO.go rfl rfl rfl (Does.indexArr rfl rfl rfl ar_157 (at?_out h191).1 (at?_out h191).2.1) fun _ => ?_
                      refine TO.go rfl rfl rfl (Does.loadFlat (r := rS) (k := 1) (f := 0) (v := .string ⟨v190.toArray⟩) rfl rfl sc_9 rfl Arrd.arr (at?_out h191).2.2 rfl) fun _ => ?_
                      refine TO.go rfl rfl rfl (Does.move rfl rfl) fun _ => ?_
                      refine TO.go rfl rfl rfl (Does.bin (v := .bool (decide (v0 < (124 : UInt8)))) (vy := .int .u8 (124 : UInt8).toNat) rfl rfl rfl g_int b8_lt) fun _ => ?_
                      obtain ⟨v192, h193, hm⟩ := bind_o hm
                      refine TO.go rfl rfl rfl (Does.conseq (Does.call (vs := [.string ⟨([105, 54, 52, 46] : List UInt8).toArray⟩, .string ⟨v190.toArray⟩, .string ⟨([126] : List UInt8).toArray⟩, .string ⟨([126] : List UInt8).toArray⟩, .bool (decide (v0 < (124 : UInt8)))]) rfl co_88 rfl (fun w h => f88.ok ([105, 54, 52, 46] : List UInt8) v190 ([126] : List UInt8) ([126] : List UInt8) (decide (v0 < (124 : UInt8))) h193 (h))) (fun w h => h) (fun x w h => ((h).ent (Ent.take 1 rfl)).ent (Ent.take 1 rfl))) fun _ => ?_
                      refine TO.go0 rfl rfl (Does.storePts (k := 0) (vs := [.string ⟨v192.Name.toArray⟩, .int .i64 v192.Imm, .string ⟨v192.Params.toArray⟩, .string ⟨v192.Result.toArray⟩, .bool v192.Free]) (cs' := [.string ⟨v192.Name.toArray⟩, .int .i64 v192.Imm, .string ⟨v192.Params.toArray⟩, .string ⟨v192.Result.toArray⟩, .bool v192.Free]) rfl rfl rfl rfl rfl cn_117 rfl rfl rfl rfl) fun _ => ?_
                      refine TO.ent (L' := pts b101 [.string ⟨v192.Name.toArray⟩, .int .i64 v192.Imm, .string ⟨v192.Params.toArray⟩, .string ⟨v192.Result.toArray⟩, .bool v192.Free] :: arr rS b105 f72.c3 :: R) (fun w h => h) ?_
                      refine TO.end rfl ?_
                      refine TQ.then ?_
                      refine T.ret rfl ?_
                      refine TQ.passBlockRet ?_
                      refine TQ.passThenRet ?_
                      refine TQ.result (.inl rfl) rfl (Res.cellN (k := 0) rfl rfl ag_117 Res.nil) rfl (fun w h => ?_)
                      cases hm
                      exact ⟨(), rfl, ((h).ent (Ent.drop _ _)).ent (Ent.drop _ _)⟩
                    · replace hm := ite_f hm h189
                      refine T.seq rfl ?_
                      refine T.region rfl ?_
                      refine TO.go rfl rfl rfl (Does.move rfl rfl) fun _ => ?_
                      refine TO.go rfl rfl rfl (Does.bin (v := .bool (v0 == (167 : UInt8))) (vy := .int .u8 (167 : UInt8).toNat) rfl rfl rfl g_int b8_eq) fun _ => ?_
                      refine TO.go rfl rfl rfl (Does.assign rfl rfl) fun _ => ?_
                      refine TO.end rfl ?_
                      refine TQ.then ?_
                      refine T.cond rfl (b := (v0 == (167 : UInt8))) rfl (fun h194 => ?_) (fun h194 => ?_)
                      · replace hm := ite_t hm h194
                        refine T.seq rfl ?_
                        refine T.region rfl ?_
                        refine TO.go rfl rfl rfl (Does.build (v := .agg #[.string ⟨([105, 51, 50, 46, 119, 114, 97, 112, 95, 105, 54, 52] : List UInt8).toArray⟩, .int .i64 0, .string ⟨([126] : List UInt8).toArray⟩, .string ⟨([127] : List UInt8).toArray⟩, .bool false]) (vs := [(0, .string ⟨([105, 51, 50, 46, 119, 114, 97, 112, 95, 105, 54, 52] : List UInt8).toArray⟩), (2, .string ⟨([126] : List UInt8).toArray⟩), (3, .string ⟨([127] : List UInt8).toArray⟩)]) rfl rfl (fun w => by kernel_rfl)) fun _ => ?_
                        refine TO.go0 rfl rfl (Does.storePts (k := 0) (vs := [.string ⟨([105, 51, 50, 46, 119, 114, 97, 112, 95, 105, 54, 52] : List UInt8).toArray⟩, .int .i64 0, .string ⟨([126] : List UInt8).toArray⟩, .string ⟨([127] : List UInt8).toArray⟩, .bool false]) (cs' := [.string ⟨([105, 51, 50, 46, 119, 114, 97, 112, 95, 105, 54, 52] : List UInt8).toArray⟩, .int .i64 0, .string ⟨([126] : List UInt8).toArray⟩, .string ⟨([127] : List UInt8).toArray⟩, .bool false]) rfl rfl rfl rfl rfl cn_117 rfl rfl rfl rfl) fun _ => ?_
                        refine TO.ent (L' := pts b101 [.string ⟨([105, 51, 50, 46, 119, 114, 97, 112, 95, 105, 54, 52] : List UInt8).toArray⟩, .int .i64 0, .string ⟨([126] : List UInt8).toArray⟩, .string ⟨([127] : List UInt8).toArray⟩, .bool false] :: arr rS b105 f72.c3 :: R) (fun w h => h) ?_
                        refine TO.end rfl ?_
                        refine TQ.then ?_
                        refine T.ret rfl ?_
                        refine TQ.passBlockRet ?_
                        refine TQ.passThenRet ?_
                        refine TQ.result (.inl rfl) rfl (Res.cellN (k := 0) rfl rfl ag_117 Res.nil) rfl (fun w h => ?_)
                        cases hm
                        exact ⟨(), rfl, ((h).ent (Ent.drop _ _)).ent (Ent.drop _ _)⟩
                      · replace hm := ite_f hm h194
                        refine T.seq rfl ?_
                        refine T.region rfl ?_
                        refine TO.go rfl rfl rfl (Does.move rfl rfl) fun _ => ?_
                        refine TO.go rfl rfl rfl (Does.bin (v := .bool (v0 == (172 : UInt8))) (vy := .int .u8 (172 : UInt8).toNat) rfl rfl rfl g_int b8_eq) fun _ => ?_
                        refine TO.go rfl rfl rfl (Does.assign rfl rfl) fun _ => ?_
                        refine TO.end rfl ?_
                        refine TQ.then ?_
                        refine T.cond rfl (b := (v0 == (172 : UInt8))) rfl (fun h195 => ?_) (fun h195 => ?_)
                        · replace hm := ite_t hm h195
                          refine T.seq rfl ?_
                          refine T.region rfl ?_
                          refine TO.go rfl rfl rfl (Does.build (v := .agg #[.string ⟨([105, 54, 52, 46, 101, 120, 116, 101, 110, 100, 95, 105, 51, 50, 95, 115] : List UInt8).toArray⟩, .int .i64 0, .string ⟨([127] : List UInt8).toArray⟩, .string ⟨([126] : List UInt8).toArray⟩, .bool false]) (vs := [(0, .string ⟨([105, 54, 52, 46, 101, 120, 116, 101, 110, 100, 95, 105, 51, 50, 95, 115] : List UInt8).toArray⟩), (2, .string ⟨([127] : List UInt8).toArray⟩), (3, .string ⟨([126] : List UInt8).toArray⟩)]) rfl rfl (fun w => by kernel_rfl)) fun _ => ?_
                          refine TO.go0 rfl rfl (Does.storePts (k := 0) (vs := [.string ⟨([105, 54, 52, 46, 101, 120, 116, 101, 110, 100, 95, 105, 51, 50, 95, 115] : List UInt8).toArray⟩, .int .i64 0, .string ⟨([127] : List UInt8).toArray⟩, .string ⟨([126] : List UInt8).toArray⟩, .bool false]) (cs' := [.string ⟨([105, 54, 52, 46, 101, 120, 116, 101, 110, 100, 95, 105, 51, 50, 95, 115] : List UInt8).toArray⟩, .int .i64 0, .string ⟨([127] : List UInt8).toArray⟩, .string ⟨([126] : List UInt8).toArray⟩, .bool false]) rfl rfl rfl rfl rfl cn_117 rfl rfl rfl rfl) fun _ => ?_
                          refine TO.ent (L' := pts b101 [.string ⟨([105, 54, 52, 46, 101, 120, 116, 101, 110, 100, 95, 105, 51, 50, 95, 115] : List UInt8).toArray⟩, .int .i64 0, .string ⟨([127] : List UInt8).toArray⟩, .string ⟨([126] : List UInt8).toArray⟩, .bool false] :: arr rS b105 f72.c3 :: R) (fun w h => h) ?_
                          refine TO.end rfl ?_
                          refine TQ.then ?_
                          refine T.ret rfl ?_
                          refine TQ.passBlockRet ?_
                          refine TQ.passThenRet ?_
                          refine TQ.result (.inl rfl) rfl (Res.cellN (k := 0) rfl rfl ag_117 Res.nil) rfl (fun w h => ?_)
                          cases hm
                          exact ⟨(), rfl, ((h).ent (Ent.drop _ _)).ent (Ent.drop _ _)⟩
                        · replace hm := ite_f hm h195
                          refine T.seq rfl ?_
                          refine T.region rfl ?_
                          refine TO.go rfl rfl rfl (Does.move rfl rfl) fun _ => ?_
                          refine TO.go rfl rfl rfl (Does.bin (v := .bool (v0 == (173 : UInt8))) (vy := .int .u8 (173 : UInt8).toNat) rfl rfl rfl g_int b8_eq) fun _ => ?_
                          refine TO.go rfl rfl rfl (Does.assign rfl rfl) fun _ => ?_
                          refine TO.end rfl ?_
                          refine TQ.then ?_
                          refine T.cond rfl (b := (v0 == (173 : UInt8))) rfl (fun h196 => ?_) (fun h196 => ?_)
                          · replace hm := ite_t hm h196
                            refine T.seq rfl ?_
                            refine T.region rfl ?_
                            refine TO.go rfl rfl rfl (Does.build (v := .agg #[.string ⟨([105, 54, 52, 46, 101, 120, 116, 101, 110, 100, 95, 105, 51, 50, 95, 117] : List UInt8).toArray⟩, .int .i64 0, .string ⟨([127] : List UInt8).toArray⟩, .string ⟨([126] : List UInt8).toArray⟩, .bool false]) (vs := [(0, .string ⟨([105, 54, 52, 46, 101, 120, 116, 101, 110, 100, 95, 105, 51, 50, 95, 117] : List UInt8).toArray⟩), (2, .string ⟨([127] : List UInt8).toArray⟩), (3, .string ⟨([126] : List UInt8).toArray⟩)]) rfl rfl (fun w => by kernel_rfl)) fun _ => ?_
                            refine TO.go0 rfl rfl (Does.storePts (k := 0) (vs := [.string ⟨([105, 54, 52, 46, 101, 120, 116, 101, 110, 100, 95, 105, 51, 50, 95, 117] : List UInt8).toArray⟩, .int .i64 0, .string ⟨([127] : List UInt8).toArray⟩, .string ⟨([126] : List UInt8).toArray⟩, .bool false]) (cs' := [.string ⟨([105, 54, 52, 46, 101, 120, 116, 101, 110, 100, 95, 105, 51, 50, 95, 117] : List UInt8).toArray⟩, .int .i64 0, .string ⟨([127] : List UInt8).toArray⟩, .string ⟨([126] : List UInt8).toArray⟩, .bool false]) rfl rfl rfl rfl rfl cn_117 rfl rfl rfl rfl) fun _ => ?_
                            refine TO.ent (L' := pts b101 [.string ⟨([105, 54, 52, 46, 101, 120, 116, 101, 110, 100, 95, 105, 51, 50, 95, 117] : List UInt8).toArray⟩, .int .i64 0, .string ⟨([127] : List UInt8).toArray⟩, .string ⟨([126] : List UInt8).toArray⟩, .bool false] :: arr rS b105 f72.c3 :: R) (fun w h => h) ?_
                            refine TO.end rfl ?_
                            refine TQ.then ?_
                            refine T.ret rfl ?_
                            refine TQ.passBlockRet ?_
                            refine TQ.passThenRet ?_
                            refine TQ.result (.inl rfl) rfl (Res.cellN (k := 0) rfl rfl ag_117 Res.nil) rfl (fun w h => ?_)
                            cases hm
                            exact ⟨(), rfl, ((h).ent (Ent.drop _ _)).ent (Ent.drop _ _)⟩
                          · replace hm := ite_f hm h196
                            refine T.skip rfl ?_
                            refine TQ.passBlockNormal ?_
                            refine TQ.then ?_
                            refine T.seq rfl ?_
                            refine T.region rfl ?_
                            refine TO.go rfl rfl rfl (Does.build (v := .agg #[.string ⟨([] : List UInt8).toArray⟩, .int .i64 0, .string ⟨([] : List UInt8).toArray⟩, .string ⟨([] : List UInt8).toArray⟩, .bool false]) (vs := []) rfl rfl (fun w => by kernel_rfl)) fun _ => ?_
                            refine TO.go0 rfl rfl (Does.storePts (k := 0) (vs := [.string ⟨([] : List UInt8).toArray⟩, .int .i64 0, .string ⟨([] : List UInt8).toArray⟩, .string ⟨([] : List UInt8).toArray⟩, .bool false]) (cs' := [.string ⟨([] : List UInt8).toArray⟩, .int .i64 0, .string ⟨([] : List UInt8).toArray⟩, .string ⟨([] : List UInt8).toArray⟩, .bool false]) rfl rfl rfl rfl rfl cn_117 rfl rfl rfl rfl) fun _ => ?_
                            refine TO.ent (L' := pts b101 [.string ⟨([] : List UInt8).toArray⟩, .int .i64 0, .string ⟨([] : List UInt8).toArray⟩, .string ⟨([] : List UInt8).toArray⟩, .bool false] :: arr rS b105 f72.c3 :: R) (fun w h => h) ?_
                            refine TO.end rfl ?_
                            refine TQ.then ?_
                            refine T.ret rfl ?_
                            refine TQ.result (.inl rfl) rfl (Res.cellN (k := 0) rfl rfl ag_117 Res.nil) rfl (fun w h => ?_)
                            cases hm
                            exact ⟨(), rfl, ((h).ent (Ent.drop _ _)).ent (Ent.drop _ _)⟩
                  · intro h188
                    refine T.region rfl ?_
                    refine TO.go rfl rfl rfl (Does.move rfl rfl) fun _ => ?_
                    refine TO.go rfl rfl rfl (Does.bin (v := .bool (decide ((121 : UInt8) ≤ v0))) (vy := .int .u8 (121 : UInt8).toNat) rfl rfl rfl g_int b8_ge) fun _ => ?_
                    refine TO.go rfl rfl rfl (Does.move rfl rfl) fun _ => ?_
                    by_cases h197 : (decide ((121 : UInt8) ≤ v0)) = true
                    · replace hm := ite_t hm h197
                      refine TO.go rfl rfl rfl (Does.move (.inl ⟨_, _, rfl, rfl, by rw [h197]; rfl⟩) rfl) fun _ => ?_
                      refine TO.go rfl rfl rfl (Does.bin (v := .bool (decide (v0 ≤ (138 : UInt8)))) (vy := .int .u8 (138 : UInt8).toNat) (.inl ⟨_, _, rfl, rfl, by rw [h197]; rfl⟩) rfl rfl g_int b8_le) fun _ => ?_
                      refine TO.go rfl rfl rfl (Does.pickT rfl rfl h197 rfl) fun _ => ?_
                      refine TO.go rfl rfl rfl (Does.assign rfl rfl) fun _ => ?_
                      refine TO.end rfl ?_
                      exact TQ.then (T.sub (h188 (decide (v0 ≤ (138 : UInt8))) hm) (Sub.cons rfl (Sub.cons rfl (Sub.cons rfl (Sub.cons rfl (Sub.nil _))))) (fun w h => ((h).ent (Ent.take 1 rfl)).ent (Ent.take 1 rfl)))
                    · replace h197 := bool_f h197
                      replace hm := ite_f hm h197
                      refine TO.go rfl rfl rfl (Does.not (.inl ⟨_, _, rfl, rfl, by rw [h197]; rfl⟩)) fun _ => ?_
                      refine TO.go rfl rfl rfl (Does.not (.inl ⟨_, _, rfl, rfl, by rw [h197]; rfl⟩)) fun _ => ?_
                      refine TO.go rfl rfl rfl (Does.pickF (v := .bool false) rfl rfl h197 rfl) fun _ => ?_
                      refine TO.go rfl rfl rfl (Does.assign rfl rfl) fun _ => ?_
                      refine TO.end rfl ?_
                      exact TQ.then (T.sub (h188 false hm) (Sub.cons rfl (Sub.cons rfl (Sub.cons rfl (Sub.cons rfl (Sub.nil _))))) (fun w h => ((h).ent (Ent.take 1 rfl)).ent (Ent.take 1 rfl)))
              · intro h178
                refine T.region rfl ?_
                refine TO.go rfl rfl rfl (Does.move rfl rfl) fun _ => ?_
                refine TO.go rfl rfl rfl (Does.bin (v := .bool (decide ((103 : UInt8) ≤ v0))) (vy := .int .u8 (103 : UInt8).toNat) rfl rfl rfl g_int b8_ge) fun _ => ?_
                refine TO.go rfl rfl rfl (Does.move rfl rfl) fun _ => ?_
                by_cases h198 : (decide ((103 : UInt8) ≤ v0)) = true
                · replace hm := ite_t hm h198
                  refine TO.go rfl rfl rfl (Does.move (.inl ⟨_, _, rfl, rfl, by rw [h198]; rfl⟩) rfl) fun _ => ?_
                  refine TO.go rfl rfl rfl (Does.bin (v := .bool (decide (v0 ≤ (120 : UInt8)))) (vy := .int .u8 (120 : UInt8).toNat) (.inl ⟨_, _, rfl, rfl, by rw [h198]; rfl⟩) rfl rfl g_int b8_le) fun _ => ?_
                  refine TO.go rfl rfl rfl (Does.pickT rfl rfl h198 rfl) fun _ => ?_
                  refine TO.go rfl rfl rfl (Does.assign rfl rfl) fun _ => ?_
                  refine TO.end rfl ?_
                  exact TQ.then (T.sub (h178 (decide (v0 ≤ (120 : UInt8))) hm) (Sub.cons rfl (Sub.cons rfl (Sub.cons rfl (Sub.cons rfl (Sub.nil _))))) (fun w h => ((((h).ent (Ent.take 1 rfl)).ent (Ent.drop _ _)).ent (Ent.take 1 rfl)).ent (Ent.take 1 rfl)))
                · replace h198 := bool_f h198
                  replace hm := ite_f hm h198
                  refine TO.go rfl rfl rfl (Does.not (.inl ⟨_, _, rfl, rfl, by rw [h198]; rfl⟩)) fun _ => ?_
                  refine TO.go rfl rfl rfl (Does.not (.inl ⟨_, _, rfl, rfl, by rw [h198]; rfl⟩)) fun _ => ?_
                  refine TO.go rfl rfl rfl (Does.pickF (v := .bool false) rfl rfl h198 rfl) fun _ => ?_
                  refine TO.go rfl rfl rfl (Does.assign rfl rfl) fun _ => ?_
                  refine TO.end rfl ?_
                  exact TQ.then (T.sub (h178 false hm) (Sub.cons rfl (Sub.cons rfl (Sub.cons rfl (Sub.cons rfl (Sub.nil _))))) (fun w h => ((((h).ent (Ent.take 1 rfl)).ent (Ent.drop _ _)).ent (Ent.take 1 rfl)).ent (Ent.take 1 rfl)))
          · intro h168
            refine T.region rfl ?_
            refine TO.go rfl rfl rfl (Does.move rfl rfl) fun _ => ?_
            refine TO.go rfl rfl rfl (Does.bin (v := .bool (decide ((80 : UInt8) ≤ v0))) (vy := .int .u8 (80 : UInt8).toNat) rfl rfl rfl g_int b8_ge) fun _ => ?_
            refine TO.go rfl rfl rfl (Does.move rfl rfl) fun _ => ?_
            by_cases h199 : (decide ((80 : UInt8) ≤ v0)) = true
            · replace hm := ite_t hm h199
              refine TO.go rfl rfl rfl (Does.move (.inl ⟨_, _, rfl, rfl, by rw [h199]; rfl⟩) rfl) fun _ => ?_
              refine TO.go rfl rfl rfl (Does.bin (v := .bool (decide (v0 ≤ (90 : UInt8)))) (vy := .int .u8 (90 : UInt8).toNat) (.inl ⟨_, _, rfl, rfl, by rw [h199]; rfl⟩) rfl rfl g_int b8_le) fun _ => ?_
              refine TO.go rfl rfl rfl (Does.pickT rfl rfl h199 rfl) fun _ => ?_
              refine TO.go rfl rfl rfl (Does.assign rfl rfl) fun _ => ?_
              refine TO.end rfl ?_
              exact TQ.then (T.sub (h168 (decide (v0 ≤ (90 : UInt8))) hm) (Sub.cons rfl (Sub.cons rfl (Sub.cons rfl (Sub.cons rfl (Sub.cons rfl (Sub.nil _)))))) (fun w h => (((h).ent (Ent.take 2 rfl)).ent (Ent.take 2 rfl)).ent (Ent.take 2 rfl)))
            · replace h199 := bool_f h199
              replace hm := ite_f hm h199
              refine TO.go rfl rfl rfl (Does.not (.inl ⟨_, _, rfl, rfl, by rw [h199]; rfl⟩)) fun _ => ?_
              refine TO.go rfl rfl rfl (Does.not (.inl ⟨_, _, rfl, rfl, by rw [h199]; rfl⟩)) fun _ => ?_
              refine TO.go rfl rfl rfl (Does.pickF (v := .bool false) rfl rfl h199 rfl) fun _ => ?_
              refine TO.go rfl rfl rfl (Does.assign rfl rfl) fun _ => ?_
              refine TO.end rfl ?_
              exact TQ.then (T.sub (h168 false hm) (Sub.cons rfl (Sub.cons rfl (Sub.cons rfl (Sub.cons rfl (Sub.cons rfl (Sub.nil _)))))) (fun w h => (((h).ent (Ent.take 2 rfl)).ent (Ent.take 2 rfl)).ent (Ent.take 2 rfl)))
      · intro h157
        refine T.region rfl ?_
        refine TO.go rfl rfl rfl (Does.move rfl rfl) fun _ => ?_
        refine TO.go rfl rfl rfl (Does.bin (v := .bool (decide ((69 : UInt8) ≤ v0))) (vy := .int .u8 (69 : UInt8).toNat) rfl rfl rfl g_int b8_ge) fun _ => ?_
        refine TO.go rfl rfl rfl (Does.move rfl rfl) fun _ => ?_
        by_cases h200 : (decide ((69 : UInt8) ≤ v0)) = true
        · replace hm := ite_t hm h200
          refine TO.go rfl rfl rfl (Does.move (.inl ⟨_, _, rfl, rfl, by rw [h200]; rfl⟩) rfl) fun _ => ?_
          refine TO.go rfl rfl rfl (Does.bin (v := .bool (decide (v0 ≤ (79 : UInt8)))) (vy := .int .u8 (79 : UInt8).toNat) (.inl ⟨_, _, rfl, rfl, by rw [h200]; rfl⟩) rfl rfl g_int b8_le) fun _ => ?_
          refine TO.go rfl rfl rfl (Does.pickT rfl rfl h200 rfl) fun _ => ?_
          refine TO.go rfl rfl rfl (Does.assign rfl rfl) fun _ => ?_
          refine TO.end rfl ?_
          exact TQ.then (T.sub (h157 (decide (v0 ≤ (79 : UInt8))) hm) (Sub.cons rfl (Sub.cons rfl (Sub.cons rfl (Sub.cons rfl (Sub.cons rfl (Sub.nil _)))))) (fun w h => ((h).ent (Ent.take 1 rfl)).ent (Ent.take 2 rfl)))
        · replace h200 := bool_f h200
          replace hm := ite_f hm h200
          refine TO.go rfl rfl rfl (Does.not (.inl ⟨_, _, rfl, rfl, by rw [h200]; rfl⟩)) fun _ => ?_
          refine TO.go rfl rfl rfl (Does.not (.inl ⟨_, _, rfl, rfl, by rw [h200]; rfl⟩)) fun _ => ?_
          refine TO.go rfl rfl rfl (Does.pickF (v := .bool false) rfl rfl h200 rfl) fun _ => ?_
          refine TO.go rfl rfl rfl (Does.assign rfl rfl) fun _ => ?_
          refine TO.end rfl ?_
          exact TQ.then (T.sub (h157 false hm) (Sub.cons rfl (Sub.cons rfl (Sub.cons rfl (Sub.cons rfl (Sub.cons rfl (Sub.nil _)))))) (fun w h => ((h).ent (Ent.take 1 rfl)).ent (Ent.take 2 rfl)))

/-- creel/ops.Of -/
def f47.f (v0 : UInt8) : Option ops_Info :=
  (if (decide (v0 < (40 : UInt8))) = true then ((f70.f v0).bind fun v110 => some v110) else (if (decide (v0 ≤ (64 : UInt8))) = true then ((f71.f v0).bind fun v113 => some v113) else ((f72.f v0).bind fun v115 => some v115)))
set_option maxRecDepth 20000 in
set_option maxHeartbeats 1000000 in
theorem f47.ok {W w : World} {R : List Assn} (v0 : UInt8) {r : ops_Info} (hm : f47.f v0 = some r) (hs : St W w (R)) :
    Calls Try.prog 47 #[.int .u8 v0.toNat] w (fun e w' => ∃ x : Unit, e = .returned (.agg #[.string ⟨r.Name.toArray⟩, .int .i64 r.Imm, .string ⟨r.Params.toArray⟩, .string ⟨r.Result.toArray⟩, .bool r.Free]) ∧ St W w' (R)) := by
  unfold f47.f at hm
  refine calls_sym (vs := [.int .u8 v0.toNat]) Try.func47 rfl rfl hs ?_
  refine T.seq rfl ?_
  refine T.region rfl ?_
  refine TO.go rfl rfl rfl (Does.alloc rfl zn_117) fun b101 => ?_
  refine TO.ent (L' := pts b101 [.string ⟨([] : List UInt8).toArray⟩, .int .i64 0, .string ⟨([] : List UInt8).toArray⟩, .string ⟨([] : List UInt8).toArray⟩, .bool false] :: R) (fun w h => h) ?_
  refine TO.end rfl ?_
  refine TQ.then ?_
  refine T.seq rfl ?_
  refine T.block rfl ?_
  refine T.seq rfl ?_
  refine T.region rfl ?_
  refine TO.go rfl rfl rfl (Does.move rfl rfl) fun _ => ?_
  refine TO.go rfl rfl rfl (Does.bin (v := .bool (decide (v0 < (40 : UInt8)))) (vy := .int .u8 (40 : UInt8).toNat) rfl rfl rfl g_int b8_lt) fun _ => ?_
  refine TO.go rfl rfl rfl (Does.assign rfl rfl) fun _ => ?_
  refine TO.end rfl ?_
  refine TQ.then ?_
  refine T.cond rfl (b := (decide (v0 < (40 : UInt8)))) rfl (fun h109 => ?_) (fun h109 => ?_)
  · replace hm := ite_t hm h109
    refine T.seq rfl ?_
    refine T.region rfl ?_
    refine TO.go rfl rfl rfl (Does.move rfl rfl) fun _ => ?_
    obtain ⟨v110, h111, hm⟩ := bind_o hm
    refine TO.go rfl rfl rfl (Does.call (vs := [.int .u8 v0.toNat]) rfl co_70 rfl (fun w h => f70.ok v0 h111 (h))) fun _ => ?_
    refine TO.go0 rfl rfl (Does.storePts (k := 0) (vs := [.string ⟨v110.Name.toArray⟩, .int .i64 v110.Imm, .string ⟨v110.Params.toArray⟩, .string ⟨v110.Result.toArray⟩, .bool v110.Free]) (cs' := [.string ⟨v110.Name.toArray⟩, .int .i64 v110.Imm, .string ⟨v110.Params.toArray⟩, .string ⟨v110.Result.toArray⟩, .bool v110.Free]) rfl rfl rfl rfl rfl cn_117 rfl rfl rfl rfl) fun _ => ?_
    refine TO.ent (L' := pts b101 [.string ⟨v110.Name.toArray⟩, .int .i64 v110.Imm, .string ⟨v110.Params.toArray⟩, .string ⟨v110.Result.toArray⟩, .bool v110.Free] :: R) (fun w h => h) ?_
    refine TO.end rfl ?_
    refine TQ.then ?_
    refine T.ret rfl ?_
    refine TQ.passBlockRet ?_
    refine TQ.passThenRet ?_
    refine TQ.result (.inl rfl) rfl (Res.cellN (k := 0) rfl rfl ag_117 Res.nil) rfl (fun w h => ?_)
    cases hm
    exact ⟨(), rfl, (h).ent (Ent.drop _ _)⟩
  · replace hm := ite_f hm h109
    refine T.seq rfl ?_
    refine T.region rfl ?_
    refine TO.go rfl rfl rfl (Does.move rfl rfl) fun _ => ?_
    refine TO.go rfl rfl rfl (Does.bin (v := .bool (decide (v0 ≤ (64 : UInt8)))) (vy := .int .u8 (64 : UInt8).toNat) rfl rfl rfl g_int b8_le) fun _ => ?_
    refine TO.go rfl rfl rfl (Does.assign rfl rfl) fun _ => ?_
    refine TO.end rfl ?_
    refine TQ.then ?_
    refine T.cond rfl (b := (decide (v0 ≤ (64 : UInt8)))) rfl (fun h112 => ?_) (fun h112 => ?_)
    · replace hm := ite_t hm h112
      refine T.seq rfl ?_
      refine T.region rfl ?_
      refine TO.go rfl rfl rfl (Does.move rfl rfl) fun _ => ?_
      obtain ⟨v113, h114, hm⟩ := bind_o hm
      refine TO.go rfl rfl rfl (Does.call (vs := [.int .u8 v0.toNat]) rfl co_71 rfl (fun w h => f71.ok v0 h114 (h))) fun _ => ?_
      refine TO.go0 rfl rfl (Does.storePts (k := 0) (vs := [.string ⟨v113.Name.toArray⟩, .int .i64 v113.Imm, .string ⟨v113.Params.toArray⟩, .string ⟨v113.Result.toArray⟩, .bool v113.Free]) (cs' := [.string ⟨v113.Name.toArray⟩, .int .i64 v113.Imm, .string ⟨v113.Params.toArray⟩, .string ⟨v113.Result.toArray⟩, .bool v113.Free]) rfl rfl rfl rfl rfl cn_117 rfl rfl rfl rfl) fun _ => ?_
      refine TO.ent (L' := pts b101 [.string ⟨v113.Name.toArray⟩, .int .i64 v113.Imm, .string ⟨v113.Params.toArray⟩, .string ⟨v113.Result.toArray⟩, .bool v113.Free] :: R) (fun w h => h) ?_
      refine TO.end rfl ?_
      refine TQ.then ?_
      refine T.ret rfl ?_
      refine TQ.passBlockRet ?_
      refine TQ.passThenRet ?_
      refine TQ.result (.inl rfl) rfl (Res.cellN (k := 0) rfl rfl ag_117 Res.nil) rfl (fun w h => ?_)
      cases hm
      exact ⟨(), rfl, (h).ent (Ent.drop _ _)⟩
    · replace hm := ite_f hm h112
      refine T.skip rfl ?_
      refine TQ.passBlockNormal ?_
      refine TQ.then ?_
      refine T.seq rfl ?_
      refine T.region rfl ?_
      refine TO.go rfl rfl rfl (Does.move rfl rfl) fun _ => ?_
      obtain ⟨v115, h116, hm⟩ := bind_o hm
      refine TO.go rfl rfl rfl (Does.call (vs := [.int .u8 v0.toNat]) rfl co_72 rfl (fun w h => f72.ok v0 h116 (h))) fun _ => ?_
      refine TO.go0 rfl rfl (Does.storePts (k := 0) (vs := [.string ⟨v115.Name.toArray⟩, .int .i64 v115.Imm, .string ⟨v115.Params.toArray⟩, .string ⟨v115.Result.toArray⟩, .bool v115.Free]) (cs' := [.string ⟨v115.Name.toArray⟩, .int .i64 v115.Imm, .string ⟨v115.Params.toArray⟩, .string ⟨v115.Result.toArray⟩, .bool v115.Free]) rfl rfl rfl rfl rfl cn_117 rfl rfl rfl rfl) fun _ => ?_
      refine TO.ent (L' := pts b101 [.string ⟨v115.Name.toArray⟩, .int .i64 v115.Imm, .string ⟨v115.Params.toArray⟩, .string ⟨v115.Result.toArray⟩, .bool v115.Free] :: R) (fun w h => h) ?_
      refine TO.end rfl ?_
      refine TQ.then ?_
      refine T.ret rfl ?_
      refine TQ.result (.inl rfl) rfl (Res.cellN (k := 0) rfl rfl ag_117 Res.nil) rfl (fun w h => ?_)
      cases hm
      exact ⟨(), rfl, (h).ent (Ent.drop _ _)⟩

end Go.Proofs.Ytfonekhhbmlkbaa
