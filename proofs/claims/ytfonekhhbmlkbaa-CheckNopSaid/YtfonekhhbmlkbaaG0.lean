/- Mirrors of functions, and that the Go functions compute them. Printed by gofun.py. -/
import Derived.Test.YtfonekhhbmlkbaaFa
set_option linter.unusedVariables false
set_option linter.unusedSimpArgs false
namespace Go.Proofs.Ytfonekhhbmlkbaa
open Go Go.Sym
def f42.j2 (K_l1 : Int → Int → Option (Int × Int)) (v162 : Int) (v164 : Int) (v178 : api_Local) (v190 : Bool) : Option (Int × Int) :=
  (if v190 = true then some (0, 23) else K_l1 (IntKind.i64.wrap (v162 + (IntKind.i64.wrap v178.N))) (IntKind.i64.wrap (v164 + 1)))
def f42.l1 : Nat → (List api_Local) → Int → Int → Option (Int × Int)
  | 0, _, _, _ => none
  | k + 1, v0, v162, v164 => (if (decide (v164 < (v0.length : Int))) = true then ((at? v0 v164).bind fun v178 => (if (decide (1000 < v178.N)) = true then f42.j2 (f42.l1 k v0) v162 v164 v178 true else f42.j2 (f42.l1 k v0) v162 v164 v178 (decide (1000 < (IntKind.i64.wrap (v162 + (IntKind.i64.wrap v178.N))))))) else some (v162, 0))
/-- creel/bodies.Count -/
def f42.f (v0 : List api_Local) : Option (Int × Int) :=
  f42.l1 rounds v0 0 0
set_option maxRecDepth 20000 in
set_option maxHeartbeats 1000000 in
theorem f42.ok {W w : World} {R : List Assn} (v0 : List api_Local) (a0 : Option Addr) (n0 : Nat) {r : Int × Int} (hm : f42.f v0 = some r) (hs : St W w (ro api_Local.rep a0 n0 v0 :: R)) :
    Calls Try.prog 42 #[.slice a0 v0.length n0] w (fun e w' => ∃ x : Unit, e = .returned (.tuple #[.int .i64 r.1, .int .i64 r.2]) ∧ St W w' (R)) := by
  unfold f42.f at hm
  refine calls_sym (vs := [.slice a0 v0.length n0]) Try.func42 rfl rfl hs ?_
  refine T.seq rfl ?_
  refine T.region rfl ?_
  refine TO.go rfl rfl rfl (Does.assign (v := .int .i64 0) rfl rfl) fun _ => ?_
  refine TO.go rfl rfl rfl (Does.assign (v := .int .i64 0) rfl rfl) fun _ => ?_
  refine TO.end rfl ?_
  refine TQ.then ?_
  refine T.seq rfl ?_
  refine T.region rfl ?_
  refine TO.go rfl rfl rfl (Does.assign (v := .int .i64 0) rfl rfl) fun _ => ?_
  refine TO.end rfl ?_
  refine TQ.then ?_
  refine T.seq rfl ?_
  refine T.seq rfl ?_
  refine T.region rfl ?_
  refine TO.go rfl rfl rfl (Does.move rfl rfl) fun _ => ?_
  refine TO.go rfl rfl rfl (Does.lenSl rfl rfl sl_29) fun _ => ?_
  refine TO.go rfl rfl rfl (Does.move (v := .int .i64 0) rfl rfl) fun _ => ?_
  refine TO.end rfl ?_
  refine TQ.then ?_
  refine T.block rfl ?_
  refine T.loopJ (X := Int × Int) rfl rounds (fun x => [(9, .int .i64 x.2), (8, .int .i64 (v0.length : Int)), (7, .slice a0 v0.length n0), (4, .int .i64 x.1)]) (fun x => ro api_Local.rep a0 n0 v0 :: R) (fun n x => f42.l1 n v0 x.1 x.2 = some r) (fun x h => by simp [f42.l1] at h) ?_ (0, 0) hm (Sub.cons rfl (Sub.cons rfl (Sub.cons rfl (Sub.cons rfl (Sub.nil _))))) (fun w h => (((h).ent (Ent.copy 0 rfl)).ent (Ent.take 1 rfl)).ent (Ent.drop _ _))
  intro k165 h166
  rintro ⟨v162, v164⟩ hm
  try dsimp only
  rw [f42.l1.eq_2] at hm
  refine T.seq rfl ?_
  refine T.region rfl ?_
  refine TO.go rfl rfl rfl (Does.bin (v := .bool (decide (v164 < (v0.length : Int)))) rfl rfl rfl g_int b_lt) fun _ => ?_
  refine TO.end rfl ?_
  refine TQ.then ?_
  refine T.seq rfl ?_
  refine T.cond rfl (b := (decide (v164 < (v0.length : Int)))) rfl (fun h168 => ?_) (fun h168 => ?_)
  · replace hm := ite_t hm h168
    refine T.skip rfl ?_
    refine TQ.then ?_
    refine T.seq rfl ?_
    refine T.block rfl ?_
    refine T.seq rfl ?_
    refine T.region rfl ?_
    obtain ⟨v178, h179, hm⟩ := bind_o hm
    refine TO.go rfl rfl rfl (Does.indexSl (r := api_Local.rep) (k := 0) rfl rfl rfl sl_29 rfl Arrd.ro h179) fun _ => ?_
    refine TO.go rfl rfl rfl (Does.loadFlatN (r := api_Local.rep) (k := 0) (f := 0) (vs := [.int .u32 v178.N, .int .u8 v178.T.toNat]) rfl rfl ag_104 rfl Arrd.ro (at?_out h179).2.2 rfl rfl) fun _ => ?_
    refine TO.go rfl rfl rfl (Does.alloc rfl zn_104) fun b180 => ?_
    refine TO.ent (L' := pts b180 [.int .u32 0, .int .u8 (0 : UInt8).toNat] :: ro api_Local.rep a0 n0 v0 :: R) (fun w h => h) ?_
    refine TO.go0 rfl rfl (Does.storePts (k := 0) (vs := [.int .u32 v178.N, .int .u8 v178.T.toNat]) (cs' := [.int .u32 v178.N, .int .u8 v178.T.toNat]) rfl rfl rfl rfl rfl cn_104 rfl rfl rfl rfl) fun _ => ?_
    refine TO.ent (L' := pts b180 [.int .u32 v178.N, .int .u8 v178.T.toNat] :: ro api_Local.rep a0 n0 v0 :: R) (fun w h => h) ?_
    refine TO.end rfl ?_
    refine TQ.then ?_
    refine T.seq rfl ?_
    refine T.seqJ (X := Bool) rfl (fun x => [(23, .bool x), (9, .int .i64 v164), (8, .int .i64 (v0.length : Int)), (7, .slice a0 v0.length n0), (6, .pointer (some ⟨b180, 0, none⟩)), (4, .int .i64 v162)]) (fun x => pts b180 [.int .u32 v178.N, .int .u8 v178.T.toNat] :: ro api_Local.rep a0 n0 v0 :: R) (fun x => f42.j2 (f42.l1 k165 v0) v162 v164 v178 x = some r) ?_ ?_
    · rintro v190 hm
      try dsimp only
      unfold f42.j2 at hm
      refine T.cond rfl (b := v190) rfl (fun h192 => ?_) (fun h192 => ?_)
      · replace hm := ite_t hm h192
        refine T.seq rfl ?_
        refine T.region rfl ?_
        refine TO.go rfl rfl rfl (Does.assign (v := .int .i64 0) rfl rfl) fun _ => ?_
        refine TO.go rfl rfl rfl (Does.assign (v := .int .i64 23) rfl rfl) fun _ => ?_
        refine TO.end rfl ?_
        refine TQ.then ?_
        refine T.ret rfl ?_
        refine TQ.passThenRet ?_
        refine TQ.passBlockRet ?_
        refine TQ.passThenRet ?_
        refine TQ.passThenRet ?_
        refine TQ.passBlockRet ?_
        refine TQ.passThenRet ?_
        refine TQ.result (.inl rfl) rfl (Res.tmp rfl (Res.tmp rfl Res.nil)) rfl (fun w h => ?_)
        cases hm
        exact ⟨(), rfl, ((h).ent (Ent.drop _ _)).ent (Ent.drop _ _)⟩
      · replace hm := ite_f hm h192
        refine T.skip rfl ?_
        refine TQ.then ?_
        refine T.region rfl ?_
        refine TO.go rfl rfl rfl (Does.move rfl rfl) fun _ => ?_
        refine TO.go rfl rfl rfl (Does.fieldAddr (o' := 0) rfl rfl fo_104_0 rfl) fun _ => ?_
        refine TO.go rfl rfl rfl (Does.loadPts (k := 0) (v := .int .u32 v178.N) rfl rfl sc_48 rfl rfl) fun _ => ?_
        refine TO.go rfl rfl rfl (Does.conv (v := .int .i64 (IntKind.i64.wrap v178.N)) rfl rfl (c_int un_48 ii_3)) fun _ => ?_
        refine TO.go rfl rfl rfl (Does.bin (v := .int .i64 (IntKind.i64.wrap (v162 + (IntKind.i64.wrap v178.N)))) rfl rfl rfl g_int b_add) fun _ => ?_
        refine TO.go rfl rfl rfl (Does.assign rfl rfl) fun _ => ?_
        refine TO.end rfl ?_
        refine TQ.passBlockNormal ?_
        refine TQ.then ?_
        refine T.region rfl ?_
        refine TO.go rfl rfl rfl (Does.bin (v := .int .i64 (IntKind.i64.wrap (v164 + 1))) (vy := .int .i64 1) rfl rfl rfl g_int b_add) fun _ => ?_
        refine TO.go rfl rfl rfl (Does.move rfl rfl) fun _ => ?_
        refine TO.end rfl ?_
        exact TQ.again (TR.sub (h166 ((IntKind.i64.wrap (v162 + (IntKind.i64.wrap v178.N))), (IntKind.i64.wrap (v164 + 1))) hm) (Sub.cons rfl (Sub.cons rfl (Sub.cons rfl (Sub.cons rfl (Sub.nil _))))) (fun w h => (((((h).ent (Ent.copy 1 rfl)).ent (Ent.take 1 rfl)).ent (Ent.drop _ _)).ent (Ent.take 1 rfl)).ent (Ent.drop _ _)))
    · intro h191
      refine T.region rfl ?_
      refine TO.go rfl rfl rfl (Does.fieldAddr (o' := 0) rfl rfl fo_104_0 rfl) fun _ => ?_
      refine TO.go rfl rfl rfl (Does.loadPts (k := 0) (v := .int .u32 v178.N) rfl rfl sc_48 rfl rfl) fun _ => ?_
      refine TO.go rfl rfl rfl (Does.bin (v := .bool (decide (1000 < v178.N))) (vy := .int .u32 1000) rfl rfl rfl g_int b_gt) fun _ => ?_
      refine TO.go rfl rfl rfl (Does.move rfl rfl) fun _ => ?_
      by_cases h194 : (decide (1000 < v178.N)) = true
      · replace hm := ite_t hm h194
        refine TO.go rfl rfl rfl (Does.not (.inl ⟨_, _, rfl, rfl, by rw [h194]; rfl⟩)) fun _ => ?_
        refine TO.go rfl rfl rfl (Does.not (.inl ⟨_, _, rfl, rfl, by rw [h194]; rfl⟩)) fun _ => ?_
        refine TO.go rfl rfl rfl (Does.not (.inl ⟨_, _, rfl, rfl, by rw [h194]; rfl⟩)) fun _ => ?_
        refine TO.go rfl rfl rfl (Does.not (.inl ⟨_, _, rfl, rfl, by rw [h194]; rfl⟩)) fun _ => ?_
        refine TO.go rfl rfl rfl (Does.not (.inl ⟨_, _, rfl, rfl, by rw [h194]; rfl⟩)) fun _ => ?_
        refine TO.go rfl rfl rfl (Does.not (.inl ⟨_, _, rfl, rfl, by rw [h194]; rfl⟩)) fun _ => ?_
        refine TO.go rfl rfl rfl (Does.pickT (v := .bool true) rfl rfl h194 rfl) fun _ => ?_
        refine TO.end rfl ?_
        exact TQ.then (T.sub (h191 true hm) (Sub.cons rfl (Sub.cons rfl (Sub.cons rfl (Sub.cons rfl (Sub.cons rfl (Sub.cons rfl (Sub.nil _))))))) (fun w h => ((((h).ent (Ent.copy 1 rfl)).ent (Ent.take 2 rfl)).ent (Ent.drop _ _)).ent (Ent.take 1 rfl)))
      · replace h194 := bool_f h194
        replace hm := ite_f hm h194
        refine TO.go rfl rfl rfl (Does.move (.inl ⟨_, _, rfl, rfl, by rw [h194]; rfl⟩) rfl) fun _ => ?_
        refine TO.go rfl rfl rfl (Does.fieldAddr (o' := 0) (.inl ⟨_, _, rfl, rfl, by rw [h194]; rfl⟩) rfl fo_104_0 rfl) fun _ => ?_
        refine TO.go rfl rfl rfl (Does.loadPts (k := 0) (v := .int .u32 v178.N) (.inl ⟨_, _, rfl, rfl, by rw [h194]; rfl⟩) rfl sc_48 rfl rfl) fun _ => ?_
        refine TO.go rfl rfl rfl (Does.conv (v := .int .i64 (IntKind.i64.wrap v178.N)) (.inl ⟨_, _, rfl, rfl, by rw [h194]; rfl⟩) rfl (c_int un_48 ii_3)) fun _ => ?_
        refine TO.go rfl rfl rfl (Does.bin (v := .int .i64 (IntKind.i64.wrap (v162 + (IntKind.i64.wrap v178.N)))) (.inl ⟨_, _, rfl, rfl, by rw [h194]; rfl⟩) rfl rfl g_int b_add) fun _ => ?_
        refine TO.go rfl rfl rfl (Does.bin (v := .bool (decide (1000 < (IntKind.i64.wrap (v162 + (IntKind.i64.wrap v178.N)))))) (vy := .int .i64 1000) (.inl ⟨_, _, rfl, rfl, by rw [h194]; rfl⟩) rfl rfl g_int b_gt) fun _ => ?_
        refine TO.go rfl rfl rfl (Does.pickF rfl rfl h194 rfl) fun _ => ?_
        refine TO.end rfl ?_
        exact TQ.then (T.sub (h191 (decide (1000 < (IntKind.i64.wrap (v162 + (IntKind.i64.wrap v178.N))))) hm) (Sub.cons rfl (Sub.cons rfl (Sub.cons rfl (Sub.cons rfl (Sub.cons rfl (Sub.cons rfl (Sub.nil _))))))) (fun w h => ((((h).ent (Ent.copy 1 rfl)).ent (Ent.take 2 rfl)).ent (Ent.drop _ _)).ent (Ent.take 1 rfl)))
  · replace hm := ite_f hm h168
    refine T.exit rfl ?_
    refine TQ.passThenExit ?_
    refine TQ.passThenExit ?_
    refine TQ.exitHere ?_
    refine TQ.then ?_
    refine T.seq rfl ?_
    refine T.region rfl ?_
    refine TO.go rfl rfl rfl (Does.move rfl rfl) fun _ => ?_
    refine TO.go rfl rfl rfl (Does.assign rfl rfl) fun _ => ?_
    refine TO.go rfl rfl rfl (Does.assign (v := .int .i64 0) rfl rfl) fun _ => ?_
    refine TO.end rfl ?_
    refine TQ.then ?_
    refine T.ret rfl ?_
    refine TQ.result (.inl rfl) rfl (Res.tmp rfl (Res.tmp rfl Res.nil)) rfl (fun w h => ?_)
    cases hm
    exact ⟨(), rfl, (h).ent (Ent.drop _ _)⟩

def f43.j2 (v112 : Bool) : Option Int :=
  (if v112 = true then some 8 else some 7)
def f43.j1 (v0 : UInt8) (v108 : Bool) : Option Int :=
  (if v108 = true then some 0 else (if (v0 == (125 : UInt8)) = true then f43.j2 (v0 == (125 : UInt8)) else f43.j2 (v0 == (124 : UInt8))))
/-- creel/types.Value -/
def f43.f (v0 : UInt8) : Option Int :=
  (if (v0 == (127 : UInt8)) = true then f43.j1 v0 (v0 == (127 : UInt8)) else f43.j1 v0 (v0 == (126 : UInt8)))
set_option maxRecDepth 20000 in
set_option maxHeartbeats 1000000 in
theorem f43.ok {W w : World} {R : List Assn} (v0 : UInt8) {r : Int} (hm : f43.f v0 = some r) (hs : St W w (R)) :
    Calls Try.prog 43 #[.int .u8 v0.toNat] w (fun e w' => ∃ x : Unit, e = .returned (.int .i64 r) ∧ St W w' (R)) := by
  unfold f43.f at hm
  refine calls_sym (vs := [.int .u8 v0.toNat]) Try.func43 rfl rfl hs ?_
  refine T.seq rfl ?_
  refine T.region rfl ?_
  refine TO.go rfl rfl rfl (Does.assign (v := .int .i64 0) rfl rfl) fun _ => ?_
  refine TO.end rfl ?_
  refine TQ.then ?_
  refine T.seq rfl ?_
  refine T.seq rfl ?_
  refine T.region rfl ?_
  refine TO.go rfl rfl rfl (Does.move rfl rfl) fun _ => ?_
  refine TO.end rfl ?_
  refine TQ.then ?_
  refine T.block rfl ?_
  refine T.seqJ (X := Bool) rfl (fun x => [(4, .bool x), (3, .int .u8 v0.toNat)]) (fun x => R) (fun x => f43.j1 v0 x = some r) ?_ ?_
  · rintro v108 hm
    try dsimp only
    unfold f43.j1 at hm
    refine T.cond rfl (b := v108) rfl (fun h110 => ?_) (fun h110 => ?_)
    · replace hm := ite_t hm h110
      refine T.seq rfl ?_
      refine T.region rfl ?_
      refine TO.go rfl rfl rfl (Does.assign (v := .int .i64 0) rfl rfl) fun _ => ?_
      refine TO.end rfl ?_
      refine TQ.then ?_
      refine T.ret rfl ?_
      refine TQ.passBlockRet ?_
      refine TQ.passThenRet ?_
      refine TQ.result (.inl rfl) rfl (Res.tmp rfl Res.nil) rfl (fun w h => ?_)
      cases hm
      exact ⟨(), rfl, h⟩
    · replace hm := ite_f hm h110
      refine T.seqJ (X := Bool) rfl (fun x => [(7, .bool x)]) (fun x => R) (fun x => f43.j2 x = some r) ?_ ?_
      · rintro v112 hm
        try dsimp only
        unfold f43.j2 at hm
        refine T.cond rfl (b := v112) rfl (fun h114 => ?_) (fun h114 => ?_)
        · replace hm := ite_t hm h114
          refine T.seq rfl ?_
          refine T.region rfl ?_
          refine TO.go rfl rfl rfl (Does.assign (v := .int .i64 8) rfl rfl) fun _ => ?_
          refine TO.end rfl ?_
          refine TQ.then ?_
          refine T.ret rfl ?_
          refine TQ.passBlockRet ?_
          refine TQ.passThenRet ?_
          refine TQ.result (.inl rfl) rfl (Res.tmp rfl Res.nil) rfl (fun w h => ?_)
          cases hm
          exact ⟨(), rfl, h⟩
        · replace hm := ite_f hm h114
          refine T.skip rfl ?_
          refine TQ.passBlockNormal ?_
          refine TQ.then ?_
          refine T.seq rfl ?_
          refine T.region rfl ?_
          refine TO.go rfl rfl rfl (Does.assign (v := .int .i64 7) rfl rfl) fun _ => ?_
          refine TO.end rfl ?_
          refine TQ.then ?_
          refine T.ret rfl ?_
          refine TQ.result (.inl rfl) rfl (Res.tmp rfl Res.nil) rfl (fun w h => ?_)
          cases hm
          exact ⟨(), rfl, h⟩
      · intro h113
        refine T.seq rfl ?_
        refine T.region rfl ?_
        refine TO.go rfl rfl rfl (Does.bin (v := .bool (v0 == (125 : UInt8))) (vy := .int .u8 (125 : UInt8).toNat) rfl rfl rfl g_int b8_eq) fun _ => ?_
        refine TO.go rfl rfl rfl (Does.assign rfl rfl) fun _ => ?_
        refine TO.end rfl ?_
        refine TQ.then ?_
        refine T.cond rfl (b := (v0 == (125 : UInt8))) rfl (fun h115 => ?_) (fun h115 => ?_)
        · replace hm := ite_t hm h115
          refine T.skip rfl ?_
          exact TQ.then (T.sub (h113 (v0 == (125 : UInt8)) hm) (Sub.cons rfl (Sub.nil _)) (fun w h => h))
        · replace hm := ite_f hm h115
          refine T.region rfl ?_
          refine TO.go rfl rfl rfl (Does.bin (v := .bool (v0 == (124 : UInt8))) (vy := .int .u8 (124 : UInt8).toNat) rfl rfl rfl g_int b8_eq) fun _ => ?_
          refine TO.go rfl rfl rfl (Does.assign rfl rfl) fun _ => ?_
          refine TO.end rfl ?_
          exact TQ.then (T.sub (h113 (v0 == (124 : UInt8)) hm) (Sub.cons rfl (Sub.nil _)) (fun w h => h))
  · intro h109
    refine T.seq rfl ?_
    refine T.region rfl ?_
    refine TO.go rfl rfl rfl (Does.bin (v := .bool (v0 == (127 : UInt8))) (vy := .int .u8 (127 : UInt8).toNat) rfl rfl rfl g_int b8_eq) fun _ => ?_
    refine TO.go rfl rfl rfl (Does.assign rfl rfl) fun _ => ?_
    refine TO.end rfl ?_
    refine TQ.then ?_
    refine T.cond rfl (b := (v0 == (127 : UInt8))) rfl (fun h116 => ?_) (fun h116 => ?_)
    · replace hm := ite_t hm h116
      refine T.skip rfl ?_
      exact TQ.then (T.sub (h109 (v0 == (127 : UInt8)) hm) (Sub.cons rfl (Sub.cons rfl (Sub.nil _))) (fun w h => h))
    · replace hm := ite_f hm h116
      refine T.region rfl ?_
      refine TO.go rfl rfl rfl (Does.bin (v := .bool (v0 == (126 : UInt8))) (vy := .int .u8 (126 : UInt8).toNat) rfl rfl rfl g_int b8_eq) fun _ => ?_
      refine TO.go rfl rfl rfl (Does.assign rfl rfl) fun _ => ?_
      refine TO.end rfl ?_
      exact TQ.then (T.sub (h109 (v0 == (126 : UInt8)) hm) (Sub.cons rfl (Sub.cons rfl (Sub.nil _))) (fun w h => h))

/-- creel/ops.Opens -/
def f63.f (v0 : UInt8) : Option Bool :=
  (if (v0 == (2 : UInt8)) = true then some true else (if (v0 == (3 : UInt8)) = true then some true else some (v0 == (4 : UInt8))))
set_option maxRecDepth 20000 in
set_option maxHeartbeats 1000000 in
theorem f63.ok {W w : World} {R : List Assn} (v0 : UInt8) {r : Bool} (hm : f63.f v0 = some r) (hs : St W w (R)) :
    Calls Try.prog 63 #[.int .u8 v0.toNat] w (fun e w' => ∃ x : Unit, e = .returned (.bool r) ∧ St W w' (R)) := by
  unfold f63.f at hm
  refine calls_sym (vs := [.int .u8 v0.toNat]) Try.func63 rfl rfl hs ?_
  refine T.seq rfl ?_
  refine T.region rfl ?_
  refine TO.go rfl rfl rfl (Does.assign (v := .bool false) rfl rfl) fun _ => ?_
  refine TO.end rfl ?_
  refine TQ.then ?_
  refine T.seq rfl ?_
  refine T.region rfl ?_
  refine TO.go rfl rfl rfl (Does.move rfl rfl) fun _ => ?_
  refine TO.go rfl rfl rfl (Does.bin (v := .bool (v0 == (2 : UInt8))) (vy := .int .u8 (2 : UInt8).toNat) rfl rfl rfl g_int b8_eq) fun _ => ?_
  refine TO.go rfl rfl rfl (Does.move rfl rfl) fun _ => ?_
  by_cases h103 : (v0 == (2 : UInt8)) = true
  · replace hm := ite_t hm h103
    refine TO.go rfl rfl rfl (Does.not (.inl ⟨_, _, rfl, rfl, by rw [h103]; rfl⟩)) fun _ => ?_
    refine TO.go rfl rfl rfl (Does.not (.inl ⟨_, _, rfl, rfl, by rw [h103]; rfl⟩)) fun _ => ?_
    refine TO.go rfl rfl rfl (Does.pickT (v := .bool true) rfl rfl h103 rfl) fun _ => ?_
    refine TO.go rfl rfl rfl (Does.move rfl rfl) fun _ => ?_
    refine TO.go rfl rfl rfl (Does.not (.inl ⟨_, _, rfl, rfl, rfl⟩)) fun _ => ?_
    refine TO.go rfl rfl rfl (Does.not (.inl ⟨_, _, rfl, rfl, rfl⟩)) fun _ => ?_
    refine TO.go rfl rfl rfl (Does.pickT (v := .bool true) rfl rfl rfl rfl) fun _ => ?_
    refine TO.go rfl rfl rfl (Does.assign rfl rfl) fun _ => ?_
    refine TO.end rfl ?_
    refine TQ.then ?_
    refine T.ret rfl ?_
    refine TQ.result (.inl rfl) rfl (Res.tmp rfl Res.nil) rfl (fun w h => ?_)
    cases hm
    exact ⟨(), rfl, h⟩
  · replace h103 := bool_f h103
    replace hm := ite_f hm h103
    refine TO.go rfl rfl rfl (Does.move (.inl ⟨_, _, rfl, rfl, by rw [h103]; rfl⟩) rfl) fun _ => ?_
    refine TO.go rfl rfl rfl (Does.bin (v := .bool (v0 == (3 : UInt8))) (vy := .int .u8 (3 : UInt8).toNat) (.inl ⟨_, _, rfl, rfl, by rw [h103]; rfl⟩) rfl rfl g_int b8_eq) fun _ => ?_
    refine TO.go rfl rfl rfl (Does.pickF rfl rfl h103 rfl) fun _ => ?_
    refine TO.go rfl rfl rfl (Does.move rfl rfl) fun _ => ?_
    by_cases h104 : (v0 == (3 : UInt8)) = true
    · replace hm := ite_t hm h104
      refine TO.go rfl rfl rfl (Does.not (.inl ⟨_, _, rfl, rfl, by rw [h104]; rfl⟩)) fun _ => ?_
      refine TO.go rfl rfl rfl (Does.not (.inl ⟨_, _, rfl, rfl, by rw [h104]; rfl⟩)) fun _ => ?_
      refine TO.go rfl rfl rfl (Does.pickT (v := .bool true) rfl rfl h104 rfl) fun _ => ?_
      refine TO.go rfl rfl rfl (Does.assign rfl rfl) fun _ => ?_
      refine TO.end rfl ?_
      refine TQ.then ?_
      refine T.ret rfl ?_
      refine TQ.result (.inl rfl) rfl (Res.tmp rfl Res.nil) rfl (fun w h => ?_)
      cases hm
      exact ⟨(), rfl, h⟩
    · replace h104 := bool_f h104
      replace hm := ite_f hm h104
      refine TO.go rfl rfl rfl (Does.move (.inl ⟨_, _, rfl, rfl, by rw [h104]; rfl⟩) rfl) fun _ => ?_
      refine TO.go rfl rfl rfl (Does.bin (v := .bool (v0 == (4 : UInt8))) (vy := .int .u8 (4 : UInt8).toNat) (.inl ⟨_, _, rfl, rfl, by rw [h104]; rfl⟩) rfl rfl g_int b8_eq) fun _ => ?_
      refine TO.go rfl rfl rfl (Does.pickF rfl rfl h104 rfl) fun _ => ?_
      refine TO.go rfl rfl rfl (Does.assign rfl rfl) fun _ => ?_
      refine TO.end rfl ?_
      refine TQ.then ?_
      refine T.ret rfl ?_
      refine TQ.result (.inl rfl) rfl (Res.tmp rfl Res.nil) rfl (fun w h => ?_)
      cases hm
      exact ⟨(), rfl, h⟩

/-- creel/instr.ended -/
def f64.f (v0 : Bool) : Option Int :=
  (if v0 = true then some 0 else some 30)
set_option maxRecDepth 20000 in
set_option maxHeartbeats 1000000 in
theorem f64.ok {W w : World} {R : List Assn} (v0 : Bool) {r : Int} (hm : f64.f v0 = some r) (hs : St W w (R)) :
    Calls Try.prog 64 #[.bool v0] w (fun e w' => ∃ x : Unit, e = .returned (.int .i64 r) ∧ St W w' (R)) := by
  unfold f64.f at hm
  refine calls_sym (vs := [.bool v0]) Try.func64 rfl rfl hs ?_
  refine T.seq rfl ?_
  refine T.region rfl ?_
  refine TO.go rfl rfl rfl (Does.assign (v := .int .i64 0) rfl rfl) fun _ => ?_
  refine TO.end rfl ?_
  refine TQ.then ?_
  refine T.seq rfl ?_
  refine T.seq rfl ?_
  refine T.region rfl ?_
  refine TO.go rfl rfl rfl (Does.move rfl rfl) fun _ => ?_
  refine TO.end rfl ?_
  refine TQ.then ?_
  refine T.cond rfl (b := v0) rfl (fun h102 => ?_) (fun h102 => ?_)
  · replace hm := ite_t hm h102
    refine T.seq rfl ?_
    refine T.region rfl ?_
    refine TO.go rfl rfl rfl (Does.assign (v := .int .i64 0) rfl rfl) fun _ => ?_
    refine TO.end rfl ?_
    refine TQ.then ?_
    refine T.ret rfl ?_
    refine TQ.passThenRet ?_
    refine TQ.result (.inl rfl) rfl (Res.tmp rfl Res.nil) rfl (fun w h => ?_)
    cases hm
    exact ⟨(), rfl, h⟩
  · replace hm := ite_f hm h102
    refine T.skip rfl ?_
    refine TQ.then ?_
    refine T.seq rfl ?_
    refine T.region rfl ?_
    refine TO.go rfl rfl rfl (Does.assign (v := .int .i64 30) rfl rfl) fun _ => ?_
    refine TO.end rfl ?_
    refine TQ.then ?_
    refine T.ret rfl ?_
    refine TQ.result (.inl rfl) rfl (Res.tmp rfl Res.nil) rfl (fun w h => ?_)
    cases hm
    exact ⟨(), rfl, h⟩

def f44.l1 : Nat → (List api_Instr) → (List UInt8) → Int → Option Int
  | 0, _, _, _ => none
  | k + 1, v0, v284, v288 => (if (decide (v288 < (v0.length : Int))) = true then ((at? v0 v288).bind fun v323 => ((f63.f v323.Op).bind fun v331 => (if v331 = true then ((ap 1 v284 ([v323.Op])).bind fun v337 => f44.l1 k v0 v337 (IntKind.i64.wrap (v288 + 1))) else (if (v323.Op == (5 : UInt8)) = true then ((at? v284 (IntKind.i64.wrap ((v284.length : Int) - 1))).bind fun v346 => (if (v346 != (4 : UInt8)) = true then some 30 else ((set? v284 (((IntKind.i64.wrap ((v284.length : Int) - 1))).toNat) (5 : UInt8)).bind fun v349 => f44.l1 k v0 v349 (IntKind.i64.wrap (v288 + 1))))) else (if (v323.Op == (11 : UInt8)) = true then ((sl? v284 (0 : Int) (IntKind.i64.wrap ((v284.length : Int) - 1))).bind fun v353 => (if ((v353.length : Int) == 0) = true then ((f64.f (v288 == (IntKind.i64.wrap ((v0.length : Int) - 1)))).bind fun v356 => some v356) else f44.l1 k v0 v353 (IntKind.i64.wrap (v288 + 1)))) else f44.l1 k v0 v284 (IntKind.i64.wrap (v288 + 1))))))) else some 30)
/-- creel/instr.Shape -/
def f44.f (v0 : List api_Instr) : Option Int :=
  (if (decide (20000 < (v0.length : Int))) = true then some 29 else f44.l1 rounds v0 ([(0 : UInt8)]) 0)
set_option maxRecDepth 20000 in
set_option maxHeartbeats 1000000 in
theorem f44.ok {W w : World} {R : List Assn} (v0 : List api_Instr) (a0 : Option Addr) (n0 : Nat) {r : Int} (hm : f44.f v0 = some r) (hs : St W w (ro api_Instr.rep a0 n0 v0 :: R)) :
    Calls Try.prog 44 #[.slice a0 v0.length n0] w (fun e w' => ∃ x : Unit, e = .returned (.int .i64 r) ∧ St W w' (R)) := by
  unfold f44.f at hm
  refine calls_sym (vs := [.slice a0 v0.length n0]) Try.func44 rfl rfl hs ?_
  refine T.seq rfl ?_
  refine T.region rfl ?_
  refine TO.go rfl rfl rfl (Does.assign (v := .int .i64 0) rfl rfl) fun _ => ?_
  refine TO.end rfl ?_
  refine TQ.then ?_
  refine T.seq rfl ?_
  refine T.seq rfl ?_
  refine T.region rfl ?_
  refine TO.go rfl rfl rfl (Does.move rfl rfl) fun _ => ?_
  refine TO.go rfl rfl rfl (Does.lenSl rfl rfl sl_30) fun _ => ?_
  refine TO.go rfl rfl rfl (Does.bin (v := .bool (decide (20000 < (v0.length : Int)))) (vy := .int .i64 20000) rfl rfl rfl g_int b_gt) fun _ => ?_
  refine TO.end rfl ?_
  refine TQ.then ?_
  refine T.cond rfl (b := (decide (20000 < (v0.length : Int)))) rfl (fun h102 => ?_) (fun h102 => ?_)
  · replace hm := ite_t hm h102
    refine T.seq rfl ?_
    refine T.region rfl ?_
    refine TO.go rfl rfl rfl (Does.assign (v := .int .i64 29) rfl rfl) fun _ => ?_
    refine TO.end rfl ?_
    refine TQ.then ?_
    refine T.ret rfl ?_
    refine TQ.passThenRet ?_
    refine TQ.result (.inl rfl) rfl (Res.tmp rfl Res.nil) rfl (fun w h => ?_)
    cases hm
    exact ⟨(), rfl, (h).ent (Ent.drop _ _)⟩
  · replace hm := ite_f hm h102
    refine T.skip rfl ?_
    refine TQ.then ?_
    refine T.seq rfl ?_
    refine T.region rfl ?_
    refine TO.go rfl rfl rfl (Does.buildSlice (r := rU8) (l := [(0 : UInt8)]) (cs := [.int .u8 (0 : UInt8).toNat]) (vs := [(0, .int .u8 (0 : UInt8).toNat)]) rfl rfl sl_107 (fun w => by kernel_rfl) rfl rfl (fun w h => (flat_add (r := rU8) (0 : UInt8) rfl (h)).ent (Ent.unstar (L := [_])))) fun a104 => ?_
    refine TO.ent (L' := own rU8 a104 1 ([(0 : UInt8)]) :: ro api_Instr.rep a0 n0 v0 :: R) (fun w h => h) ?_
    refine TO.go rfl rfl rfl (Does.assign rfl rfl) fun _ => ?_
    refine TO.end rfl ?_
    refine TQ.then ?_
    refine T.seq rfl ?_
    refine T.seq rfl ?_
    refine T.region rfl ?_
    refine TO.go rfl rfl rfl (Does.move rfl rfl) fun _ => ?_
    refine TO.go rfl rfl rfl (Does.lenSl rfl rfl sl_30) fun _ => ?_
    refine TO.go rfl rfl rfl (Does.move (v := .int .i64 0) rfl rfl) fun _ => ?_
    refine TO.end rfl ?_
    refine TQ.then ?_
    refine T.block rfl ?_
    refine T.loopJ (X := (List UInt8) × (Option Addr) × Nat × Int) rfl rounds (fun x => [(12, .int .i64 x.2.2.2), (11, .int .i64 (v0.length : Int)), (10, .slice a0 v0.length n0), (3, .slice x.2.1 x.1.length x.2.2.1), (0, .slice a0 v0.length n0)]) (fun x => ro api_Instr.rep a0 n0 v0 :: own rU8 x.2.1 x.2.2.1 x.1 :: R) (fun n x => f44.l1 n v0 x.1 x.2.2.2 = some r) (fun x h => by simp [f44.l1] at h) ?_ ([(0 : UInt8)], a104, 1, 0) hm (Sub.cons rfl (Sub.cons rfl (Sub.cons rfl (Sub.cons rfl (Sub.cons rfl (Sub.nil _)))))) (fun w h => (((((h).ent (Ent.copy 1 rfl)).ent (Ent.take 2 rfl)).ent (Ent.drop _ _)).ent (Ent.take 1 rfl)).ent (Ent.take 1 rfl))
    intro k289 h290
    rintro ⟨v284, a285, n286, v288⟩ hm
    try dsimp only
    rw [f44.l1.eq_2] at hm
    refine T.seq rfl ?_
    refine T.region rfl ?_
    refine TO.go rfl rfl rfl (Does.bin (v := .bool (decide (v288 < (v0.length : Int)))) rfl rfl rfl g_int b_lt) fun _ => ?_
    refine TO.end rfl ?_
    refine TQ.then ?_
    refine T.seq rfl ?_
    refine T.cond rfl (b := (decide (v288 < (v0.length : Int)))) rfl (fun h292 => ?_) (fun h292 => ?_)
    · replace hm := ite_t hm h292
      refine T.skip rfl ?_
      refine TQ.then ?_
      refine T.seq rfl ?_
      refine T.block rfl ?_
      refine T.seq rfl ?_
      refine T.region rfl ?_
      refine TO.go rfl rfl rfl (Does.move rfl rfl) fun _ => ?_
      obtain ⟨v323, h324, hm⟩ := bind_o hm
      refine TO.go rfl rfl rfl (Does.indexSl (r := api_Instr.rep) (k := 0) rfl rfl rfl sl_30 rfl Arrd.ro h324) fun _ => ?_
      refine TO.go rfl rfl rfl (Does.loadElemN (r := api_Instr.rep) (k := 0) rfl rfl ag_40 rfl Arrd.ro (at?_out h324).2.2) fun cs325 => ?_
      refine TO.st (fun w h => api_Instr.open h) ?_
      rintro ⟨a326, n327⟩ rfl
      refine TO.ent (L' := ro (rI .u32) a326 n327 v323.L :: ro api_Instr.rep a0 n0 v0 :: own rU8 a285 n286 v284 :: R) (fun w h => h) ?_
      refine TO.go rfl rfl rfl (Does.alloc rfl zn_40) fun b329 => ?_
      refine TO.ent (L' := pts b329 [.int .u8 (0 : UInt8).toNat, .int .u64 0, .int .u64 0, .slice none 0 0] :: ro (rI .u32) a326 n327 v323.L :: ro api_Instr.rep a0 n0 v0 :: own rU8 a285 n286 v284 :: R) (fun w h => h) ?_
      refine TO.go rfl rfl rfl (Does.assign rfl rfl) fun _ => ?_
      refine TO.go0 rfl rfl (Does.storePts (k := 0) (vs := [.int .u8 v323.Op.toNat, .int .u64 v323.A, .int .u64 v323.B, .slice a326 v323.L.length n327]) (cs' := [.int .u8 v323.Op.toNat, .int .u64 v323.A, .int .u64 v323.B, .slice a326 v323.L.length n327]) rfl rfl rfl rfl rfl cn_40 rfl rfl rfl rfl) fun _ => ?_
      refine TO.ent (L' := pts b329 [.int .u8 v323.Op.toNat, .int .u64 v323.A, .int .u64 v323.B, .slice a326 v323.L.length n327] :: ro (rI .u32) a326 n327 v323.L :: ro api_Instr.rep a0 n0 v0 :: own rU8 a285 n286 v284 :: R) (fun w h => h) ?_
      refine TO.end rfl ?_
      refine TQ.then ?_
      refine T.block rfl ?_
      refine T.seq rfl ?_
      refine T.region rfl ?_
      refine TO.go rfl rfl rfl (Does.fieldAddr (o' := 0) rfl rfl fo_40_0 rfl) fun _ => ?_
      refine TO.go rfl rfl rfl (Does.loadPts (k := 0) (v := .int .u8 v323.Op.toNat) rfl rfl sc_5 rfl rfl) fun _ => ?_
      obtain ⟨v331, h332, hm⟩ := bind_o hm
      refine TO.go rfl rfl rfl (Does.conseq (Does.call (vs := [.int .u8 v323.Op.toNat]) rfl co_63 rfl (fun w h => f63.ok v323.Op h332 (h))) (fun w h => h) (fun x w h => ((((h).ent (Ent.take 3 rfl)).ent (Ent.take 3 rfl)).ent (Ent.take 3 rfl)).ent (Ent.take 3 rfl))) fun _ => ?_
      refine TO.go rfl rfl rfl (Does.assign rfl rfl) fun _ => ?_
      refine TO.end rfl ?_
      refine TQ.then ?_
      refine T.cond rfl (b := v331) rfl (fun h333 => ?_) (fun h333 => ?_)
      · replace hm := ite_t hm h333
        refine T.region rfl ?_
        refine TO.go rfl rfl rfl (Does.move rfl rfl) fun _ => ?_
        refine TO.go rfl rfl rfl (Does.fieldAddr (o' := 0) rfl rfl fo_40_0 rfl) fun _ => ?_
        refine TO.go rfl rfl rfl (Does.loadPts (k := 0) (v := .int .u8 v323.Op.toNat) rfl rfl sc_5 rfl rfl) fun _ => ?_
        refine TO.go rfl rfl rfl (Does.buildSlice (r := rU8) (l := [v323.Op]) (cs := [.int .u8 v323.Op.toNat]) (vs := [(0, .int .u8 v323.Op.toNat)]) rfl rfl sl_107 (fun w => by kernel_rfl) rfl rfl (fun w h => (flat_add (r := rU8) v323.Op rfl (h)).ent (Ent.unstar (L := [_])))) fun a335 => ?_
        refine TO.ent (L' := own rU8 a335 1 ([v323.Op]) :: pts b329 [.int .u8 v323.Op.toNat, .int .u64 v323.A, .int .u64 v323.B, .slice a326 v323.L.length n327] :: ro (rI .u32) a326 n327 v323.L :: ro api_Instr.rep a0 n0 v0 :: own rU8 a285 n286 v284 :: R) (fun w h => h) ?_
        obtain ⟨v337, h338, hm⟩ := bind_o hm
        refine TO.go rfl rfl rfl (Does.append (r := rU8) (k := 4) (l := v284) (l2 := [v323.Op]) rfl rfl rfl sl_107 zn_5 rfl rfl (Srcs.sl sl_107 (k := 0) rfl Arrd.own) h338) (fun ⟨a339, n340⟩ => ?_)
        refine TO.ent (L' := own rU8 a335 1 ([v323.Op]) :: pts b329 [.int .u8 v323.Op.toNat, .int .u64 v323.A, .int .u64 v323.B, .slice a326 v323.L.length n327] :: ro (rI .u32) a326 n327 v323.L :: ro api_Instr.rep a0 n0 v0 :: own rU8 a339 n340 v337 :: R) (fun w h => h) ?_
        refine TO.go rfl rfl rfl (Does.assign rfl rfl) fun _ => ?_
        refine TO.end rfl ?_
        refine TQ.passBlockNormal ?_
        refine TQ.passBlockNormal ?_
        refine TQ.then ?_
        refine T.region rfl ?_
        refine TO.go rfl rfl rfl (Does.bin (v := .int .i64 (IntKind.i64.wrap (v288 + 1))) (vy := .int .i64 1) rfl rfl rfl g_int b_add) fun _ => ?_
        refine TO.go rfl rfl rfl (Does.move rfl rfl) fun _ => ?_
        refine TO.end rfl ?_
        exact TQ.again (TR.sub (h290 (v337, a339, n340, (IntKind.i64.wrap (v288 + 1))) hm) (Sub.cons rfl (Sub.cons rfl (Sub.cons rfl (Sub.cons rfl (Sub.cons rfl (Sub.nil _)))))) (fun w h => (((((((((((h).ent (Ent.copy 3 rfl)).ent (Ent.take 1 rfl)).ent (Ent.drop _ _)).ent (Ent.take 1 rfl)).ent (Ent.drop _ _)).ent (Ent.take 1 rfl)).ent (Ent.drop _ _)).ent (Ent.take 1 rfl)).ent (Ent.drop _ _)).ent (Ent.take 1 rfl)).ent (Ent.take 1 rfl)))
      · replace hm := ite_f hm h333
        refine T.seq rfl ?_
        refine T.region rfl ?_
        refine TO.go rfl rfl rfl (Does.fieldAddr (o' := 0) rfl rfl fo_40_0 rfl) fun _ => ?_
        refine TO.go rfl rfl rfl (Does.loadPts (k := 0) (v := .int .u8 v323.Op.toNat) rfl rfl sc_5 rfl rfl) fun _ => ?_
        refine TO.go rfl rfl rfl (Does.bin (v := .bool (v323.Op == (5 : UInt8))) (vy := .int .u8 (5 : UInt8).toNat) rfl rfl rfl g_int b8_eq) fun _ => ?_
        refine TO.go rfl rfl rfl (Does.assign rfl rfl) fun _ => ?_
        refine TO.end rfl ?_
        refine TQ.then ?_
        refine T.cond rfl (b := (v323.Op == (5 : UInt8))) rfl (fun h342 => ?_) (fun h342 => ?_)
        · replace hm := ite_t hm h342
          refine T.seq rfl ?_
          refine T.seq rfl ?_
          refine T.region rfl ?_
          refine TO.go rfl rfl rfl (Does.move rfl rfl) fun _ => ?_
          refine TO.go rfl rfl rfl (Does.move rfl rfl) fun _ => ?_
          refine TO.go rfl rfl rfl (Does.lenSl rfl rfl sl_107) fun _ => ?_
          refine TO.go rfl rfl rfl (Does.bin (v := .int .i64 (IntKind.i64.wrap ((v284.length : Int) - 1))) (vy := .int .i64 1) rfl rfl rfl g_int b_sub) fun _ => ?_
          obtain ⟨v346, h347, hm⟩ := bind_o hm
          refine TO.go rfl rfl rfl (Does.indexSl (r := rU8) (k := 3) rfl rfl rfl sl_107 rfl Arrd.own h347) fun _ => ?_
          refine TO.go rfl rfl rfl (Does.loadFlat (r := rU8) (k := 3) (f := 0) (v := .int .u8 v346.toNat) rfl rfl sc_5 rfl Arrd.own (at?_out h347).2.2 rfl) fun _ => ?_
          refine TO.go rfl rfl rfl (Does.bin (v := .bool (v346 != (4 : UInt8))) (vy := .int .u8 (4 : UInt8).toNat) rfl rfl rfl g_int b8_ne) fun _ => ?_
          refine TO.end rfl ?_
          refine TQ.then ?_
          refine T.cond rfl (b := (v346 != (4 : UInt8))) rfl (fun h348 => ?_) (fun h348 => ?_)
          · replace hm := ite_t hm h348
            refine T.seq rfl ?_
            refine T.region rfl ?_
            refine TO.go rfl rfl rfl (Does.assign (v := .int .i64 30) rfl rfl) fun _ => ?_
            refine TO.end rfl ?_
            refine TQ.then ?_
            refine T.ret rfl ?_
            refine TQ.passThenRet ?_
            refine TQ.passBlockRet ?_
            refine TQ.passBlockRet ?_
            refine TQ.passThenRet ?_
            refine TQ.passThenRet ?_
            refine TQ.passBlockRet ?_
            refine TQ.passThenRet ?_
            refine TQ.result (.inl rfl) rfl (Res.tmp rfl Res.nil) rfl (fun w h => ?_)
            cases hm
            exact ⟨(), rfl, ((((h).ent (Ent.drop _ _)).ent (Ent.drop _ _)).ent (Ent.drop _ _)).ent (Ent.drop _ _)⟩
          · replace hm := ite_f hm h348
            refine T.skip rfl ?_
            refine TQ.then ?_
            refine T.region rfl ?_
            refine TO.go rfl rfl rfl (Does.move rfl rfl) fun _ => ?_
            refine TO.go rfl rfl rfl (Does.move rfl rfl) fun _ => ?_
            refine TO.go rfl rfl rfl (Does.lenSl rfl rfl sl_107) fun _ => ?_
            refine TO.go rfl rfl rfl (Does.bin (v := .int .i64 (IntKind.i64.wrap ((v284.length : Int) - 1))) (vy := .int .i64 1) rfl rfl rfl g_int b_sub) fun _ => ?_
            refine TO.go rfl rfl rfl (Does.indexSl (r := rU8) (k := 3) rfl rfl rfl sl_107 rfl Arrd.own h347) fun _ => ?_
            obtain ⟨v349, h350, hm⟩ := bind_o hm
            refine TO.go0 rfl rfl (Does.storeElem (L' := pts b329 [.int .u8 v323.Op.toNat, .int .u64 v323.A, .int .u64 v323.B, .slice a326 v323.L.length n327] :: ro (rI .u32) a326 n327 v323.L :: ro api_Instr.rep a0 n0 v0 :: own rU8 a285 n286 v349 :: R) (r := rU8) (k := 3) (v := .int .u8 (5 : UInt8).toNat) (vs := [.int .u8 (5 : UInt8).toNat]) (u := (5 : UInt8)) rfl rfl rfl rfl cn_5 rfl (at?_lt h347) (fun w h => flat_add _ rfl h) (by rw [set?_eq h350]; rfl)) fun _ => ?_
            try rw [set?_len h350]
            refine TO.ent (L' := pts b329 [.int .u8 v323.Op.toNat, .int .u64 v323.A, .int .u64 v323.B, .slice a326 v323.L.length n327] :: ro (rI .u32) a326 n327 v323.L :: ro api_Instr.rep a0 n0 v0 :: own rU8 a285 n286 v349 :: R) (fun w h => h) ?_
            refine TO.end rfl ?_
            refine TQ.passBlockNormal ?_
            refine TQ.passBlockNormal ?_
            refine TQ.then ?_
            refine T.region rfl ?_
            refine TO.go rfl rfl rfl (Does.bin (v := .int .i64 (IntKind.i64.wrap (v288 + 1))) (vy := .int .i64 1) rfl rfl rfl g_int b_add) fun _ => ?_
            refine TO.go rfl rfl rfl (Does.move rfl rfl) fun _ => ?_
            refine TO.end rfl ?_
            exact TQ.again (TR.sub (h290 (v349, a285, n286, (IntKind.i64.wrap (v288 + 1))) hm) (Sub.cons rfl (Sub.cons rfl (Sub.cons rfl (Sub.cons rfl (Sub.cons rfl (Sub.nil _)))))) (fun w h => (((((((((h).ent (Ent.copy 2 rfl)).ent (Ent.take 1 rfl)).ent (Ent.drop _ _)).ent (Ent.take 1 rfl)).ent (Ent.drop _ _)).ent (Ent.take 1 rfl)).ent (Ent.drop _ _)).ent (Ent.take 1 rfl)).ent (Ent.take 1 rfl)))
        · replace hm := ite_f hm h342
          refine T.seq rfl ?_
          refine T.region rfl ?_
          refine TO.go rfl rfl rfl (Does.fieldAddr (o' := 0) rfl rfl fo_40_0 rfl) fun _ => ?_
          refine TO.go rfl rfl rfl (Does.loadPts (k := 0) (v := .int .u8 v323.Op.toNat) rfl rfl sc_5 rfl rfl) fun _ => ?_
          refine TO.go rfl rfl rfl (Does.bin (v := .bool (v323.Op == (11 : UInt8))) (vy := .int .u8 (11 : UInt8).toNat) rfl rfl rfl g_int b8_eq) fun _ => ?_
          refine TO.go rfl rfl rfl (Does.assign rfl rfl) fun _ => ?_
          refine TO.end rfl ?_
          refine TQ.then ?_
          refine T.cond rfl (b := (v323.Op == (11 : UInt8))) rfl (fun h352 => ?_) (fun h352 => ?_)
          · replace hm := ite_t hm h352
            refine T.seq rfl ?_
            refine T.region rfl ?_
            refine TO.go rfl rfl rfl (Does.move rfl rfl) fun _ => ?_
            refine TO.go rfl rfl rfl (Does.move rfl rfl) fun _ => ?_
            refine TO.go rfl rfl rfl (Does.lenSl rfl rfl sl_107) fun _ => ?_
            refine TO.go rfl rfl rfl (Does.bin (v := .int .i64 (IntKind.i64.wrap ((v284.length : Int) - 1))) (vy := .int .i64 1) rfl rfl rfl g_int b_sub) fun _ => ?_
            obtain ⟨v353, h354, hm⟩ := bind_o hm
            refine TO.go rfl rfl rfl (Does.sliceOwn (r := rU8) (k := 3) rfl rfl rfl rfl sl_107 rfl h354) fun _ => ?_
            refine TO.ent (L' := pts b329 [.int .u8 v323.Op.toNat, .int .u64 v323.A, .int .u64 v323.B, .slice a326 v323.L.length n327] :: ro (rI .u32) a326 n327 v323.L :: ro api_Instr.rep a0 n0 v0 :: own rU8 (subA a285 ((0 : Int)).toNat n286 rU8.n) (n286 - ((0 : Int)).toNat) v353 :: R) (fun w h => h) ?_
            refine TO.go rfl rfl rfl (Does.assign rfl rfl) fun _ => ?_
            refine TO.end rfl ?_
            refine TQ.then ?_
            refine T.seq rfl ?_
            refine T.region rfl ?_
            refine TO.go rfl rfl rfl (Does.move rfl rfl) fun _ => ?_
            refine TO.go rfl rfl rfl (Does.lenSl rfl rfl sl_107) fun _ => ?_
            refine TO.go rfl rfl rfl (Does.bin (v := .bool ((v353.length : Int) == 0)) (vy := .int .i64 0) rfl rfl rfl g_int b_eq) fun _ => ?_
            refine TO.end rfl ?_
            refine TQ.then ?_
            refine T.cond rfl (b := ((v353.length : Int) == 0)) rfl (fun h355 => ?_) (fun h355 => ?_)
            · replace hm := ite_t hm h355
              refine T.seq rfl ?_
              refine T.region rfl ?_
              refine TO.go rfl rfl rfl (Does.move rfl rfl) fun _ => ?_
              refine TO.go rfl rfl rfl (Does.move rfl rfl) fun _ => ?_
              refine TO.go rfl rfl rfl (Does.lenSl rfl rfl sl_30) fun _ => ?_
              refine TO.go rfl rfl rfl (Does.bin (v := .int .i64 (IntKind.i64.wrap ((v0.length : Int) - 1))) (vy := .int .i64 1) rfl rfl rfl g_int b_sub) fun _ => ?_
              refine TO.go rfl rfl rfl (Does.bin (v := .bool (v288 == (IntKind.i64.wrap ((v0.length : Int) - 1)))) rfl rfl rfl g_int b_eq) fun _ => ?_
              obtain ⟨v356, h357, hm⟩ := bind_o hm
              refine TO.go rfl rfl rfl (Does.conseq (Does.call (vs := [.bool (v288 == (IntKind.i64.wrap ((v0.length : Int) - 1)))]) rfl co_64 rfl (fun w h => f64.ok (v288 == (IntKind.i64.wrap ((v0.length : Int) - 1))) h357 (h))) (fun w h => h) (fun x w h => ((((h).ent (Ent.take 3 rfl)).ent (Ent.take 3 rfl)).ent (Ent.take 3 rfl)).ent (Ent.take 3 rfl))) fun _ => ?_
              refine TO.go rfl rfl rfl (Does.assign rfl rfl) fun _ => ?_
              refine TO.end rfl ?_
              refine TQ.then ?_
              refine T.ret rfl ?_
              refine TQ.passBlockRet ?_
              refine TQ.passBlockRet ?_
              refine TQ.passThenRet ?_
              refine TQ.passThenRet ?_
              refine TQ.passBlockRet ?_
              refine TQ.passThenRet ?_
              refine TQ.result (.inl rfl) rfl (Res.tmp rfl Res.nil) rfl (fun w h => ?_)
              cases hm
              exact ⟨(), rfl, ((((h).ent (Ent.drop _ _)).ent (Ent.drop _ _)).ent (Ent.drop _ _)).ent (Ent.drop _ _)⟩
            · replace hm := ite_f hm h355
              refine T.skip rfl ?_
              refine TQ.passBlockNormal ?_
              refine TQ.passBlockNormal ?_
              refine TQ.then ?_
              refine T.region rfl ?_
              refine TO.go rfl rfl rfl (Does.bin (v := .int .i64 (IntKind.i64.wrap (v288 + 1))) (vy := .int .i64 1) rfl rfl rfl g_int b_add) fun _ => ?_
              refine TO.go rfl rfl rfl (Does.move rfl rfl) fun _ => ?_
              refine TO.end rfl ?_
              exact TQ.again (TR.sub (h290 (v353, (subA a285 ((0 : Int)).toNat n286 rU8.n), (n286 - ((0 : Int)).toNat), (IntKind.i64.wrap (v288 + 1))) hm) (Sub.cons rfl (Sub.cons rfl (Sub.cons rfl (Sub.cons rfl (Sub.cons rfl (Sub.nil _)))))) (fun w h => (((((((((h).ent (Ent.copy 2 rfl)).ent (Ent.take 1 rfl)).ent (Ent.drop _ _)).ent (Ent.take 1 rfl)).ent (Ent.drop _ _)).ent (Ent.take 1 rfl)).ent (Ent.drop _ _)).ent (Ent.take 1 rfl)).ent (Ent.take 1 rfl)))
          · replace hm := ite_f hm h352
            refine T.skip rfl ?_
            refine TQ.passBlockNormal ?_
            refine TQ.passBlockNormal ?_
            refine TQ.then ?_
            refine T.region rfl ?_
            refine TO.go rfl rfl rfl (Does.bin (v := .int .i64 (IntKind.i64.wrap (v288 + 1))) (vy := .int .i64 1) rfl rfl rfl g_int b_add) fun _ => ?_
            refine TO.go rfl rfl rfl (Does.move rfl rfl) fun _ => ?_
            refine TO.end rfl ?_
            exact TQ.again (TR.sub (h290 (v284, a285, n286, (IntKind.i64.wrap (v288 + 1))) hm) (Sub.cons rfl (Sub.cons rfl (Sub.cons rfl (Sub.cons rfl (Sub.cons rfl (Sub.nil _)))))) (fun w h => (((((((((h).ent (Ent.copy 2 rfl)).ent (Ent.take 1 rfl)).ent (Ent.drop _ _)).ent (Ent.take 1 rfl)).ent (Ent.drop _ _)).ent (Ent.take 1 rfl)).ent (Ent.drop _ _)).ent (Ent.take 1 rfl)).ent (Ent.take 1 rfl)))
    · replace hm := ite_f hm h292
      refine T.exit rfl ?_
      refine TQ.passThenExit ?_
      refine TQ.passThenExit ?_
      refine TQ.exitHere ?_
      refine TQ.then ?_
      refine T.seq rfl ?_
      refine T.region rfl ?_
      refine TO.go rfl rfl rfl (Does.assign (v := .int .i64 30) rfl rfl) fun _ => ?_
      refine TO.end rfl ?_
      refine TQ.then ?_
      refine T.ret rfl ?_
      refine TQ.result (.inl rfl) rfl (Res.tmp rfl Res.nil) rfl (fun w h => ?_)
      cases hm
      exact ⟨(), rfl, ((h).ent (Ent.drop _ _)).ent (Ent.drop _ _)⟩

def f13.l1 : Nat → api_Code → Int → Option Int
  | 0, _, _ => none
  | k + 1, v0, v180 => (if (decide (v180 < (v0.Locals.length : Int))) = true then ((at? v0.Locals v180).bind fun v192 => ((f43.f v192.T).bind fun v196 => (if (v196 != 0) = true then some v196 else f13.l1 k v0 (IntKind.i64.wrap (v180 + 1))))) else ((f44.f v0.Body).bind fun v202 => some v202))
/-- creel/bodies.Right -/
def f13.f (v0 : api_Code) : Option Int :=
  (if (decide (10000 < (v0.Locals.length : Int))) = true then some 29 else ((f42.f v0.Locals).bind fun v116 => (if (v116.2 != 0) = true then some v116.2 else f13.l1 rounds v0 0)))
set_option maxRecDepth 20000 in
set_option maxHeartbeats 1000000 in
theorem f13.ok {W w : World} {R : List Assn} (v0 : api_Code) (a101 : Option Addr) (n102 : Nat) (a104 : Option Addr) (n105 : Nat) {r : Int} (hm : f13.f v0 = some r) (hs : St W w (ro api_Instr.rep a104 n105 v0.Body :: ro api_Local.rep a101 n102 v0.Locals :: R)) :
    Calls Try.prog 13 #[.agg #[.slice a101 v0.Locals.length n102, .slice a104 v0.Body.length n105]] w (fun e w' => ∃ x : Unit, e = .returned (.int .i64 r) ∧ St W w' (R)) := by
  unfold f13.f at hm
  refine calls_sym (vs := [.agg #[.slice a101 v0.Locals.length n102, .slice a104 v0.Body.length n105]]) Try.func13 rfl rfl hs ?_
  refine T.seq rfl ?_
  refine T.region rfl ?_
  refine TO.go rfl rfl rfl (Does.box (vs := [.slice a101 v0.Locals.length n102, .slice a104 v0.Body.length n105]) rfl rfl rfl) fun b107 => ?_
  refine TO.ent (L' := pts b107 [.slice a101 v0.Locals.length n102, .slice a104 v0.Body.length n105] :: ro api_Instr.rep a104 n105 v0.Body :: ro api_Local.rep a101 n102 v0.Locals :: R) (fun w h => h) ?_
  refine TO.go rfl rfl rfl (Does.assign (v := .int .i64 0) rfl rfl) fun _ => ?_
  refine TO.end rfl ?_
  refine TQ.then ?_
  refine T.seq rfl ?_
  refine T.seq rfl ?_
  refine T.region rfl ?_
  refine TO.go rfl rfl rfl (Does.fieldAddr (o' := 0) rfl rfl fo_32_0 rfl) fun _ => ?_
  refine TO.go rfl rfl rfl (Does.loadPts (k := 0) (v := .slice a101 v0.Locals.length n102) rfl rfl sc_29 rfl rfl) fun _ => ?_
  refine TO.go rfl rfl rfl (Does.lenSl rfl rfl sl_29) fun _ => ?_
  refine TO.go rfl rfl rfl (Does.bin (v := .bool (decide (10000 < (v0.Locals.length : Int)))) (vy := .int .i64 10000) rfl rfl rfl g_int b_gt) fun _ => ?_
  refine TO.end rfl ?_
  refine TQ.then ?_
  refine T.cond rfl (b := (decide (10000 < (v0.Locals.length : Int)))) rfl (fun h110 => ?_) (fun h110 => ?_)
  · replace hm := ite_t hm h110
    refine T.seq rfl ?_
    refine T.region rfl ?_
    refine TO.go rfl rfl rfl (Does.assign (v := .int .i64 29) rfl rfl) fun _ => ?_
    refine TO.end rfl ?_
    refine TQ.then ?_
    refine T.ret rfl ?_
    refine TQ.passThenRet ?_
    refine TQ.result (.inl rfl) rfl (Res.tmp rfl Res.nil) rfl (fun w h => ?_)
    cases hm
    exact ⟨(), rfl, (((h).ent (Ent.drop _ _)).ent (Ent.drop _ _)).ent (Ent.drop _ _)⟩
  · replace hm := ite_f hm h110
    refine T.skip rfl ?_
    refine TQ.then ?_
    refine T.seq rfl ?_
    refine T.seq rfl ?_
    refine T.region rfl ?_
    refine TO.go rfl rfl rfl (Does.fieldAddr (o' := 0) rfl rfl fo_32_0 rfl) fun _ => ?_
    refine TO.go rfl rfl rfl (Does.loadPts (k := 0) (v := .slice a101 v0.Locals.length n102) rfl rfl sc_29 rfl rfl) fun _ => ?_
    obtain ⟨v116, h117, hm⟩ := bind_o hm
    refine TO.go rfl rfl rfl (Does.conseq (Does.call (vs := [.slice a101 v0.Locals.length n102]) rfl co_42 rfl (fun w h => f42.ok v0.Locals a101 n102 h117 ((h).ent (Ent.copy 2 rfl)))) (fun w h => h) (fun x w h => (((h).ent (Ent.take 2 rfl)).ent (Ent.take 2 rfl)).ent (Ent.take 2 rfl))) fun _ => ?_
    refine TO.go rfl rfl rfl (Does.move rfl rfl) fun _ => ?_
    refine TO.go rfl rfl rfl (Does.extract rfl rfl rfl) fun _ => ?_
    refine TO.go rfl rfl rfl (Does.extract rfl rfl rfl) fun _ => ?_
    refine TO.go rfl rfl rfl (Does.assign rfl rfl) fun _ => ?_
    refine TO.go rfl rfl rfl (Does.assign rfl rfl) fun _ => ?_
    refine TO.end rfl ?_
    refine TQ.then ?_
    refine T.seq rfl ?_
    refine T.region rfl ?_
    refine TO.go rfl rfl rfl (Does.move rfl rfl) fun _ => ?_
    refine TO.go rfl rfl rfl (Does.bin (v := .bool (v116.2 != 0)) (vy := .int .i64 0) rfl rfl rfl g_int b_ne) fun _ => ?_
    refine TO.end rfl ?_
    refine TQ.then ?_
    refine T.cond rfl (b := (v116.2 != 0)) rfl (fun h118 => ?_) (fun h118 => ?_)
    · replace hm := ite_t hm h118
      refine T.seq rfl ?_
      refine T.region rfl ?_
      refine TO.go rfl rfl rfl (Does.move rfl rfl) fun _ => ?_
      refine TO.go rfl rfl rfl (Does.assign rfl rfl) fun _ => ?_
      refine TO.end rfl ?_
      refine TQ.then ?_
      refine T.ret rfl ?_
      refine TQ.passThenRet ?_
      refine TQ.result (.inl rfl) rfl (Res.tmp rfl Res.nil) rfl (fun w h => ?_)
      cases hm
      exact ⟨(), rfl, (((h).ent (Ent.drop _ _)).ent (Ent.drop _ _)).ent (Ent.drop _ _)⟩
    · replace hm := ite_f hm h118
      refine T.skip rfl ?_
      refine TQ.then ?_
      refine T.seq rfl ?_
      refine T.seq rfl ?_
      refine T.region rfl ?_
      refine TO.go rfl rfl rfl (Does.fieldAddr (o' := 0) rfl rfl fo_32_0 rfl) fun _ => ?_
      refine TO.go rfl rfl rfl (Does.loadPts (k := 0) (v := .slice a101 v0.Locals.length n102) rfl rfl sc_29 rfl rfl) fun _ => ?_
      refine TO.go rfl rfl rfl (Does.lenSl rfl rfl sl_29) fun _ => ?_
      refine TO.go rfl rfl rfl (Does.move (v := .int .i64 0) rfl rfl) fun _ => ?_
      refine TO.end rfl ?_
      refine TQ.then ?_
      refine T.block rfl ?_
      refine T.loopJ (X := Int) rfl rounds (fun x => [(24, .int .i64 x), (23, .int .i64 (v0.Locals.length : Int)), (22, .slice a101 v0.Locals.length n102), (1, .pointer (some ⟨b107, 0, none⟩))]) (fun x => ro api_Local.rep a101 n102 v0.Locals :: ro api_Instr.rep a104 n105 v0.Body :: pts b107 [.slice a101 v0.Locals.length n102, .slice a104 v0.Body.length n105] :: R) (fun n x => f13.l1 n v0 x = some r) (fun x h => by simp [f13.l1] at h) ?_ 0 hm (Sub.cons rfl (Sub.cons rfl (Sub.cons rfl (Sub.cons rfl (Sub.nil _))))) (fun w h => (((((((((h).ent (Ent.copy 2 rfl)).ent (Ent.copy 2 rfl)).ent (Ent.take 3 rfl)).ent (Ent.drop _ _)).ent (Ent.take 3 rfl)).ent (Ent.drop _ _)).ent (Ent.take 2 rfl)).ent (Ent.take 1 rfl)).ent (Ent.take 2 rfl))
      intro k181 h182
      rintro v180 hm
      try dsimp only
      rw [f13.l1.eq_2] at hm
      refine T.seq rfl ?_
      refine T.region rfl ?_
      refine TO.go rfl rfl rfl (Does.bin (v := .bool (decide (v180 < (v0.Locals.length : Int)))) rfl rfl rfl g_int b_lt) fun _ => ?_
      refine TO.end rfl ?_
      refine TQ.then ?_
      refine T.seq rfl ?_
      refine T.cond rfl (b := (decide (v180 < (v0.Locals.length : Int)))) rfl (fun h184 => ?_) (fun h184 => ?_)
      · replace hm := ite_t hm h184
        refine T.skip rfl ?_
        refine TQ.then ?_
        refine T.seq rfl ?_
        refine T.block rfl ?_
        refine T.seq rfl ?_
        refine T.region rfl ?_
        obtain ⟨v192, h193, hm⟩ := bind_o hm
        refine TO.go rfl rfl rfl (Does.indexSl (r := api_Local.rep) (k := 0) rfl rfl rfl sl_29 rfl Arrd.ro h193) fun _ => ?_
        refine TO.go rfl rfl rfl (Does.loadFlatN (r := api_Local.rep) (k := 0) (f := 0) (vs := [.int .u32 v192.N, .int .u8 v192.T.toNat]) rfl rfl ag_104 rfl Arrd.ro (at?_out h193).2.2 rfl rfl) fun _ => ?_
        refine TO.go rfl rfl rfl (Does.alloc rfl zn_104) fun b194 => ?_
        refine TO.ent (L' := pts b194 [.int .u32 0, .int .u8 (0 : UInt8).toNat] :: ro api_Local.rep a101 n102 v0.Locals :: ro api_Instr.rep a104 n105 v0.Body :: pts b107 [.slice a101 v0.Locals.length n102, .slice a104 v0.Body.length n105] :: R) (fun w h => h) ?_
        refine TO.go0 rfl rfl (Does.storePts (k := 0) (vs := [.int .u32 v192.N, .int .u8 v192.T.toNat]) (cs' := [.int .u32 v192.N, .int .u8 v192.T.toNat]) rfl rfl rfl rfl rfl cn_104 rfl rfl rfl rfl) fun _ => ?_
        refine TO.ent (L' := pts b194 [.int .u32 v192.N, .int .u8 v192.T.toNat] :: ro api_Local.rep a101 n102 v0.Locals :: ro api_Instr.rep a104 n105 v0.Body :: pts b107 [.slice a101 v0.Locals.length n102, .slice a104 v0.Body.length n105] :: R) (fun w h => h) ?_
        refine TO.end rfl ?_
        refine TQ.then ?_
        refine T.seq rfl ?_
        refine T.region rfl ?_
        refine TO.go rfl rfl rfl (Does.fieldAddr (o' := 1) rfl rfl fo_104_1 rfl) fun _ => ?_
        refine TO.go rfl rfl rfl (Does.loadPts (k := 0) (v := .int .u8 v192.T.toNat) rfl rfl sc_5 rfl rfl) fun _ => ?_
        obtain ⟨v196, h197, hm⟩ := bind_o hm
        refine TO.go rfl rfl rfl (Does.conseq (Does.call (vs := [.int .u8 v192.T.toNat]) rfl co_43 rfl (fun w h => f43.ok v192.T h197 (h))) (fun w h => h) (fun x w h => ((((h).ent (Ent.take 3 rfl)).ent (Ent.take 3 rfl)).ent (Ent.take 3 rfl)).ent (Ent.take 3 rfl))) fun _ => ?_
        refine TO.go rfl rfl rfl (Does.assign rfl rfl) fun _ => ?_
        refine TO.end rfl ?_
        refine TQ.then ?_
        refine T.seq rfl ?_
        refine T.region rfl ?_
        refine TO.go rfl rfl rfl (Does.move rfl rfl) fun _ => ?_
        refine TO.go rfl rfl rfl (Does.bin (v := .bool (v196 != 0)) (vy := .int .i64 0) rfl rfl rfl g_int b_ne) fun _ => ?_
        refine TO.end rfl ?_
        refine TQ.then ?_
        refine T.cond rfl (b := (v196 != 0)) rfl (fun h198 => ?_) (fun h198 => ?_)
        · replace hm := ite_t hm h198
          refine T.seq rfl ?_
          refine T.region rfl ?_
          refine TO.go rfl rfl rfl (Does.move rfl rfl) fun _ => ?_
          refine TO.go rfl rfl rfl (Does.assign rfl rfl) fun _ => ?_
          refine TO.end rfl ?_
          refine TQ.then ?_
          refine T.ret rfl ?_
          refine TQ.passBlockRet ?_
          refine TQ.passThenRet ?_
          refine TQ.passThenRet ?_
          refine TQ.passBlockRet ?_
          refine TQ.passThenRet ?_
          refine TQ.result (.inl rfl) rfl (Res.tmp rfl Res.nil) rfl (fun w h => ?_)
          cases hm
          exact ⟨(), rfl, ((((h).ent (Ent.drop _ _)).ent (Ent.drop _ _)).ent (Ent.drop _ _)).ent (Ent.drop _ _)⟩
        · replace hm := ite_f hm h198
          refine T.skip rfl ?_
          refine TQ.passBlockNormal ?_
          refine TQ.then ?_
          refine T.region rfl ?_
          refine TO.go rfl rfl rfl (Does.bin (v := .int .i64 (IntKind.i64.wrap (v180 + 1))) (vy := .int .i64 1) rfl rfl rfl g_int b_add) fun _ => ?_
          refine TO.go rfl rfl rfl (Does.move rfl rfl) fun _ => ?_
          refine TO.end rfl ?_
          exact TQ.again (TR.sub (h182 (IntKind.i64.wrap (v180 + 1)) hm) (Sub.cons rfl (Sub.cons rfl (Sub.cons rfl (Sub.cons rfl (Sub.nil _))))) (fun w h => (((((((((((h).ent (Ent.copy 1 rfl)).ent (Ent.copy 3 rfl)).ent (Ent.take 2 rfl)).ent (Ent.drop _ _)).ent (Ent.take 2 rfl)).ent (Ent.drop _ _)).ent (Ent.take 2 rfl)).ent (Ent.drop _ _)).ent (Ent.take 2 rfl)).ent (Ent.take 1 rfl)).ent (Ent.take 2 rfl)))
      · replace hm := ite_f hm h184
        refine T.exit rfl ?_
        refine TQ.passThenExit ?_
        refine TQ.passThenExit ?_
        refine TQ.exitHere ?_
        refine TQ.then ?_
        refine T.seq rfl ?_
        refine T.region rfl ?_
        refine TO.go rfl rfl rfl (Does.fieldAddr (o' := 1) rfl rfl fo_32_1 rfl) fun _ => ?_
        refine TO.go rfl rfl rfl (Does.loadPts (k := 2) (v := .slice a104 v0.Body.length n105) rfl rfl sc_30 rfl rfl) fun _ => ?_
        obtain ⟨v202, h203, hm⟩ := bind_o hm
        refine TO.go rfl rfl rfl (Does.conseq (Does.call (vs := [.slice a104 v0.Body.length n105]) rfl co_44 rfl (fun w h => f44.ok v0.Body a104 n105 h203 ((h).ent (Ent.copy 1 rfl)))) (fun w h => h) (fun x w h => (((h).ent (Ent.take 2 rfl)).ent (Ent.take 2 rfl)).ent (Ent.take 2 rfl))) fun _ => ?_
        refine TO.go rfl rfl rfl (Does.assign rfl rfl) fun _ => ?_
        refine TO.end rfl ?_
        refine TQ.then ?_
        refine T.ret rfl ?_
        refine TQ.result (.inl rfl) rfl (Res.tmp rfl Res.nil) rfl (fun w h => ?_)
        cases hm
        exact ⟨(), rfl, (((h).ent (Ent.drop _ _)).ent (Ent.drop _ _)).ent (Ent.drop _ _)⟩

end Go.Proofs.Ytfonekhhbmlkbaa
