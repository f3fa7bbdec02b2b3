/- Mirrors of functions, and that the Go functions compute them. Printed by gofun.py. -/
import Derived.Test.YtfonekhhbmlkbaaG3
set_option linter.unusedVariables false
set_option linter.unusedSimpArgs false
namespace Go.Proofs.Ytfonekhhbmlkbaa
open Go Go.Sym
def f66.j2 (v0 : UInt8) (v165 : Bool) : Option Int :=
  (if v165 = true then some 8 else ((f47.f v0).bind fun v168 => (if (v168.Name == ([] : List UInt8)) = true then some 9 else some 0)))
def f66.j1 (v0 : UInt8) (v140 : Bool) : Option Int :=
  (if v140 = true then some 8 else (if (decide ((91 : UInt8) ≤ v0)) = true then (if (decide (v0 ≤ (102 : UInt8))) = true then f66.j2 v0 true else (if (decide ((139 : UInt8) ≤ v0)) = true then (if (decide (v0 ≤ (166 : UInt8))) = true then f66.j2 v0 true else (if (decide ((168 : UInt8) ≤ v0)) = true then (if (decide (v0 ≤ (171 : UInt8))) = true then f66.j2 v0 true else (if (decide ((174 : UInt8) ≤ v0)) = true then f66.j2 v0 (decide (v0 ≤ (191 : UInt8))) else f66.j2 v0 false)) else (if (decide ((174 : UInt8) ≤ v0)) = true then f66.j2 v0 (decide (v0 ≤ (191 : UInt8))) else f66.j2 v0 false))) else (if (decide ((168 : UInt8) ≤ v0)) = true then (if (decide (v0 ≤ (171 : UInt8))) = true then f66.j2 v0 true else (if (decide ((174 : UInt8) ≤ v0)) = true then f66.j2 v0 (decide (v0 ≤ (191 : UInt8))) else f66.j2 v0 false)) else (if (decide ((174 : UInt8) ≤ v0)) = true then f66.j2 v0 (decide (v0 ≤ (191 : UInt8))) else f66.j2 v0 false)))) else (if (decide ((139 : UInt8) ≤ v0)) = true then (if (decide (v0 ≤ (166 : UInt8))) = true then f66.j2 v0 true else (if (decide ((168 : UInt8) ≤ v0)) = true then (if (decide (v0 ≤ (171 : UInt8))) = true then f66.j2 v0 true else (if (decide ((174 : UInt8) ≤ v0)) = true then f66.j2 v0 (decide (v0 ≤ (191 : UInt8))) else f66.j2 v0 false)) else (if (decide ((174 : UInt8) ≤ v0)) = true then f66.j2 v0 (decide (v0 ≤ (191 : UInt8))) else f66.j2 v0 false))) else (if (decide ((168 : UInt8) ≤ v0)) = true then (if (decide (v0 ≤ (171 : UInt8))) = true then f66.j2 v0 true else (if (decide ((174 : UInt8) ≤ v0)) = true then f66.j2 v0 (decide (v0 ≤ (191 : UInt8))) else f66.j2 v0 false)) else (if (decide ((174 : UInt8) ≤ v0)) = true then f66.j2 v0 (decide (v0 ≤ (191 : UInt8))) else f66.j2 v0 false)))))
/-- creel/ops.Check -/
def f66.f (v0 : UInt8) : Option Int :=
  (if (v0 == (42 : UInt8)) = true then f66.j1 v0 true else (if (v0 == (43 : UInt8)) = true then f66.j1 v0 true else (if (v0 == (56 : UInt8)) = true then f66.j1 v0 true else (if (v0 == (57 : UInt8)) = true then f66.j1 v0 true else (if (v0 == (67 : UInt8)) = true then f66.j1 v0 true else f66.j1 v0 (v0 == (68 : UInt8)))))))
set_option maxRecDepth 20000 in
set_option maxHeartbeats 1000000 in
theorem f66.ok {W w : World} {R : List Assn} (v0 : UInt8) {r : Int} (hm : f66.f v0 = some r) (hs : St W w (R)) :
    Calls Try.prog 66 #[.int .u8 v0.toNat] w (fun e w' => ∃ x : Unit, e = .returned (.int .i64 r) ∧ St W w' (R)) := by
  unfold f66.f at hm
  refine calls_sym (vs := [.int .u8 v0.toNat]) Try.func66 rfl rfl hs ?_
  refine T.seq rfl ?_
  refine T.region rfl ?_
  refine TO.go rfl rfl rfl (Does.assign (v := .int .i64 0) rfl rfl) fun _ => ?_
  refine TO.end rfl ?_
  refine TQ.then ?_
  refine T.seq rfl ?_
  refine T.block rfl ?_
  refine T.seqJ (X := Bool) rfl (fun x => [(3, .bool x), (0, .int .u8 v0.toNat)]) (fun x => R) (fun x => f66.j1 v0 x = some r) ?_ ?_
  · rintro v140 hm
    try dsimp only
    unfold f66.j1 at hm
    refine T.cond rfl (b := v140) rfl (fun h142 => ?_) (fun h142 => ?_)
    · replace hm := ite_t hm h142
      refine T.seq rfl ?_
      refine T.region rfl ?_
      refine TO.go rfl rfl rfl (Does.assign (v := .int .i64 8) rfl rfl) fun _ => ?_
      refine TO.end rfl ?_
      refine TQ.then ?_
      refine T.ret rfl ?_
      refine TQ.passBlockRet ?_
      refine TQ.passThenRet ?_
      refine TQ.result (.inl rfl) rfl (Res.tmp rfl Res.nil) rfl (fun w h => ?_)
      cases hm
      exact ⟨(), rfl, h⟩
    · replace hm := ite_f hm h142
      refine T.seqJ (X := Bool) rfl (fun x => [(26, .bool x), (0, .int .u8 v0.toNat)]) (fun x => R) (fun x => f66.j2 v0 x = some r) ?_ ?_
      · rintro v165 hm
        try dsimp only
        unfold f66.j2 at hm
        refine T.cond rfl (b := v165) rfl (fun h167 => ?_) (fun h167 => ?_)
        · replace hm := ite_t hm h167
          refine T.seq rfl ?_
          refine T.region rfl ?_
          refine TO.go rfl rfl rfl (Does.assign (v := .int .i64 8) rfl rfl) fun _ => ?_
          refine TO.end rfl ?_
          refine TQ.then ?_
          refine T.ret rfl ?_
          refine TQ.passBlockRet ?_
          refine TQ.passThenRet ?_
          refine TQ.result (.inl rfl) rfl (Res.tmp rfl Res.nil) rfl (fun w h => ?_)
          cases hm
          exact ⟨(), rfl, h⟩
        · replace hm := ite_f hm h167
          refine T.seq rfl ?_
          refine T.region rfl ?_
          refine TO.go rfl rfl rfl (Does.move rfl rfl) fun _ => ?_
          obtain ⟨v168, h169, hm⟩ := bind_o hm
          refine TO.go rfl rfl rfl (Does.call (vs := [.int .u8 v0.toNat]) rfl co_47 rfl (fun w h => f47.ok v0 h169 (h))) fun _ => ?_
          refine TO.go rfl rfl rfl (Does.fieldV (v := .string ⟨v168.Name.toArray⟩) rfl rfl (fun w => by kernel_rfl)) fun _ => ?_
          refine TO.go rfl rfl rfl (Does.bin (v := .bool (v168.Name == ([] : List UInt8))) (vy := .string ⟨([] : List UInt8).toArray⟩) rfl rfl rfl g_str s_eq) fun _ => ?_
          refine TO.go rfl rfl rfl (Does.assign rfl rfl) fun _ => ?_
          refine TO.end rfl ?_
          refine TQ.then ?_
          refine T.cond rfl (b := (v168.Name == ([] : List UInt8))) rfl (fun h170 => ?_) (fun h170 => ?_)
          · replace hm := ite_t hm h170
            refine T.seq rfl ?_
            refine T.region rfl ?_
            refine TO.go rfl rfl rfl (Does.assign (v := .int .i64 9) rfl rfl) fun _ => ?_
            refine TO.end rfl ?_
            refine TQ.then ?_
            refine T.ret rfl ?_
            refine TQ.passBlockRet ?_
            refine TQ.passThenRet ?_
            refine TQ.result (.inl rfl) rfl (Res.tmp rfl Res.nil) rfl (fun w h => ?_)
            cases hm
            exact ⟨(), rfl, h⟩
          · replace hm := ite_f hm h170
            refine T.skip rfl ?_
            refine TQ.passBlockNormal ?_
            refine TQ.then ?_
            refine T.seq rfl ?_
            refine T.region rfl ?_
            refine TO.go rfl rfl rfl (Does.assign (v := .int .i64 0) rfl rfl) fun _ => ?_
            refine TO.end rfl ?_
            refine TQ.then ?_
            refine T.ret rfl ?_
            refine TQ.result (.inl rfl) rfl (Res.tmp rfl Res.nil) rfl (fun w h => ?_)
            cases hm
            exact ⟨(), rfl, h⟩
      · intro h166
        refine T.region rfl ?_
        refine TO.go rfl rfl rfl (Does.move rfl rfl) fun _ => ?_
        refine TO.go rfl rfl rfl (Does.bin (v := .bool (decide ((91 : UInt8) ≤ v0))) (vy := .int .u8 (91 : UInt8).toNat) rfl rfl rfl g_int b8_ge) fun _ => ?_
        refine TO.go rfl rfl rfl (Does.move rfl rfl) fun _ => ?_
        by_cases h171 : (decide ((91 : UInt8) ≤ v0)) = true
        · replace hm := ite_t hm h171
          refine TO.go rfl rfl rfl (Does.move (.inl ⟨_, _, rfl, rfl, by rw [h171]; rfl⟩) rfl) fun _ => ?_
          refine TO.go rfl rfl rfl (Does.bin (v := .bool (decide (v0 ≤ (102 : UInt8)))) (vy := .int .u8 (102 : UInt8).toNat) (.inl ⟨_, _, rfl, rfl, by rw [h171]; rfl⟩) rfl rfl g_int b8_le) fun _ => ?_
          refine TO.go rfl rfl rfl (Does.pickT rfl rfl h171 rfl) fun _ => ?_
          refine TO.go rfl rfl rfl (Does.move rfl rfl) fun _ => ?_
          by_cases h172 : (decide (v0 ≤ (102 : UInt8))) = true
          · replace hm := ite_t hm h172
            refine TO.go rfl rfl rfl (Does.not (.inl ⟨_, _, rfl, rfl, by rw [h172]; rfl⟩)) fun _ => ?_
            refine TO.go rfl rfl rfl (Does.not (.inl ⟨_, _, rfl, rfl, by rw [h172]; rfl⟩)) fun _ => ?_
            refine TO.go rfl rfl rfl (Does.not (.inl ⟨_, _, rfl, rfl, by rw [h172]; rfl⟩)) fun _ => ?_
            refine TO.go rfl rfl rfl (Does.not (.inr ⟨rfl, _, rfl, rfl⟩)) fun _ => ?_
            refine TO.go rfl rfl rfl (Does.not (.inr ⟨rfl, _, rfl, rfl⟩)) fun _ => ?_
            refine TO.go rfl rfl rfl (Does.not (.inl ⟨_, _, rfl, rfl, by rw [h172]; rfl⟩)) fun _ => ?_
            refine TO.go rfl rfl rfl (Does.pickT (v := .bool true) rfl rfl h172 rfl) fun _ => ?_
            refine TO.go rfl rfl rfl (Does.move rfl rfl) fun _ => ?_
            refine TO.go rfl rfl rfl (Does.not (.inl ⟨_, _, rfl, rfl, rfl⟩)) fun _ => ?_
            refine TO.go rfl rfl rfl (Does.not (.inl ⟨_, _, rfl, rfl, rfl⟩)) fun _ => ?_
            refine TO.go rfl rfl rfl (Does.not (.inl ⟨_, _, rfl, rfl, rfl⟩)) fun _ => ?_
            refine TO.go rfl rfl rfl (Does.not (.inr ⟨rfl, _, rfl, rfl⟩)) fun _ => ?_
            refine TO.go rfl rfl rfl (Does.not (.inr ⟨rfl, _, rfl, rfl⟩)) fun _ => ?_
            refine TO.go rfl rfl rfl (Does.not (.inl ⟨_, _, rfl, rfl, rfl⟩)) fun _ => ?_
            refine TO.go rfl rfl rfl (Does.pickT (v := .bool true) rfl rfl rfl rfl) fun _ => ?_
            refine TO.go rfl rfl rfl (Does.move rfl rfl) fun _ => ?_
            refine TO.go rfl rfl rfl (Does.not (.inl ⟨_, _, rfl, rfl, rfl⟩)) fun _ => ?_
            refine TO.go rfl rfl rfl (Does.not (.inl ⟨_, _, rfl, rfl, rfl⟩)) fun _ => ?_
            refine TO.go rfl rfl rfl (Does.not (.inl ⟨_, _, rfl, rfl, rfl⟩)) fun _ => ?_
            refine TO.go rfl rfl rfl (Does.not (.inr ⟨rfl, _, rfl, rfl⟩)) fun _ => ?_
            refine TO.go rfl rfl rfl (Does.not (.inr ⟨rfl, _, rfl, rfl⟩)) fun _ => ?_
            refine TO.go rfl rfl rfl (Does.not (.inl ⟨_, _, rfl, rfl, rfl⟩)) fun _ => ?_
            refine TO.go rfl rfl rfl (Does.pickT (v := .bool true) rfl rfl rfl rfl) fun _ => ?_
            refine TO.go rfl rfl rfl (Does.assign rfl rfl) fun _ => ?_
            refine TO.end rfl ?_
            exact TQ.then (T.sub (h166 true hm) (Sub.cons rfl (Sub.cons rfl (Sub.nil _))) (fun w h => h))
          · replace h172 := bool_f h172
            replace hm := ite_f hm h172
            refine TO.go rfl rfl rfl (Does.move (.inl ⟨_, _, rfl, rfl, by rw [h172]; rfl⟩) rfl) fun _ => ?_
            refine TO.go rfl rfl rfl (Does.bin (v := .bool (decide ((139 : UInt8) ≤ v0))) (vy := .int .u8 (139 : UInt8).toNat) (.inl ⟨_, _, rfl, rfl, by rw [h172]; rfl⟩) rfl rfl g_int b8_ge) fun _ => ?_
            refine TO.go rfl rfl rfl (Does.move (.inl ⟨_, _, rfl, rfl, by rw [h172]; rfl⟩) rfl) fun _ => ?_
            by_cases h173 : (decide ((139 : UInt8) ≤ v0)) = true
            · replace hm := ite_t hm h173
              refine TO.go rfl rfl rfl (Does.move (.inl ⟨_, _, rfl, rfl, by rw [h173]; rfl⟩) rfl) fun _ => ?_
              refine TO.go rfl rfl rfl (Does.bin (v := .bool (decide (v0 ≤ (166 : UInt8)))) (vy := .int .u8 (166 : UInt8).toNat) (.inl ⟨_, _, rfl, rfl, by rw [h173]; rfl⟩) rfl rfl g_int b8_le) fun _ => ?_
              refine TO.go rfl rfl rfl (Does.pickT (.inl ⟨_, _, rfl, rfl, by rw [h172]; rfl⟩) rfl h173 rfl) fun _ => ?_
              refine TO.go rfl rfl rfl (Does.pickF rfl rfl h172 rfl) fun _ => ?_
              refine TO.go rfl rfl rfl (Does.move rfl rfl) fun _ => ?_
              by_cases h174 : (decide (v0 ≤ (166 : UInt8))) = true
              · replace hm := ite_t hm h174
                refine TO.go rfl rfl rfl (Does.not (.inl ⟨_, _, rfl, rfl, by rw [h174]; rfl⟩)) fun _ => ?_
                refine TO.go rfl rfl rfl (Does.not (.inl ⟨_, _, rfl, rfl, by rw [h174]; rfl⟩)) fun _ => ?_
                refine TO.go rfl rfl rfl (Does.not (.inl ⟨_, _, rfl, rfl, by rw [h174]; rfl⟩)) fun _ => ?_
                refine TO.go rfl rfl rfl (Does.not (.inr ⟨rfl, _, rfl, rfl⟩)) fun _ => ?_
                refine TO.go rfl rfl rfl (Does.not (.inr ⟨rfl, _, rfl, rfl⟩)) fun _ => ?_
                refine TO.go rfl rfl rfl (Does.not (.inl ⟨_, _, rfl, rfl, by rw [h174]; rfl⟩)) fun _ => ?_
                refine TO.go rfl rfl rfl (Does.pickT (v := .bool true) rfl rfl h174 rfl) fun _ => ?_
                refine TO.go rfl rfl rfl (Does.move rfl rfl) fun _ => ?_
                refine TO.go rfl rfl rfl (Does.not (.inl ⟨_, _, rfl, rfl, rfl⟩)) fun _ => ?_
                refine TO.go rfl rfl rfl (Does.not (.inl ⟨_, _, rfl, rfl, rfl⟩)) fun _ => ?_
                refine TO.go rfl rfl rfl (Does.not (.inl ⟨_, _, rfl, rfl, rfl⟩)) fun _ => ?_
                refine TO.go rfl rfl rfl (Does.not (.inr ⟨rfl, _, rfl, rfl⟩)) fun _ => ?_
                refine TO.go rfl rfl rfl (Does.not (.inr ⟨rfl, _, rfl, rfl⟩)) fun _ => ?_
                refine TO.go rfl rfl rfl (Does.not (.inl ⟨_, _, rfl, rfl, rfl⟩)) fun _ => ?_
                refine TO.go rfl rfl rfl (Does.pickT (v := .bool true) rfl rfl rfl rfl) fun _ => ?_
                refine TO.go rfl rfl rfl (Does.assign rfl rfl) fun _ => ?_
                refine TO.end rfl ?_
                exact TQ.then (T.sub (h166 true hm) (Sub.cons rfl (Sub.cons rfl (Sub.nil _))) (fun w h => h))
              · replace h174 := bool_f h174
                replace hm := ite_f hm h174
                refine TO.go rfl rfl rfl (Does.move (.inl ⟨_, _, rfl, rfl, by rw [h174]; rfl⟩) rfl) fun _ => ?_
                refine TO.go rfl rfl rfl (Does.bin (v := .bool (decide ((168 : UInt8) ≤ v0))) (vy := .int .u8 (168 : UInt8).toNat) (.inl ⟨_, _, rfl, rfl, by rw [h174]; rfl⟩) rfl rfl g_int b8_ge) fun _ => ?_
                refine TO.go rfl rfl rfl (Does.move (.inl ⟨_, _, rfl, rfl, by rw [h174]; rfl⟩) rfl) fun _ => ?_
                by_cases h175 : (decide ((168 : UInt8) ≤ v0)) = true
                · replace hm := ite_t hm h175
                  refine TO.go rfl rfl rfl (Does.move (.inl ⟨_, _, rfl, rfl, by rw [h175]; rfl⟩) rfl) fun _ => ?_
                  refine TO.go rfl rfl rfl (Does.bin (v := .bool (decide (v0 ≤ (171 : UInt8)))) (vy := .int .u8 (171 : UInt8).toNat) (.inl ⟨_, _, rfl, rfl, by rw [h175]; rfl⟩) rfl rfl g_int b8_le) fun _ => ?_
                  refine TO.go rfl rfl rfl (Does.pickT (.inl ⟨_, _, rfl, rfl, by rw [h174]; rfl⟩) rfl h175 rfl) fun _ => ?_
                  refine TO.go rfl rfl rfl (Does.pickF rfl rfl h174 rfl) fun _ => ?_
                  refine TO.go rfl rfl rfl (Does.move rfl rfl) fun _ => ?_
                  by_cases h176 : (decide (v0 ≤ (171 : UInt8))) = true
                  · replace hm := ite_t hm h176
                    refine TO.go rfl rfl rfl (Does.not (.inl ⟨_, _, rfl, rfl, by rw [h176]; rfl⟩)) fun _ => ?_
                    refine TO.go rfl rfl rfl (Does.not (.inl ⟨_, _, rfl, rfl, by rw [h176]; rfl⟩)) fun _ => ?_
                    refine TO.go rfl rfl rfl (Does.not (.inl ⟨_, _, rfl, rfl, by rw [h176]; rfl⟩)) fun _ => ?_
                    refine TO.go rfl rfl rfl (Does.not (.inr ⟨rfl, _, rfl, rfl⟩)) fun _ => ?_
                    refine TO.go rfl rfl rfl (Does.not (.inr ⟨rfl, _, rfl, rfl⟩)) fun _ => ?_
                    refine TO.go rfl rfl rfl (Does.not (.inl ⟨_, _, rfl, rfl, by rw [h176]; rfl⟩)) fun _ => ?_
                    refine TO.go rfl rfl rfl (Does.pickT (v := .bool true) rfl rfl h176 rfl) fun _ => ?_
                    refine TO.go rfl rfl rfl (Does.assign rfl rfl) fun _ => ?_
                    refine TO.end rfl ?_
                    exact TQ.then (T.sub (h166 true hm) (Sub.cons rfl (Sub.cons rfl (Sub.nil _))) (fun w h => h))
                  · replace h176 := bool_f h176
                    replace hm := ite_f hm h176
                    refine TO.go rfl rfl rfl (Does.move (.inl ⟨_, _, rfl, rfl, by rw [h176]; rfl⟩) rfl) fun _ => ?_
                    refine TO.go rfl rfl rfl (Does.bin (v := .bool (decide ((174 : UInt8) ≤ v0))) (vy := .int .u8 (174 : UInt8).toNat) (.inl ⟨_, _, rfl, rfl, by rw [h176]; rfl⟩) rfl rfl g_int b8_ge) fun _ => ?_
                    refine TO.go rfl rfl rfl (Does.move (.inl ⟨_, _, rfl, rfl, by rw [h176]; rfl⟩) rfl) fun _ => ?_
                    by_cases h177 : (decide ((174 : UInt8) ≤ v0)) = true
                    · replace hm := ite_t hm h177
                      refine TO.go rfl rfl rfl (Does.move (.inl ⟨_, _, rfl, rfl, by rw [h177]; rfl⟩) rfl) fun _ => ?_
                      refine TO.go rfl rfl rfl (Does.bin (v := .bool (decide (v0 ≤ (191 : UInt8)))) (vy := .int .u8 (191 : UInt8).toNat) (.inl ⟨_, _, rfl, rfl, by rw [h177]; rfl⟩) rfl rfl g_int b8_le) fun _ => ?_
                      refine TO.go rfl rfl rfl (Does.pickT (.inl ⟨_, _, rfl, rfl, by rw [h176]; rfl⟩) rfl h177 rfl) fun _ => ?_
                      refine TO.go rfl rfl rfl (Does.pickF rfl rfl h176 rfl) fun _ => ?_
                      refine TO.go rfl rfl rfl (Does.assign rfl rfl) fun _ => ?_
                      refine TO.end rfl ?_
                      exact TQ.then (T.sub (h166 (decide (v0 ≤ (191 : UInt8))) hm) (Sub.cons rfl (Sub.cons rfl (Sub.nil _))) (fun w h => h))
                    · replace h177 := bool_f h177
                      replace hm := ite_f hm h177
                      refine TO.go rfl rfl rfl (Does.not (.inl ⟨_, _, rfl, rfl, by rw [h177]; rfl⟩)) fun _ => ?_
                      refine TO.go rfl rfl rfl (Does.not (.inl ⟨_, _, rfl, rfl, by rw [h177]; rfl⟩)) fun _ => ?_
                      refine TO.go rfl rfl rfl (Does.pickF (v := .bool false) (.inl ⟨_, _, rfl, rfl, by rw [h176]; rfl⟩) rfl h177 rfl) fun _ => ?_
                      refine TO.go rfl rfl rfl (Does.pickF rfl rfl h176 rfl) fun _ => ?_
                      refine TO.go rfl rfl rfl (Does.assign rfl rfl) fun _ => ?_
                      refine TO.end rfl ?_
                      exact TQ.then (T.sub (h166 false hm) (Sub.cons rfl (Sub.cons rfl (Sub.nil _))) (fun w h => h))
                · replace h175 := bool_f h175
                  replace hm := ite_f hm h175
                  refine TO.go rfl rfl rfl (Does.not (.inl ⟨_, _, rfl, rfl, by rw [h175]; rfl⟩)) fun _ => ?_
                  refine TO.go rfl rfl rfl (Does.not (.inl ⟨_, _, rfl, rfl, by rw [h175]; rfl⟩)) fun _ => ?_
                  refine TO.go rfl rfl rfl (Does.pickF (v := .bool false) (.inl ⟨_, _, rfl, rfl, by rw [h174]; rfl⟩) rfl h175 rfl) fun _ => ?_
                  refine TO.go rfl rfl rfl (Does.pickF rfl rfl h174 rfl) fun _ => ?_
                  refine TO.go rfl rfl rfl (Does.move rfl rfl) fun _ => ?_
                  refine TO.go rfl rfl rfl (Does.move (.inl ⟨_, _, rfl, rfl, rfl⟩) rfl) fun _ => ?_
                  refine TO.go rfl rfl rfl (Does.bin (v := .bool (decide ((174 : UInt8) ≤ v0))) (vy := .int .u8 (174 : UInt8).toNat) (.inl ⟨_, _, rfl, rfl, rfl⟩) rfl rfl g_int b8_ge) fun _ => ?_
                  refine TO.go rfl rfl rfl (Does.move (.inl ⟨_, _, rfl, rfl, rfl⟩) rfl) fun _ => ?_
                  by_cases h178 : (decide ((174 : UInt8) ≤ v0)) = true
                  · replace hm := ite_t hm h178
                    refine TO.go rfl rfl rfl (Does.move (.inl ⟨_, _, rfl, rfl, by rw [h178]; rfl⟩) rfl) fun _ => ?_
                    refine TO.go rfl rfl rfl (Does.bin (v := .bool (decide (v0 ≤ (191 : UInt8)))) (vy := .int .u8 (191 : UInt8).toNat) (.inl ⟨_, _, rfl, rfl, by rw [h178]; rfl⟩) rfl rfl g_int b8_le) fun _ => ?_
                    refine TO.go rfl rfl rfl (Does.pickT (.inl ⟨_, _, rfl, rfl, rfl⟩) rfl h178 rfl) fun _ => ?_
                    refine TO.go rfl rfl rfl (Does.pickF rfl rfl rfl rfl) fun _ => ?_
                    refine TO.go rfl rfl rfl (Does.assign rfl rfl) fun _ => ?_
                    refine TO.end rfl ?_
                    exact TQ.then (T.sub (h166 (decide (v0 ≤ (191 : UInt8))) hm) (Sub.cons rfl (Sub.cons rfl (Sub.nil _))) (fun w h => h))
                  · replace h178 := bool_f h178
                    replace hm := ite_f hm h178
                    refine TO.go rfl rfl rfl (Does.not (.inl ⟨_, _, rfl, rfl, by rw [h178]; rfl⟩)) fun _ => ?_
                    refine TO.go rfl rfl rfl (Does.not (.inl ⟨_, _, rfl, rfl, by rw [h178]; rfl⟩)) fun _ => ?_
                    refine TO.go rfl rfl rfl (Does.pickF (v := .bool false) (.inl ⟨_, _, rfl, rfl, rfl⟩) rfl h178 rfl) fun _ => ?_
                    refine TO.go rfl rfl rfl (Does.pickF rfl rfl rfl rfl) fun _ => ?_
                    refine TO.go rfl rfl rfl (Does.assign rfl rfl) fun _ => ?_
                    refine TO.end rfl ?_
                    exact TQ.then (T.sub (h166 false hm) (Sub.cons rfl (Sub.cons rfl (Sub.nil _))) (fun w h => h))
            · replace h173 := bool_f h173
              replace hm := ite_f hm h173
              refine TO.go rfl rfl rfl (Does.not (.inl ⟨_, _, rfl, rfl, by rw [h173]; rfl⟩)) fun _ => ?_
              refine TO.go rfl rfl rfl (Does.not (.inl ⟨_, _, rfl, rfl, by rw [h173]; rfl⟩)) fun _ => ?_
              refine TO.go rfl rfl rfl (Does.pickF (v := .bool false) (.inl ⟨_, _, rfl, rfl, by rw [h172]; rfl⟩) rfl h173 rfl) fun _ => ?_
              refine TO.go rfl rfl rfl (Does.pickF rfl rfl h172 rfl) fun _ => ?_
              refine TO.go rfl rfl rfl (Does.move rfl rfl) fun _ => ?_
              refine TO.go rfl rfl rfl (Does.move (.inl ⟨_, _, rfl, rfl, rfl⟩) rfl) fun _ => ?_
              refine TO.go rfl rfl rfl (Does.bin (v := .bool (decide ((168 : UInt8) ≤ v0))) (vy := .int .u8 (168 : UInt8).toNat) (.inl ⟨_, _, rfl, rfl, rfl⟩) rfl rfl g_int b8_ge) fun _ => ?_
              refine TO.go rfl rfl rfl (Does.move (.inl ⟨_, _, rfl, rfl, rfl⟩) rfl) fun _ => ?_
              by_cases h179 : (decide ((168 : UInt8) ≤ v0)) = true
              · replace hm := ite_t hm h179
                refine TO.go rfl rfl rfl (Does.move (.inl ⟨_, _, rfl, rfl, by rw [h179]; rfl⟩) rfl) fun _ => ?_
                refine TO.go rfl rfl rfl (Does.bin (v := .bool (decide (v0 ≤ (171 : UInt8)))) (vy := .int .u8 (171 : UInt8).toNat) (.inl ⟨_, _, rfl, rfl, by rw [h179]; rfl⟩) rfl rfl g_int b8_le) fun _ => ?_
                refine TO.go rfl rfl rfl (Does.pickT (.inl ⟨_, _, rfl, rfl, rfl⟩) rfl h179 rfl) fun _ => ?_
                refine TO.go rfl rfl rfl (Does.pickF rfl rfl rfl rfl) fun _ => ?_
                refine TO.go rfl rfl rfl (Does.move rfl rfl) fun _ => ?_
                by_cases h180 : (decide (v0 ≤ (171 : UInt8))) = true
                · replace hm := ite_t hm h180
                  refine TO.go rfl rfl rfl (Does.not (.inl ⟨_, _, rfl, rfl, by rw [h180]; rfl⟩)) fun _ => ?_
                  refine TO.go rfl rfl rfl (Does.not (.inl ⟨_, _, rfl, rfl, by rw [h180]; rfl⟩)) fun _ => ?_
                  refine TO.go rfl rfl rfl (Does.not (.inl ⟨_, _, rfl, rfl, by rw [h180]; rfl⟩)) fun _ => ?_
                  refine TO.go rfl rfl rfl (Does.not (.inr ⟨rfl, _, rfl, rfl⟩)) fun _ => ?_
                  refine TO.go rfl rfl rfl (Does.not (.inr ⟨rfl, _, rfl, rfl⟩)) fun _ => ?_
                  refine TO.go rfl rfl rfl (Does.not (.inl ⟨_, _, rfl, rfl, by rw [h180]; rfl⟩)) fun _ => ?_
                  refine TO.go rfl rfl rfl (Does.pickT (v := .bool true) rfl rfl h180 rfl) fun _ => ?_
                  refine TO.go rfl rfl rfl (Does.assign rfl rfl) fun _ => ?_
                  refine TO.end rfl ?_
                  exact TQ.then (T.sub (h166 true hm) (Sub.cons rfl (Sub.cons rfl (Sub.nil _))) (fun w h => h))
                · replace h180 := bool_f h180
                  replace hm := ite_f hm h180
                  refine TO.go rfl rfl rfl (Does.move (.inl ⟨_, _, rfl, rfl, by rw [h180]; rfl⟩) rfl) fun _ => ?_
                  refine TO.go rfl rfl rfl (Does.bin (v := .bool (decide ((174 : UInt8) ≤ v0))) (vy := .int .u8 (174 : UInt8).toNat) (.inl ⟨_, _, rfl, rfl, by rw [h180]; rfl⟩) rfl rfl g_int b8_ge) fun _ => ?_
                  refine TO.go rfl rfl rfl (Does.move (.inl ⟨_, _, rfl, rfl, by rw [h180]; rfl⟩) rfl) fun _ => ?_
                  by_cases h181 : (decide ((174 : UInt8) ≤ v0)) = true
                  · replace hm := ite_t hm h181
                    refine TO.go rfl rfl rfl (Does.move (.inl ⟨_, _, rfl, rfl, by rw [h181]; rfl⟩) rfl) fun _ => ?_
                    refine TO.go rfl rfl rfl (Does.bin (v := .bool (decide (v0 ≤ (191 : UInt8)))) (vy := .int .u8 (191 : UInt8).toNat) (.inl ⟨_, _, rfl, rfl, by rw [h181]; rfl⟩) rfl rfl g_int b8_le) fun _ => ?_
                    refine TO.go rfl rfl rfl (Does.pickT (.inl ⟨_, _, rfl, rfl, by rw [h180]; rfl⟩) rfl h181 rfl) fun _ => ?_
                    refine TO.go rfl rfl rfl (Does.pickF rfl rfl h180 rfl) fun _ => ?_
                    refine TO.go rfl rfl rfl (Does.assign rfl rfl) fun _ => ?_
                    refine TO.end rfl ?_
                    exact TQ.then (T.sub (h166 (decide (v0 ≤ (191 : UInt8))) hm) (Sub.cons rfl (Sub.cons rfl (Sub.nil _))) (fun w h => h))
                  · replace h181 := bool_f h181
                    replace hm := ite_f hm h181
                    refine TO.go rfl rfl rfl (Does.not (.inl ⟨_, _, rfl, rfl, by rw [h181]; rfl⟩)) fun _ => ?_
                    refine TO.go rfl rfl rfl (Does.not (.inl ⟨_, _, rfl, rfl, by rw [h181]; rfl⟩)) fun _ => ?_
                    refine TO.go rfl rfl rfl (Does.pickF (v := .bool false) (.inl ⟨_, _, rfl, rfl, by rw [h180]; rfl⟩) rfl h181 rfl) fun _ => ?_
                    refine TO.go rfl rfl rfl (Does.pickF rfl rfl h180 rfl) fun _ => ?_
                    refine TO.go rfl rfl rfl (Does.assign rfl rfl) fun _ => ?_
                    refine TO.end rfl ?_
                    exact TQ.then (T.sub (h166 false hm) (Sub.cons rfl (Sub.cons rfl (Sub.nil _))) (fun w h => h))
              · replace h179 := bool_f h179
                replace hm := ite_f hm h179
                refine TO.go rfl rfl rfl (Does.not (.inl ⟨_, _, rfl, rfl, by rw [h179]; rfl⟩)) fun _ => ?_
                refine TO.go rfl rfl rfl (Does.not (.inl ⟨_, _, rfl, rfl, by rw [h179]; rfl⟩)) fun _ => ?_
                refine TO.go rfl rfl rfl (Does.pickF (v := .bool false) (.inl ⟨_, _, rfl, rfl, rfl⟩) rfl h179 rfl) fun _ => ?_
                refine TO.go rfl rfl rfl (Does.pickF rfl rfl rfl rfl) fun _ => ?_
                refine TO.go rfl rfl rfl (Does.move rfl rfl) fun _ => ?_
                refine TO.go rfl rfl rfl (Does.move (.inl ⟨_, _, rfl, rfl, rfl⟩) rfl) fun _ => ?_
                refine TO.go rfl rfl rfl (Does.bin (v := .bool (decide ((174 : UInt8) ≤ v0))) (vy := .int .u8 (174 : UInt8).toNat) (.inl ⟨_, _, rfl, rfl, rfl⟩) rfl rfl g_int b8_ge) fun _ => ?_
                refine TO.go rfl rfl rfl (Does.move (.inl ⟨_, _, rfl, rfl, rfl⟩) rfl) fun _ => ?_
                by_cases h182 : (decide ((174 : UInt8) ≤ v0)) = true
                · replace hm := ite_t hm h182
                  refine TO.go rfl rfl rfl (Does.move (.inl ⟨_, _, rfl, rfl, by rw [h182]; rfl⟩) rfl) fun _ => ?_
                  refine TO.go rfl rfl rfl (Does.bin (v := .bool (decide (v0 ≤ (191 : UInt8)))) (vy := .int .u8 (191 : UInt8).toNat) (.inl ⟨_, _, rfl, rfl, by rw [h182]; rfl⟩) rfl rfl g_int b8_le) fun _ => ?_
                  refine TO.go rfl rfl rfl (Does.pickT (.inl ⟨_, _, rfl, rfl, rfl⟩) rfl h182 rfl) fun _ => ?_
                  refine TO.go rfl rfl rfl (Does.pickF rfl rfl rfl rfl) fun _ => ?_
                  refine TO.go rfl rfl rfl (Does.assign rfl rfl) fun _ => ?_
                  refine TO.end rfl ?_
                  exact TQ.then (T.sub (h166 (decide (v0 ≤ (191 : UInt8))) hm) (Sub.cons rfl (Sub.cons rfl (Sub.nil _))) (fun w h => h))
                · replace h182 := bool_f h182
                  replace hm := ite_f hm h182
                  refine TO.go rfl rfl rfl (Does.not (.inl ⟨_, _, rfl, rfl, by rw [h182]; rfl⟩)) fun _ => ?_
                  refine TO.go rfl rfl rfl (Does.not (.inl ⟨_, _, rfl, rfl, by rw [h182]; rfl⟩)) fun _ => ?_
                  refine TO.go rfl rfl rfl (Does.pickF (v := .bool false) (.inl ⟨_, _, rfl, rfl, rfl⟩) rfl h182 rfl) fun _ => ?_
                  refine TO.go rfl rfl rfl (Does.pickF rfl rfl rfl rfl) fun _ => ?_
                  refine TO.go rfl rfl rfl (Does.assign rfl rfl) fun _ => ?_
                  refine TO.end rfl ?_
                  exact TQ.then (T.sub (h166 false hm) (Sub.cons rfl (Sub.cons rfl (Sub.nil _))) (fun w h => h))
        · replace h171 := bool_f h171
          replace hm := ite_f hm h171
          refine TO.go rfl rfl rfl (Does.not (.inl ⟨_, _, rfl, rfl, by rw [h171]; rfl⟩)) fun _ => ?_
          refine TO.go rfl rfl rfl (Does.not (.inl ⟨_, _, rfl, rfl, by rw [h171]; rfl⟩)) fun _ => ?_
          refine TO.go rfl rfl rfl (Does.pickF (v := .bool false) rfl rfl h171 rfl) fun _ => ?_
          refine TO.go rfl rfl rfl (Does.move rfl rfl) fun _ => ?_
          refine TO.go rfl rfl rfl (Does.move (.inl ⟨_, _, rfl, rfl, rfl⟩) rfl) fun _ => ?_
          refine TO.go rfl rfl rfl (Does.bin (v := .bool (decide ((139 : UInt8) ≤ v0))) (vy := .int .u8 (139 : UInt8).toNat) (.inl ⟨_, _, rfl, rfl, rfl⟩) rfl rfl g_int b8_ge) fun _ => ?_
          refine TO.go rfl rfl rfl (Does.move (.inl ⟨_, _, rfl, rfl, rfl⟩) rfl) fun _ => ?_
          by_cases h183 : (decide ((139 : UInt8) ≤ v0)) = true
          · replace hm := ite_t hm h183
            refine TO.go rfl rfl rfl (Does.move (.inl ⟨_, _, rfl, rfl, by rw [h183]; rfl⟩) rfl) fun _ => ?_
            refine TO.go rfl rfl rfl (Does.bin (v := .bool (decide (v0 ≤ (166 : UInt8)))) (vy := .int .u8 (166 : UInt8).toNat) (.inl ⟨_, _, rfl, rfl, by rw [h183]; rfl⟩) rfl rfl g_int b8_le) fun _ => ?_
            refine TO.go rfl rfl rfl (Does.pickT (.inl ⟨_, _, rfl, rfl, rfl⟩) rfl h183 rfl) fun _ => ?_
            refine TO.go rfl rfl rfl (Does.pickF rfl rfl rfl rfl) fun _ => ?_
            refine TO.go rfl rfl rfl (Does.move rfl rfl) fun _ => ?_
            by_cases h184 : (decide (v0 ≤ (166 : UInt8))) = true
            · replace hm := ite_t hm h184
              refine TO.go rfl rfl rfl (Does.not (.inl ⟨_, _, rfl, rfl, by rw [h184]; rfl⟩)) fun _ => ?_
              refine TO.go rfl rfl rfl (Does.not (.inl ⟨_, _, rfl, rfl, by rw [h184]; rfl⟩)) fun _ => ?_
              refine TO.go rfl rfl rfl (Does.not (.inl ⟨_, _, rfl, rfl, by rw [h184]; rfl⟩)) fun _ => ?_
              refine TO.go rfl rfl rfl (Does.not (.inr ⟨rfl, _, rfl, rfl⟩)) fun _ => ?_
              refine TO.go rfl rfl rfl (Does.not (.inr ⟨rfl, _, rfl, rfl⟩)) fun _ => ?_
              refine TO.go rfl rfl rfl (Does.not (.inl ⟨_, _, rfl, rfl, by rw [h184]; rfl⟩)) fun _ => ?_
              refine TO.go rfl rfl rfl (Does.pickT (v := .bool true) rfl rfl h184 rfl) fun _ => ?_
              refine TO.go rfl rfl rfl (Does.move rfl rfl) fun _ => ?_
              refine TO.go rfl rfl rfl (Does.not (.inl ⟨_, _, rfl, rfl, rfl⟩)) fun _ => ?_
              refine TO.go rfl rfl rfl (Does.not (.inl ⟨_, _, rfl, rfl, rfl⟩)) fun _ => ?_
              refine TO.go rfl rfl rfl (Does.not (.inl ⟨_, _, rfl, rfl, rfl⟩)) fun _ => ?_
              refine TO.go rfl rfl rfl (Does.not (.inr ⟨rfl, _, rfl, rfl⟩)) fun _ => ?_
              refine TO.go rfl rfl rfl (Does.not (.inr ⟨rfl, _, rfl, rfl⟩)) fun _ => ?_
              refine TO.go rfl rfl rfl (Does.not (.inl ⟨_, _, rfl, rfl, rfl⟩)) fun _ => ?_
              refine TO.go rfl rfl rfl (Does.pickT (v := .bool true) rfl rfl rfl rfl) fun _ => ?_
              refine TO.go rfl rfl rfl (Does.assign rfl rfl) fun _ => ?_
              refine TO.end rfl ?_
              exact TQ.then (T.sub (h166 true hm) (Sub.cons rfl (Sub.cons rfl (Sub.nil _))) (fun w h => h))
            · replace h184 := bool_f h184
              replace hm := ite_f hm h184
              refine TO.go rfl rfl rfl (Does.move (.inl ⟨_, _, rfl, rfl, by rw [h184]; rfl⟩) rfl) fun _ => ?_
              refine TO.go rfl rfl rfl (Does.bin (v := .bool (decide ((168 : UInt8) ≤ v0))) (vy := .int .u8 (168 : UInt8).toNat) (.inl ⟨_, _, rfl, rfl, by rw [h184]; rfl⟩) rfl rfl g_int b8_ge) fun _ => ?_
              refine TO.go rfl rfl rfl (Does.move (.inl ⟨_, _, rfl, rfl, by rw [h184]; rfl⟩) rfl) fun _ => ?_
              by_cases h185 : (decide ((168 : UInt8) ≤ v0)) = true
              · replace hm := ite_t hm h185
                refine TO.go rfl rfl rfl (Does.move (.inl ⟨_, _, rfl, rfl, by rw [h185]; rfl⟩) rfl) fun _ => ?_
                refine TO.go rfl rfl rfl (Does.bin (v := .bool (decide (v0 ≤ (171 : UInt8)))) (vy := .int .u8 (171 : UInt8).toNat) (.inl ⟨_, _, rfl, rfl, by rw [h185]; rfl⟩) rfl rfl g_int b8_le) fun _ => ?_
                refine TO.go rfl rfl rfl (Does.pickT (.inl ⟨_, _, rfl, rfl, by rw [h184]; rfl⟩) rfl h185 rfl) fun _ => ?_
                refine TO.go rfl rfl rfl (Does.pickF rfl rfl h184 rfl) fun _ => ?_
                refine TO.go rfl rfl rfl (Does.move rfl rfl) fun _ => ?_
                by_cases h186 : (decide (v0 ≤ (171 : UInt8))) = true
                · replace hm := ite_t hm h186
                  refine TO.go rfl rfl rfl (Does.not (.inl ⟨_, _, rfl, rfl, by rw [h186]; rfl⟩)) fun _ => ?_
                  refine TO.go rfl rfl rfl (Does.not (.inl ⟨_, _, rfl, rfl, by rw [h186]; rfl⟩)) fun _ => ?_
                  refine TO.go rfl rfl rfl (Does.not (.inl ⟨_, _, rfl, rfl, by rw [h186]; rfl⟩)) fun _ => ?_
                  refine TO.go rfl rfl rfl (Does.not (.inr ⟨rfl, _, rfl, rfl⟩)) fun _ => ?_
                  refine TO.go rfl rfl rfl (Does.not (.inr ⟨rfl, _, rfl, rfl⟩)) fun _ => ?_
                  refine TO.go rfl rfl rfl (Does.not (.inl ⟨_, _, rfl, rfl, by rw [h186]; rfl⟩)) fun _ => ?_
                  refine TO.go rfl rfl rfl (Does.pickT (v := .bool true) rfl rfl h186 rfl) fun _ => ?_
                  refine TO.go rfl rfl rfl (Does.assign rfl rfl) fun _ => ?_
                  refine TO.end rfl ?_
                  exact TQ.then (T.sub (h166 true hm) (Sub.cons rfl (Sub.cons rfl (Sub.nil _))) (fun w h => h))
                · replace h186 := bool_f h186
                  replace hm := ite_f hm h186
                  refine TO.go rfl rfl rfl (Does.move (.inl ⟨_, _, rfl, rfl, by rw [h186]; rfl⟩) rfl) fun _ => ?_
                  refine TO.go rfl rfl rfl (Does.bin (v := .bool (decide ((174 : UInt8) ≤ v0))) (vy := .int .u8 (174 : UInt8).toNat) (.inl ⟨_, _, rfl, rfl, by rw [h186]; rfl⟩) rfl rfl g_int b8_ge) fun _ => ?_
                  refine TO.go rfl rfl rfl (Does.move (.inl ⟨_, _, rfl, rfl, by rw [h186]; rfl⟩) rfl) fun _ => ?_
                  by_cases h187 : (decide ((174 : UInt8) ≤ v0)) = true
                  · replace hm := ite_t hm h187
                    refine TO.go rfl rfl rfl (Does.move (.inl ⟨_, _, rfl, rfl, by rw [h187]; rfl⟩) rfl) fun _ => ?_
                    refine TO.go rfl rfl rfl (Does.bin (v := .bool (decide (v0 ≤ (191 : UInt8)))) (vy := .int .u8 (191 : UInt8).toNat) (.inl ⟨_, _, rfl, rfl, by rw [h187]; rfl⟩) rfl rfl g_int b8_le) fun _ => ?_
                    refine TO.go rfl rfl rfl (Does.pickT (.inl ⟨_, _, rfl, rfl, by rw [h186]; rfl⟩) rfl h187 rfl) fun _ => ?_
                    refine TO.go rfl rfl rfl (Does.pickF rfl rfl h186 rfl) fun _ => ?_
                    refine TO.go rfl rfl rfl (Does.assign rfl rfl) fun _ => ?_
                    refine TO.end rfl ?_
                    exact TQ.then (T.sub (h166 (decide (v0 ≤ (191 : UInt8))) hm) (Sub.cons rfl (Sub.cons rfl (Sub.nil _))) (fun w h => h))
                  · replace h187 := bool_f h187
                    replace hm := ite_f hm h187
                    refine TO.go rfl rfl rfl (Does.not (.inl ⟨_, _, rfl, rfl, by rw [h187]; rfl⟩)) fun _ => ?_
                    refine TO.go rfl rfl rfl (Does.not (.inl ⟨_, _, rfl, rfl, by rw [h187]; rfl⟩)) fun _ => ?_
                    refine TO.go rfl rfl rfl (Does.pickF (v := .bool false) (.inl ⟨_, _, rfl, rfl, by rw [h186]; rfl⟩) rfl h187 rfl) fun _ => ?_
                    refine TO.go rfl rfl rfl (Does.pickF rfl rfl h186 rfl) fun _ => ?_
                    refine TO.go rfl rfl rfl (Does.assign rfl rfl) fun _ => ?_
                    refine TO.end rfl ?_
                    exact TQ.then (T.sub (h166 false hm) (Sub.cons rfl (Sub.cons rfl (Sub.nil _))) (fun w h => h))
              · replace h185 := bool_f h185
                replace hm := ite_f hm h185
                refine TO.go rfl rfl rfl (Does.not (.inl ⟨_, _, rfl, rfl, by rw [h185]; rfl⟩)) fun _ => ?_
                refine TO.go rfl rfl rfl (Does.not (.inl ⟨_, _, rfl, rfl, by rw [h185]; rfl⟩)) fun _ => ?_
                refine TO.go rfl rfl rfl (Does.pickF (v := .bool false) (.inl ⟨_, _, rfl, rfl, by rw [h184]; rfl⟩) rfl h185 rfl) fun _ => ?_
                refine TO.go rfl rfl rfl (Does.pickF rfl rfl h184 rfl) fun _ => ?_
                refine TO.go rfl rfl rfl (Does.move rfl rfl) fun _ => ?_
                refine TO.go rfl rfl rfl (Does.move (.inl ⟨_, _, rfl, rfl, rfl⟩) rfl) fun _ => ?_
                refine TO.go rfl rfl rfl (Does.bin (v := .bool (decide ((174 : UInt8) ≤ v0))) (vy := .int .u8 (174 : UInt8).toNat) (.inl ⟨_, _, rfl, rfl, rfl⟩) rfl rfl g_int b8_ge) fun _ => ?_
                refine TO.go rfl rfl rfl (Does.move (.inl ⟨_, _, rfl, rfl, rfl⟩) rfl) fun _ => ?_
                by_cases h188 : (decide ((174 : UInt8) ≤ v0)) = true
                · replace hm := ite_t hm h188
                  refine TO.go rfl rfl rfl (Does.move (.inl ⟨_, _, rfl, rfl, by rw [h188]; rfl⟩) rfl) fun _ => ?_
                  refine TO.go rfl rfl rfl (Does.bin (v := .bool (decide (v0 ≤ (191 : UInt8)))) (vy := .int .u8 (191 : UInt8).toNat) (.inl ⟨_, _, rfl, rfl, by rw [h188]; rfl⟩) rfl rfl g_int b8_le) fun _ => ?_
                  refine TO.go rfl rfl rfl (Does.pickT (.inl ⟨_, _, rfl, rfl, rfl⟩) rfl h188 rfl) fun _ => ?_
                  refine TO.go rfl rfl rfl (Does.pickF rfl rfl rfl rfl) fun _ => ?_
                  refine TO.go rfl rfl rfl (Does.assign rfl rfl) fun _ => ?_
                  refine TO.end rfl ?_
                  exact TQ.then (T.sub (h166 (decide (v0 ≤ (191 : UInt8))) hm) (Sub.cons rfl (Sub.cons rfl (Sub.nil _))) (fun w h => h))
                · replace h188 := bool_f h188
                  replace hm := ite_f hm h188
                  refine TO.go rfl rfl rfl (Does.not (.inl ⟨_, _, rfl, rfl, by rw [h188]; rfl⟩)) fun _ => ?_
                  refine TO.go rfl rfl rfl (Does.not (.inl ⟨_, _, rfl, rfl, by rw [h188]; rfl⟩)) fun _ => ?_
                  refine TO.go rfl rfl rfl (Does.pickF (v := .bool false) (.inl ⟨_, _, rfl, rfl, rfl⟩) rfl h188 rfl) fun _ => ?_
                  refine TO.go rfl rfl rfl (Does.pickF rfl rfl rfl rfl) fun _ => ?_
                  refine TO.go rfl rfl rfl (Does.assign rfl rfl) fun _ => ?_
                  refine TO.end rfl ?_
                  exact TQ.then (T.sub (h166 false hm) (Sub.cons rfl (Sub.cons rfl (Sub.nil _))) (fun w h => h))
          · replace h183 := bool_f h183
            replace hm := ite_f hm h183
            refine TO.go rfl rfl rfl (Does.not (.inl ⟨_, _, rfl, rfl, by rw [h183]; rfl⟩)) fun _ => ?_
            refine TO.go rfl rfl rfl (Does.not (.inl ⟨_, _, rfl, rfl, by rw [h183]; rfl⟩)) fun _ => ?_
            refine TO.go rfl rfl rfl (Does.pickF (v := .bool false) (.inl ⟨_, _, rfl, rfl, rfl⟩) rfl h183 rfl) fun _ => ?_
            refine TO.go rfl rfl rfl (Does.pickF rfl rfl rfl rfl) fun _ => ?_
            refine TO.go rfl rfl rfl (Does.move rfl rfl) fun _ => ?_
            refine TO.go rfl rfl rfl (Does.move (.inl ⟨_, _, rfl, rfl, rfl⟩) rfl) fun _ => ?_
            refine TO.go rfl rfl rfl (Does.bin (v := .bool (decide ((168 : UInt8) ≤ v0))) (vy := .int .u8 (168 : UInt8).toNat) (.inl ⟨_, _, rfl, rfl, rfl⟩) rfl rfl g_int b8_ge) fun _ => ?_
            refine TO.go rfl rfl rfl (Does.move (.inl ⟨_, _, rfl, rfl, rfl⟩) rfl) fun _ => ?_
            by_cases h189 : (decide ((168 : UInt8) ≤ v0)) = true
            · replace hm := ite_t hm h189
              refine TO.go rfl rfl rfl (Does.move (.inl ⟨_, _, rfl, rfl, by rw [h189]; rfl⟩) rfl) fun _ => ?_
              refine TO.go rfl rfl rfl (Does.bin (v := .bool (decide (v0 ≤ (171 : UInt8)))) (vy := .int .u8 (171 : UInt8).toNat) (.inl ⟨_, _, rfl, rfl, by rw [h189]; rfl⟩) rfl rfl g_int b8_le) fun _ => ?_
              refine TO.go rfl rfl rfl (Does.pickT (.inl ⟨_, _, rfl, rfl, rfl⟩) rfl h189 rfl) fun _ => ?_
              refine TO.go rfl rfl rfl (Does.pickF rfl rfl rfl rfl) fun _ => ?_
              refine TO.go rfl rfl rfl (Does.move rfl rfl) fun _ => ?_
              by_cases h190 : (decide (v0 ≤ (171 : UInt8))) = true
              · replace hm := ite_t hm h190
                refine TO.go rfl rfl rfl (Does.not (.inl ⟨_, _, rfl, rfl, by rw [h190]; rfl⟩)) fun _ => ?_
                refine TO.go rfl rfl rfl (Does.not (.inl ⟨_, _, rfl, rfl, by rw [h190]; rfl⟩)) fun _ => ?_
                refine TO.go rfl rfl rfl (Does.not (.inl ⟨_, _, rfl, rfl, by rw [h190]; rfl⟩)) fun _ => ?_
                refine TO.go rfl rfl rfl (Does.not (.inr ⟨rfl, _, rfl, rfl⟩)) fun _ => ?_
                refine TO.go rfl rfl rfl (Does.not (.inr ⟨rfl, _, rfl, rfl⟩)) fun _ => ?_
                refine TO.go rfl rfl rfl (Does.not (.inl ⟨_, _, rfl, rfl, by rw [h190]; rfl⟩)) fun _ => ?_
                refine TO.go rfl rfl rfl (Does.pickT (v := .bool true) rfl rfl h190 rfl) fun _ => ?_
                refine TO.go rfl rfl rfl (Does.assign rfl rfl) fun _ => ?_
                refine TO.end rfl ?_
                exact TQ.then (T.sub (h166 true hm) (Sub.cons rfl (Sub.cons rfl (Sub.nil _))) (fun w h => h))
              · replace h190 := bool_f h190
                replace hm := ite_f hm h190
                refine TO.go rfl rfl rfl (Does.move (.inl ⟨_, _, rfl, rfl, by rw [h190]; rfl⟩) rfl) fun _ => ?_
                refine TO.go rfl rfl rfl (Does.bin (v := .bool (decide ((174 : UInt8) ≤ v0))) (vy := .int .u8 (174 : UInt8).toNat) (.inl ⟨_, _, rfl, rfl, by rw [h190]; rfl⟩) rfl rfl g_int b8_ge) fun _ => ?_
                refine TO.go rfl rfl rfl (Does.move (.inl ⟨_, _, rfl, rfl, by rw [h190]; rfl⟩) rfl) fun _ => ?_
                by_cases h191 : (decide ((174 : UInt8) ≤ v0)) = true
                · replace hm := ite_t hm h191
                  refine TO.go rfl rfl rfl (Does.move (.inl ⟨_, _, rfl, rfl, by rw [h191]; rfl⟩) rfl) fun _ => ?_
                  refine TO.go rfl rfl rfl (Does.bin (v := .bool (decide (v0 ≤ (191 : UInt8)))) (vy := .int .u8 (191 : UInt8).toNat) (.inl ⟨_, _, rfl, rfl, by rw [h191]; rfl⟩) rfl rfl g_int b8_le) fun _ => ?_
                  refine TO.go rfl rfl rfl (Does.pickT (.inl ⟨_, _, rfl, rfl, by rw [h190]; rfl⟩) rfl h191 rfl) fun _ => ?_
                  refine TO.go rfl rfl rfl (Does.pickF rfl rfl h190 rfl) fun _ => ?_
                  refine TO.go rfl rfl rfl (Does.assign rfl rfl) fun _ => ?_
                  refine TO.end rfl ?_
                  exact TQ.then (T.sub (h166 (decide (v0 ≤ (191 : UInt8))) hm) (Sub.cons rfl (Sub.cons rfl (Sub.nil _))) (fun w h => h))
                · replace h191 := bool_f h191
                  replace hm := ite_f hm h191
                  refine TO.go rfl rfl rfl (Does.not (.inl ⟨_, _, rfl, rfl, by rw [h191]; rfl⟩)) fun _ => ?_
                  refine TO.go rfl rfl rfl (Does.not (.inl ⟨_, _, rfl, rfl, by rw [h191]; rfl⟩)) fun _ => ?_
                  refine TO.go rfl rfl rfl (Does.pickF (v := .bool false) (.inl ⟨_, _, rfl, rfl, by rw [h190]; rfl⟩) rfl h191 rfl) fun _ => ?_
                  refine TO.go rfl rfl rfl (Does.pickF rfl rfl h190 rfl) fun _ => ?_
                  refine TO.go rfl rfl rfl (Does.assign rfl rfl) fun _ => ?_
                  refine TO.end rfl ?_
                  exact TQ.then (T.sub (h166 false hm) (Sub.cons rfl (Sub.cons rfl (Sub.nil _))) (fun w h => h))
            · replace h189 := bool_f h189
              replace hm := ite_f hm h189
              refine TO.go rfl rfl rfl (Does.not (.inl ⟨_, _, rfl, rfl, by rw [h189]; rfl⟩)) fun _ => ?_
              refine TO.go rfl rfl rfl (Does.not (.inl ⟨_, _, rfl, rfl, by rw [h189]; rfl⟩)) fun _ => ?_
              refine TO.go rfl rfl rfl (Does.pickF (v := .bool false) (.inl ⟨_, _, rfl, rfl, rfl⟩) rfl h189 rfl) fun _ => ?_
              refine TO.go rfl rfl rfl (Does.pickF rfl rfl rfl rfl) fun _ => ?_
              refine TO.go rfl rfl rfl (Does.move rfl rfl) fun _ => ?_
              refine TO.go rfl rfl rfl (Does.move (.inl ⟨_, _, rfl, rfl, rfl⟩) rfl) fun _ => ?_
              refine TO.go rfl rfl rfl (Does.bin (v := .bool (decide ((174 : UInt8) ≤ v0))) (vy := .int .u8 (174 : UInt8).toNat) (.inl ⟨_, _, rfl, rfl, rfl⟩) rfl rfl g_int b8_ge) fun _ => ?_
              refine TO.go rfl rfl rfl (Does.move (.inl ⟨_, _, rfl, rfl, rfl⟩) rfl) fun _ => ?_
              by_cases h192 : (decide ((174 : UInt8) ≤ v0)) = true
              · replace hm := ite_t hm h192
                refine TO.go rfl rfl rfl (Does.move (.inl ⟨_, _, rfl, rfl, by rw [h192]; rfl⟩) rfl) fun _ => ?_
                refine TO.go rfl rfl rfl (Does.bin (v := .bool (decide (v0 ≤ (191 : UInt8)))) (vy := .int .u8 (191 : UInt8).toNat) (.inl ⟨_, _, rfl, rfl, by rw [h192]; rfl⟩) rfl rfl g_int b8_le) fun _ => ?_
                refine TO.go rfl rfl rfl (Does.pickT (.inl ⟨_, _, rfl, rfl, rfl⟩) rfl h192 rfl) fun _ => ?_
                refine TO.go rfl rfl rfl (Does.pickF rfl rfl rfl rfl) fun _ => ?_
                refine TO.go rfl rfl rfl (Does.assign rfl rfl) fun _ => ?_
                refine TO.end rfl ?_
                exact TQ.then (T.sub (h166 (decide (v0 ≤ (191 : UInt8))) hm) (Sub.cons rfl (Sub.cons rfl (Sub.nil _))) (fun w h => h))
              · replace h192 := bool_f h192
                replace hm := ite_f hm h192
                refine TO.go rfl rfl rfl (Does.not (.inl ⟨_, _, rfl, rfl, by rw [h192]; rfl⟩)) fun _ => ?_
                refine TO.go rfl rfl rfl (Does.not (.inl ⟨_, _, rfl, rfl, by rw [h192]; rfl⟩)) fun _ => ?_
                refine TO.go rfl rfl rfl (Does.pickF (v := .bool false) (.inl ⟨_, _, rfl, rfl, rfl⟩) rfl h192 rfl) fun _ => ?_
                refine TO.go rfl rfl rfl (Does.pickF rfl rfl rfl rfl) fun _ => ?_
                refine TO.go rfl rfl rfl (Does.assign rfl rfl) fun _ => ?_
                refine TO.end rfl ?_
                exact TQ.then (T.sub (h166 false hm) (Sub.cons rfl (Sub.cons rfl (Sub.nil _))) (fun w h => h))
  · intro h141
    refine T.region rfl ?_
    refine TO.go rfl rfl rfl (Does.move rfl rfl) fun _ => ?_
    refine TO.go rfl rfl rfl (Does.bin (v := .bool (v0 == (42 : UInt8))) (vy := .int .u8 (42 : UInt8).toNat) rfl rfl rfl g_int b8_eq) fun _ => ?_
    refine TO.go rfl rfl rfl (Does.move rfl rfl) fun _ => ?_
    by_cases h193 : (v0 == (42 : UInt8)) = true
    · replace hm := ite_t hm h193
      refine TO.go rfl rfl rfl (Does.not (.inl ⟨_, _, rfl, rfl, by rw [h193]; rfl⟩)) fun _ => ?_
      refine TO.go rfl rfl rfl (Does.not (.inl ⟨_, _, rfl, rfl, by rw [h193]; rfl⟩)) fun _ => ?_
      refine TO.go rfl rfl rfl (Does.pickT (v := .bool true) rfl rfl h193 rfl) fun _ => ?_
      refine TO.go rfl rfl rfl (Does.move rfl rfl) fun _ => ?_
      refine TO.go rfl rfl rfl (Does.not (.inl ⟨_, _, rfl, rfl, rfl⟩)) fun _ => ?_
      refine TO.go rfl rfl rfl (Does.not (.inl ⟨_, _, rfl, rfl, rfl⟩)) fun _ => ?_
      refine TO.go rfl rfl rfl (Does.pickT (v := .bool true) rfl rfl rfl rfl) fun _ => ?_
      refine TO.go rfl rfl rfl (Does.move rfl rfl) fun _ => ?_
      refine TO.go rfl rfl rfl (Does.not (.inl ⟨_, _, rfl, rfl, rfl⟩)) fun _ => ?_
      refine TO.go rfl rfl rfl (Does.not (.inl ⟨_, _, rfl, rfl, rfl⟩)) fun _ => ?_
      refine TO.go rfl rfl rfl (Does.pickT (v := .bool true) rfl rfl rfl rfl) fun _ => ?_
      refine TO.go rfl rfl rfl (Does.move rfl rfl) fun _ => ?_
      refine TO.go rfl rfl rfl (Does.not (.inl ⟨_, _, rfl, rfl, rfl⟩)) fun _ => ?_
      refine TO.go rfl rfl rfl (Does.not (.inl ⟨_, _, rfl, rfl, rfl⟩)) fun _ => ?_
      refine TO.go rfl rfl rfl (Does.pickT (v := .bool true) rfl rfl rfl rfl) fun _ => ?_
      refine TO.go rfl rfl rfl (Does.move rfl rfl) fun _ => ?_
      refine TO.go rfl rfl rfl (Does.not (.inl ⟨_, _, rfl, rfl, rfl⟩)) fun _ => ?_
      refine TO.go rfl rfl rfl (Does.not (.inl ⟨_, _, rfl, rfl, rfl⟩)) fun _ => ?_
      refine TO.go rfl rfl rfl (Does.pickT (v := .bool true) rfl rfl rfl rfl) fun _ => ?_
      refine TO.go rfl rfl rfl (Does.assign rfl rfl) fun _ => ?_
      refine TO.end rfl ?_
      exact TQ.then (T.sub (h141 true hm) (Sub.cons rfl (Sub.cons rfl (Sub.nil _))) (fun w h => h))
    · replace h193 := bool_f h193
      replace hm := ite_f hm h193
      refine TO.go rfl rfl rfl (Does.move (.inl ⟨_, _, rfl, rfl, by rw [h193]; rfl⟩) rfl) fun _ => ?_
      refine TO.go rfl rfl rfl (Does.bin (v := .bool (v0 == (43 : UInt8))) (vy := .int .u8 (43 : UInt8).toNat) (.inl ⟨_, _, rfl, rfl, by rw [h193]; rfl⟩) rfl rfl g_int b8_eq) fun _ => ?_
      refine TO.go rfl rfl rfl (Does.pickF rfl rfl h193 rfl) fun _ => ?_
      refine TO.go rfl rfl rfl (Does.move rfl rfl) fun _ => ?_
      by_cases h194 : (v0 == (43 : UInt8)) = true
      · replace hm := ite_t hm h194
        refine TO.go rfl rfl rfl (Does.not (.inl ⟨_, _, rfl, rfl, by rw [h194]; rfl⟩)) fun _ => ?_
        refine TO.go rfl rfl rfl (Does.not (.inl ⟨_, _, rfl, rfl, by rw [h194]; rfl⟩)) fun _ => ?_
        refine TO.go rfl rfl rfl (Does.pickT (v := .bool true) rfl rfl h194 rfl) fun _ => ?_
        refine TO.go rfl rfl rfl (Does.move rfl rfl) fun _ => ?_
        refine TO.go rfl rfl rfl (Does.not (.inl ⟨_, _, rfl, rfl, rfl⟩)) fun _ => ?_
        refine TO.go rfl rfl rfl (Does.not (.inl ⟨_, _, rfl, rfl, rfl⟩)) fun _ => ?_
        refine TO.go rfl rfl rfl (Does.pickT (v := .bool true) rfl rfl rfl rfl) fun _ => ?_
        refine TO.go rfl rfl rfl (Does.move rfl rfl) fun _ => ?_
        refine TO.go rfl rfl rfl (Does.not (.inl ⟨_, _, rfl, rfl, rfl⟩)) fun _ => ?_
        refine TO.go rfl rfl rfl (Does.not (.inl ⟨_, _, rfl, rfl, rfl⟩)) fun _ => ?_
        refine TO.go rfl rfl rfl (Does.pickT (v := .bool true) rfl rfl rfl rfl) fun _ => ?_
        refine TO.go rfl rfl rfl (Does.move rfl rfl) fun _ => ?_
        refine TO.go rfl rfl rfl (Does.not (.inl ⟨_, _, rfl, rfl, rfl⟩)) fun _ => ?_
        refine TO.go rfl rfl rfl (Does.not (.inl ⟨_, _, rfl, rfl, rfl⟩)) fun _ => ?_
        refine TO.go rfl rfl rfl (Does.pickT (v := .bool true) rfl rfl rfl rfl) fun _ => ?_
        refine TO.go rfl rfl rfl (Does.assign rfl rfl) fun _ => ?_
        refine TO.end rfl ?_
        exact TQ.then (T.sub (h141 true hm) (Sub.cons rfl (Sub.cons rfl (Sub.nil _))) (fun w h => h))
      · replace h194 := bool_f h194
        replace hm := ite_f hm h194
        refine TO.go rfl rfl rfl (Does.move (.inl ⟨_, _, rfl, rfl, by rw [h194]; rfl⟩) rfl) fun _ => ?_
        refine TO.go rfl rfl rfl (Does.bin (v := .bool (v0 == (56 : UInt8))) (vy := .int .u8 (56 : UInt8).toNat) (.inl ⟨_, _, rfl, rfl, by rw [h194]; rfl⟩) rfl rfl g_int b8_eq) fun _ => ?_
        refine TO.go rfl rfl rfl (Does.pickF rfl rfl h194 rfl) fun _ => ?_
        refine TO.go rfl rfl rfl (Does.move rfl rfl) fun _ => ?_
        by_cases h195 : (v0 == (56 : UInt8)) = true
        · replace hm := ite_t hm h195
          refine TO.go rfl rfl rfl (Does.not (.inl ⟨_, _, rfl, rfl, by rw [h195]; rfl⟩)) fun _ => ?_
          refine TO.go rfl rfl rfl (Does.not (.inl ⟨_, _, rfl, rfl, by rw [h195]; rfl⟩)) fun _ => ?_
          refine TO.go rfl rfl rfl (Does.pickT (v := .bool true) rfl rfl h195 rfl) fun _ => ?_
          refine TO.go rfl rfl rfl (Does.move rfl rfl) fun _ => ?_
          refine TO.go rfl rfl rfl (Does.not (.inl ⟨_, _, rfl, rfl, rfl⟩)) fun _ => ?_
          refine TO.go rfl rfl rfl (Does.not (.inl ⟨_, _, rfl, rfl, rfl⟩)) fun _ => ?_
          refine TO.go rfl rfl rfl (Does.pickT (v := .bool true) rfl rfl rfl rfl) fun _ => ?_
          refine TO.go rfl rfl rfl (Does.move rfl rfl) fun _ => ?_
          refine TO.go rfl rfl rfl (Does.not (.inl ⟨_, _, rfl, rfl, rfl⟩)) fun _ => ?_
          refine TO.go rfl rfl rfl (Does.not (.inl ⟨_, _, rfl, rfl, rfl⟩)) fun _ => ?_
          refine TO.go rfl rfl rfl (Does.pickT (v := .bool true) rfl rfl rfl rfl) fun _ => ?_
          refine TO.go rfl rfl rfl (Does.assign rfl rfl) fun _ => ?_
          refine TO.end rfl ?_
          exact TQ.then (T.sub (h141 true hm) (Sub.cons rfl (Sub.cons rfl (Sub.nil _))) (fun w h => h))
        · replace h195 := bool_f h195
          replace hm := ite_f hm h195
          refine TO.go rfl rfl rfl (Does.move (.inl ⟨_, _, rfl, rfl, by rw [h195]; rfl⟩) rfl) fun _ => ?_
          refine TO.go rfl rfl rfl (Does.bin (v := .bool (v0 == (57 : UInt8))) (vy := .int .u8 (57 : UInt8).toNat) (.inl ⟨_, _, rfl, rfl, by rw [h195]; rfl⟩) rfl rfl g_int b8_eq) fun _ => ?_
          refine TO.go rfl rfl rfl (Does.pickF rfl rfl h195 rfl) fun _ => ?_
          refine TO.go rfl rfl rfl (Does.move rfl rfl) fun _ => ?_
          by_cases h196 : (v0 == (57 : UInt8)) = true
          · replace hm := ite_t hm h196
            refine TO.go rfl rfl rfl (Does.not (.inl ⟨_, _, rfl, rfl, by rw [h196]; rfl⟩)) fun _ => ?_
            refine TO.go rfl rfl rfl (Does.not (.inl ⟨_, _, rfl, rfl, by rw [h196]; rfl⟩)) fun _ => ?_
            refine TO.go rfl rfl rfl (Does.pickT (v := .bool true) rfl rfl h196 rfl) fun _ => ?_
            refine TO.go rfl rfl rfl (Does.move rfl rfl) fun _ => ?_
            refine TO.go rfl rfl rfl (Does.not (.inl ⟨_, _, rfl, rfl, rfl⟩)) fun _ => ?_
            refine TO.go rfl rfl rfl (Does.not (.inl ⟨_, _, rfl, rfl, rfl⟩)) fun _ => ?_
            refine TO.go rfl rfl rfl (Does.pickT (v := .bool true) rfl rfl rfl rfl) fun _ => ?_
            refine TO.go rfl rfl rfl (Does.assign rfl rfl) fun _ => ?_
            refine TO.end rfl ?_
            exact TQ.then (T.sub (h141 true hm) (Sub.cons rfl (Sub.cons rfl (Sub.nil _))) (fun w h => h))
          · replace h196 := bool_f h196
            replace hm := ite_f hm h196
            refine TO.go rfl rfl rfl (Does.move (.inl ⟨_, _, rfl, rfl, by rw [h196]; rfl⟩) rfl) fun _ => ?_
            refine TO.go rfl rfl rfl (Does.bin (v := .bool (v0 == (67 : UInt8))) (vy := .int .u8 (67 : UInt8).toNat) (.inl ⟨_, _, rfl, rfl, by rw [h196]; rfl⟩) rfl rfl g_int b8_eq) fun _ => ?_
            refine TO.go rfl rfl rfl (Does.pickF rfl rfl h196 rfl) fun _ => ?_
            refine TO.go rfl rfl rfl (Does.move rfl rfl) fun _ => ?_
            by_cases h197 : (v0 == (67 : UInt8)) = true
            · replace hm := ite_t hm h197
              refine TO.go rfl rfl rfl (Does.not (.inl ⟨_, _, rfl, rfl, by rw [h197]; rfl⟩)) fun _ => ?_
              refine TO.go rfl rfl rfl (Does.not (.inl ⟨_, _, rfl, rfl, by rw [h197]; rfl⟩)) fun _ => ?_
              refine TO.go rfl rfl rfl (Does.pickT (v := .bool true) rfl rfl h197 rfl) fun _ => ?_
              refine TO.go rfl rfl rfl (Does.assign rfl rfl) fun _ => ?_
              refine TO.end rfl ?_
              exact TQ.then (T.sub (h141 true hm) (Sub.cons rfl (Sub.cons rfl (Sub.nil _))) (fun w h => h))
            · replace h197 := bool_f h197
              replace hm := ite_f hm h197
              refine TO.go rfl rfl rfl (Does.move (.inl ⟨_, _, rfl, rfl, by rw [h197]; rfl⟩) rfl) fun _ => ?_
              refine TO.go rfl rfl rfl (Does.bin (v := .bool (v0 == (68 : UInt8))) (vy := .int .u8 (68 : UInt8).toNat) (.inl ⟨_, _, rfl, rfl, by rw [h197]; rfl⟩) rfl rfl g_int b8_eq) fun _ => ?_
              refine TO.go rfl rfl rfl (Does.pickF rfl rfl h197 rfl) fun _ => ?_
              refine TO.go rfl rfl rfl (Does.assign rfl rfl) fun _ => ?_
              refine TO.end rfl ?_
              exact TQ.then (T.sub (h141 (v0 == (68 : UInt8)) hm) (Sub.cons rfl (Sub.cons rfl (Sub.nil _))) (fun w h => h))

/-- creel/instr.many -/
def f67.f (v0 : Int) : Option Int :=
  (if (v0 == 3) = true then some 29 else some 1)
set_option maxRecDepth 20000 in
set_option maxHeartbeats 1000000 in
theorem f67.ok {W w : World} {R : List Assn} (v0 : Int) {r : Int} (hm : f67.f v0 = some r) (hs : St W w (R)) :
    Calls Try.prog 67 #[.int .i64 v0] w (fun e w' => ∃ x : Unit, e = .returned (.int .i64 r) ∧ St W w' (R)) := by
  unfold f67.f at hm
  refine calls_sym (vs := [.int .i64 v0]) Try.func67 rfl rfl hs ?_
  refine T.seq rfl ?_
  refine T.region rfl ?_
  refine TO.go rfl rfl rfl (Does.assign (v := .int .i64 0) rfl rfl) fun _ => ?_
  refine TO.end rfl ?_
  refine TQ.then ?_
  refine T.seq rfl ?_
  refine T.seq rfl ?_
  refine T.region rfl ?_
  refine TO.go rfl rfl rfl (Does.move rfl rfl) fun _ => ?_
  refine TO.go rfl rfl rfl (Does.bin (v := .bool (v0 == 3)) (vy := .int .i64 3) rfl rfl rfl g_int b_eq) fun _ => ?_
  refine TO.end rfl ?_
  refine TQ.then ?_
  refine T.cond rfl (b := (v0 == 3)) rfl (fun h102 => ?_) (fun h102 => ?_)
  · replace hm := ite_t hm h102
    refine T.seq rfl ?_
    refine T.region rfl ?_
    refine TO.go rfl rfl rfl (Does.assign (v := .int .i64 29) rfl rfl) fun _ => ?_
    refine TO.end rfl ?_
    refine TQ.then ?_
    refine T.ret rfl ?_
    refine TQ.passThenRet ?_
    refine TQ.result (.inl rfl) rfl (Res.tmp rfl Res.nil) rfl (fun w h => ?_)
    cases hm
    exact ⟨(), rfl, h⟩
  · replace hm := ite_f hm h102
    refine T.skip rfl ?_
    refine TQ.then ?_
    refine T.seq rfl ?_
    refine T.region rfl ?_
    refine TO.go rfl rfl rfl (Does.assign (v := .int .i64 1) rfl rfl) fun _ => ?_
    refine TO.end rfl ?_
    refine TQ.then ?_
    refine T.ret rfl ?_
    refine TQ.result (.inl rfl) rfl (Res.tmp rfl Res.nil) rfl (fun w h => ?_)
    cases hm
    exact ⟨(), rfl, h⟩

/-- creel/instr.unless -/
def f68.f (v0 : Bool) : Option Int :=
  (if v0 = true then some 0 else some 1)
set_option maxRecDepth 20000 in
set_option maxHeartbeats 1000000 in
theorem f68.ok {W w : World} {R : List Assn} (v0 : Bool) {r : Int} (hm : f68.f v0 = some r) (hs : St W w (R)) :
    Calls Try.prog 68 #[.bool v0] w (fun e w' => ∃ x : Unit, e = .returned (.int .i64 r) ∧ St W w' (R)) := by
  unfold f68.f at hm
  refine calls_sym (vs := [.bool v0]) Try.func68 rfl rfl hs ?_
  refine T.seq rfl ?_
  refine T.region rfl ?_
  refine TO.go rfl rfl rfl (Does.assign (v := .int .i64 0) rfl rfl) fun _ => ?_
  refine TO.end rfl ?_
  refine TQ.then ?_
  refine T.seq rfl ?_
  refine T.seq rfl ?_
  refine T.region rfl ?_
  refine TO.go rfl rfl rfl (Does.move rfl rfl) fun _ => ?_
  refine TO.end rfl ?_
  refine TQ.then ?_
  refine T.cond rfl (b := v0) rfl (fun h102 => ?_) (fun h102 => ?_)
  · replace hm := ite_t hm h102
    refine T.seq rfl ?_
    refine T.region rfl ?_
    refine TO.go rfl rfl rfl (Does.assign (v := .int .i64 0) rfl rfl) fun _ => ?_
    refine TO.end rfl ?_
    refine TQ.then ?_
    refine T.ret rfl ?_
    refine TQ.passThenRet ?_
    refine TQ.result (.inl rfl) rfl (Res.tmp rfl Res.nil) rfl (fun w h => ?_)
    cases hm
    exact ⟨(), rfl, h⟩
  · replace hm := ite_f hm h102
    refine T.skip rfl ?_
    refine TQ.then ?_
    refine T.seq rfl ?_
    refine T.region rfl ?_
    refine TO.go rfl rfl rfl (Does.assign (v := .int .i64 1) rfl rfl) fun _ => ?_
    refine TO.end rfl ?_
    refine TQ.then ?_
    refine T.ret rfl ?_
    refine TQ.result (.inl rfl) rfl (Res.tmp rfl Res.nil) rfl (fun w h => ?_)
    cases hm
    exact ⟨(), rfl, h⟩

end Go.Proofs.Ytfonekhhbmlkbaa
