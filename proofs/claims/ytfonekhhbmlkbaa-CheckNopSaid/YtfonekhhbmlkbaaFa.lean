/- What is known of the program's types, and its data as Lean structures. Printed by gofun.py. -/
import Derived.Test.YtfonekhhbmlkbaaS8
import Derived.Test.YtfonekhhbmlkbaaProg
set_option linter.unusedVariables false
set_option linter.unusedSimpArgs false
namespace Go.Proofs.Ytfonekhhbmlkbaa
open Go Go.Sym
theorem mixed : Try.prog.follows .mixedOrders = true := by kernel_rfl
structure api_Local where
  N : Int
  T : UInt8
def api_Local.rep : Rep api_Local := rMap (fun x => (x.N, x.T, ())) (rC (rI .u32) (rC rU8 rN))
noncomputable instance : Flat api_Local.rep := inferInstanceAs (Flat (rMap (fun x : api_Local => (x.N, x.T, ())) (rC (rI .u32) (rC rU8 rN))))
instance : PureRep api_Local.rep := Flat.pure _
theorem api_Local.open {W w : World} {L : List Assn} {cs : List Value} {x : api_Local} (h : St W w (api_Local.rep.rel cs x :: L)) :
    ∃ y : Unit, cs = [.int .u32 x.N, .int .u8 x.T.toNat] ∧ St W w (L) := by
  replace h : St W w (Rep.rel (rC (rI .u32) (rC rU8 rN)) cs (x.N, x.T, ()) :: L) := h
  obtain ⟨c0, r0, rfl, h1⟩ := open_rC h
  obtain ⟨rfl, h2⟩ := open_rI h1
  obtain ⟨c1, r1, rfl, h3⟩ := open_rC h2
  obtain ⟨rfl, h4⟩ := open_rU8 h3
  obtain ⟨rfl, h5⟩ := open_rN h4
  exact ⟨(), rfl, h5⟩
theorem api_Local.shut {W w : World} {L : List Assn} {x : api_Local} (y : Unit) (h : St W w (L)) : St W w (api_Local.rep.rel [.int .u32 x.N, .int .u8 x.T.toNat] x :: L) := by
  replace h := shut_rN h
  replace h := shut_rC (x := x.T) (y := (())) (shut_rU8 h)
  replace h := shut_rC (x := x.N) (y := (x.T, ())) (shut_rI (k := .u32) h)
  exact h

structure api_Instr where
  Op : UInt8
  A : Int
  B : Int
  L : List Int
def api_Instr.rep : Rep api_Instr := rMap (fun x => (x.Op, x.A, x.B, x.L, ())) (rC rU8 (rC (rI .u64) (rC (rI .u64) (rC (rRo (rI .u32)) rN))))
instance : PureRep api_Instr.rep := inferInstanceAs (PureRep (rMap (fun x : api_Instr => (x.Op, x.A, x.B, x.L, ())) (rC rU8 (rC (rI .u64) (rC (rI .u64) (rC (rRo (rI .u32)) rN))))))
theorem api_Instr.open {W w : World} {L : List Assn} {cs : List Value} {x : api_Instr} (h : St W w (api_Instr.rep.rel cs x :: L)) :
    ∃ y : Option Addr × Nat, cs = [.int .u8 x.Op.toNat, .int .u64 x.A, .int .u64 x.B, .slice y.1 x.L.length y.2] ∧ St W w (ro (rI .u32) y.1 y.2 x.L :: L) := by
  replace h : St W w (Rep.rel (rC rU8 (rC (rI .u64) (rC (rI .u64) (rC (rRo (rI .u32)) rN)))) cs (x.Op, x.A, x.B, x.L, ()) :: L) := h
  obtain ⟨c0, r0, rfl, h1⟩ := open_rC h
  obtain ⟨rfl, h2⟩ := open_rU8 h1
  obtain ⟨c1, r1, rfl, h3⟩ := open_rC h2
  obtain ⟨rfl, h4⟩ := open_rI h3
  obtain ⟨c2, r2, rfl, h5⟩ := open_rC h4
  obtain ⟨rfl, h6⟩ := open_rI h5
  obtain ⟨c3, r3, rfl, h7⟩ := open_rC h6
  obtain ⟨p3, q3, rfl, h8⟩ := open_rRo h7
  have h9 := h8.ent (Ent.swap _ _ _)
  obtain ⟨rfl, h10⟩ := open_rN h9
  exact ⟨(p3, q3), rfl, h10⟩
theorem api_Instr.shut {W w : World} {L : List Assn} {x : api_Instr} (y : Option Addr × Nat) (h : St W w (ro (rI .u32) y.1 y.2 x.L :: L)) : St W w (api_Instr.rep.rel [.int .u8 x.Op.toNat, .int .u64 x.A, .int .u64 x.B, .slice y.1 x.L.length y.2] x :: L) := by
  replace h := shut_rN h
  replace h := shut_rC (x := x.L) (y := (())) (shut_rRo (h.ent (Ent.swap _ _ _)))
  replace h := shut_rC (x := x.B) (y := (x.L, ())) (shut_rI (k := .u64) h)
  replace h := shut_rC (x := x.A) (y := (x.B, x.L, ())) (shut_rI (k := .u64) h)
  replace h := shut_rC (x := x.Op) (y := (x.A, x.B, x.L, ())) (shut_rU8 h)
  exact h

structure api_Code where
  Locals : List api_Local
  Body : List api_Instr
def api_Code.rep : Rep api_Code := rMap (fun x => (x.Locals, x.Body, ())) (rC (rRo api_Local.rep) (rC (rRo api_Instr.rep) rN))
instance : PureRep api_Code.rep := inferInstanceAs (PureRep (rMap (fun x : api_Code => (x.Locals, x.Body, ())) (rC (rRo api_Local.rep) (rC (rRo api_Instr.rep) rN))))
theorem api_Code.open {W w : World} {L : List Assn} {cs : List Value} {x : api_Code} (h : St W w (api_Code.rep.rel cs x :: L)) :
    ∃ y : Option Addr × Nat × Option Addr × Nat, cs = [.slice y.1 x.Locals.length y.2.1, .slice y.2.2.1 x.Body.length y.2.2.2] ∧ St W w (ro api_Instr.rep y.2.2.1 y.2.2.2 x.Body :: ro api_Local.rep y.1 y.2.1 x.Locals :: L) := by
  replace h : St W w (Rep.rel (rC (rRo api_Local.rep) (rC (rRo api_Instr.rep) rN)) cs (x.Locals, x.Body, ()) :: L) := h
  obtain ⟨c0, r0, rfl, h1⟩ := open_rC h
  obtain ⟨p0, q0, rfl, h2⟩ := open_rRo h1
  have h3 := h2.ent (Ent.swap _ _ _)
  obtain ⟨c1, r1, rfl, h4⟩ := open_rC h3
  obtain ⟨p1, q1, rfl, h5⟩ := open_rRo h4
  have h6 := h5.ent (Ent.swap _ _ _)
  obtain ⟨rfl, h7⟩ := open_rN h6
  exact ⟨(p0, q0, p1, q1), rfl, h7⟩
theorem api_Code.shut {W w : World} {L : List Assn} {x : api_Code} (y : Option Addr × Nat × Option Addr × Nat) (h : St W w (ro api_Instr.rep y.2.2.1 y.2.2.2 x.Body :: ro api_Local.rep y.1 y.2.1 x.Locals :: L)) : St W w (api_Code.rep.rel [.slice y.1 x.Locals.length y.2.1, .slice y.2.2.1 x.Body.length y.2.2.2] x :: L) := by
  replace h := shut_rN h
  replace h := shut_rC (x := x.Body) (y := (())) (shut_rRo (h.ent (Ent.swap _ _ _)))
  replace h := shut_rC (x := x.Locals) (y := (x.Body, ())) (shut_rRo (h.ent (Ent.swap _ _ _)))
  exact h

structure api_FuncType where
  Params : List UInt8
  Results : List UInt8
def api_FuncType.rep : Rep api_FuncType := rMap (fun x => (x.Params, x.Results, ())) (rC rS (rC rS rN))
noncomputable instance : Flat api_FuncType.rep := inferInstanceAs (Flat (rMap (fun x : api_FuncType => (x.Params, x.Results, ())) (rC rS (rC rS rN))))
instance : PureRep api_FuncType.rep := Flat.pure _
theorem api_FuncType.open {W w : World} {L : List Assn} {cs : List Value} {x : api_FuncType} (h : St W w (api_FuncType.rep.rel cs x :: L)) :
    ∃ y : Unit, cs = [.string ⟨x.Params.toArray⟩, .string ⟨x.Results.toArray⟩] ∧ St W w (L) := by
  replace h : St W w (Rep.rel (rC rS (rC rS rN)) cs (x.Params, x.Results, ()) :: L) := h
  obtain ⟨c0, r0, rfl, h1⟩ := open_rC h
  obtain ⟨rfl, h2⟩ := open_rS h1
  obtain ⟨c1, r1, rfl, h3⟩ := open_rC h2
  obtain ⟨rfl, h4⟩ := open_rS h3
  obtain ⟨rfl, h5⟩ := open_rN h4
  exact ⟨(), rfl, h5⟩
theorem api_FuncType.shut {W w : World} {L : List Assn} {x : api_FuncType} (y : Unit) (h : St W w (L)) : St W w (api_FuncType.rep.rel [.string ⟨x.Params.toArray⟩, .string ⟨x.Results.toArray⟩] x :: L) := by
  replace h := shut_rN h
  replace h := shut_rC (x := x.Results) (y := (())) (shut_rS h)
  replace h := shut_rC (x := x.Params) (y := (x.Results, ())) (shut_rS h)
  exact h

structure opstack_Stack where
  list : List UInt8
def opstack_Stack.rep : Rep opstack_Stack := rMap (fun x => (x.list, ())) (rC (rOwn rU8) rN)
theorem opstack_Stack.open {W w : World} {L : List Assn} {cs : List Value} {x : opstack_Stack} (h : St W w (opstack_Stack.rep.rel cs x :: L)) :
    ∃ y : Option Addr × Nat, cs = [.slice y.1 x.list.length y.2] ∧ St W w (own rU8 y.1 y.2 x.list :: L) := by
  replace h : St W w (Rep.rel (rC (rOwn rU8) rN) cs (x.list, ()) :: L) := h
  obtain ⟨c0, r0, rfl, h1⟩ := open_rC h
  obtain ⟨p0, q0, rfl, h2⟩ := open_rOwn h1
  have h3 := h2.ent (Ent.swap _ _ _)
  obtain ⟨rfl, h4⟩ := open_rN h3
  exact ⟨(p0, q0), rfl, h4⟩
theorem opstack_Stack.shut {W w : World} {L : List Assn} {x : opstack_Stack} (y : Option Addr × Nat) (h : St W w (own rU8 y.1 y.2 x.list :: L)) : St W w (opstack_Stack.rep.rel [.slice y.1 x.list.length y.2] x :: L) := by
  replace h := shut_rN h
  replace h := shut_rC (x := x.list) (y := (())) (shut_rOwn (h.ent (Ent.swap _ _ _)))
  exact h

structure ctrl_Frame where
  Op : UInt8
  Results : List UInt8
  Height : Int
  Dead : Bool
def ctrl_Frame.rep : Rep ctrl_Frame := rMap (fun x => (x.Op, x.Results, x.Height, x.Dead, ())) (rC rU8 (rC rS (rC (rI .i64) (rC rB rN))))
noncomputable instance : Flat ctrl_Frame.rep := inferInstanceAs (Flat (rMap (fun x : ctrl_Frame => (x.Op, x.Results, x.Height, x.Dead, ())) (rC rU8 (rC rS (rC (rI .i64) (rC rB rN))))))
instance : PureRep ctrl_Frame.rep := Flat.pure _
theorem ctrl_Frame.open {W w : World} {L : List Assn} {cs : List Value} {x : ctrl_Frame} (h : St W w (ctrl_Frame.rep.rel cs x :: L)) :
    ∃ y : Unit, cs = [.int .u8 x.Op.toNat, .string ⟨x.Results.toArray⟩, .int .i64 x.Height, .bool x.Dead] ∧ St W w (L) := by
  replace h : St W w (Rep.rel (rC rU8 (rC rS (rC (rI .i64) (rC rB rN)))) cs (x.Op, x.Results, x.Height, x.Dead, ()) :: L) := h
  obtain ⟨c0, r0, rfl, h1⟩ := open_rC h
  obtain ⟨rfl, h2⟩ := open_rU8 h1
  obtain ⟨c1, r1, rfl, h3⟩ := open_rC h2
  obtain ⟨rfl, h4⟩ := open_rS h3
  obtain ⟨c2, r2, rfl, h5⟩ := open_rC h4
  obtain ⟨rfl, h6⟩ := open_rI h5
  obtain ⟨c3, r3, rfl, h7⟩ := open_rC h6
  obtain ⟨rfl, h8⟩ := open_rB h7
  obtain ⟨rfl, h9⟩ := open_rN h8
  exact ⟨(), rfl, h9⟩
theorem ctrl_Frame.shut {W w : World} {L : List Assn} {x : ctrl_Frame} (y : Unit) (h : St W w (L)) : St W w (ctrl_Frame.rep.rel [.int .u8 x.Op.toNat, .string ⟨x.Results.toArray⟩, .int .i64 x.Height, .bool x.Dead] x :: L) := by
  replace h := shut_rN h
  replace h := shut_rC (x := x.Dead) (y := (())) (shut_rB h)
  replace h := shut_rC (x := x.Height) (y := (x.Dead, ())) (shut_rI (k := .i64) h)
  replace h := shut_rC (x := x.Results) (y := (x.Height, x.Dead, ())) (shut_rS h)
  replace h := shut_rC (x := x.Op) (y := (x.Results, x.Height, x.Dead, ())) (shut_rU8 h)
  exact h

structure ctrl_Control where
  frames : List ctrl_Frame
  Stack : opstack_Stack
def ctrl_Control.rep : Rep ctrl_Control := rMap (fun x => (x.frames, x.Stack, ())) (rC (rOwn ctrl_Frame.rep) (rC (rPtr opstack_Stack.rep) rN))
theorem ctrl_Control.open {W w : World} {L : List Assn} {cs : List Value} {x : ctrl_Control} (h : St W w (ctrl_Control.rep.rel cs x :: L)) :
    ∃ y : Option Addr × Nat × Nat, cs = [.slice y.1 x.frames.length y.2.1, .pointer (some ⟨y.2.2, 0, none⟩)] ∧ St W w (ptr opstack_Stack.rep y.2.2 x.Stack :: own ctrl_Frame.rep y.1 y.2.1 x.frames :: L) := by
  replace h : St W w (Rep.rel (rC (rOwn ctrl_Frame.rep) (rC (rPtr opstack_Stack.rep) rN)) cs (x.frames, x.Stack, ()) :: L) := h
  obtain ⟨c0, r0, rfl, h1⟩ := open_rC h
  obtain ⟨p0, q0, rfl, h2⟩ := open_rOwn h1
  have h3 := h2.ent (Ent.swap _ _ _)
  obtain ⟨c1, r1, rfl, h4⟩ := open_rC h3
  obtain ⟨p1, rfl, h5⟩ := open_rPtr h4
  have h6 := h5.ent (Ent.swap _ _ _)
  obtain ⟨rfl, h7⟩ := open_rN h6
  exact ⟨(p0, q0, p1), rfl, h7⟩
theorem ctrl_Control.shut {W w : World} {L : List Assn} {x : ctrl_Control} (y : Option Addr × Nat × Nat) (h : St W w (ptr opstack_Stack.rep y.2.2 x.Stack :: own ctrl_Frame.rep y.1 y.2.1 x.frames :: L)) : St W w (ctrl_Control.rep.rel [.slice y.1 x.frames.length y.2.1, .pointer (some ⟨y.2.2, 0, none⟩)] x :: L) := by
  replace h := shut_rN h
  replace h := shut_rC (x := x.Stack) (y := (())) (shut_rPtr (h.ent (Ent.swap _ _ _)))
  replace h := shut_rC (x := x.frames) (y := (x.Stack, ())) (shut_rOwn (h.ent (Ent.swap _ _ _)))
  exact h

structure ops_Info where
  Name : List UInt8
  Imm : Int
  Params : List UInt8
  Result : List UInt8
  Free : Bool
def ops_Info.rep : Rep ops_Info := rMap (fun x => (x.Name, x.Imm, x.Params, x.Result, x.Free, ())) (rC rS (rC (rI .i64) (rC rS (rC rS (rC rB rN)))))
noncomputable instance : Flat ops_Info.rep := inferInstanceAs (Flat (rMap (fun x : ops_Info => (x.Name, x.Imm, x.Params, x.Result, x.Free, ())) (rC rS (rC (rI .i64) (rC rS (rC rS (rC rB rN)))))))
instance : PureRep ops_Info.rep := Flat.pure _
theorem ops_Info.open {W w : World} {L : List Assn} {cs : List Value} {x : ops_Info} (h : St W w (ops_Info.rep.rel cs x :: L)) :
    ∃ y : Unit, cs = [.string ⟨x.Name.toArray⟩, .int .i64 x.Imm, .string ⟨x.Params.toArray⟩, .string ⟨x.Result.toArray⟩, .bool x.Free] ∧ St W w (L) := by
  replace h : St W w (Rep.rel (rC rS (rC (rI .i64) (rC rS (rC rS (rC rB rN))))) cs (x.Name, x.Imm, x.Params, x.Result, x.Free, ()) :: L) := h
  obtain ⟨c0, r0, rfl, h1⟩ := open_rC h
  obtain ⟨rfl, h2⟩ := open_rS h1
  obtain ⟨c1, r1, rfl, h3⟩ := open_rC h2
  obtain ⟨rfl, h4⟩ := open_rI h3
  obtain ⟨c2, r2, rfl, h5⟩ := open_rC h4
  obtain ⟨rfl, h6⟩ := open_rS h5
  obtain ⟨c3, r3, rfl, h7⟩ := open_rC h6
  obtain ⟨rfl, h8⟩ := open_rS h7
  obtain ⟨c4, r4, rfl, h9⟩ := open_rC h8
  obtain ⟨rfl, h10⟩ := open_rB h9
  obtain ⟨rfl, h11⟩ := open_rN h10
  exact ⟨(), rfl, h11⟩
theorem ops_Info.shut {W w : World} {L : List Assn} {x : ops_Info} (y : Unit) (h : St W w (L)) : St W w (ops_Info.rep.rel [.string ⟨x.Name.toArray⟩, .int .i64 x.Imm, .string ⟨x.Params.toArray⟩, .string ⟨x.Result.toArray⟩, .bool x.Free] x :: L) := by
  replace h := shut_rN h
  replace h := shut_rC (x := x.Free) (y := (())) (shut_rB h)
  replace h := shut_rC (x := x.Result) (y := (x.Free, ())) (shut_rS h)
  replace h := shut_rC (x := x.Params) (y := (x.Result, x.Free, ())) (shut_rS h)
  replace h := shut_rC (x := x.Imm) (y := (x.Params, x.Result, x.Free, ())) (shut_rI (k := .i64) h)
  replace h := shut_rC (x := x.Name) (y := (x.Imm, x.Params, x.Result, x.Free, ())) (shut_rS h)
  exact h

structure api_GlobalType where
  T : UInt8
  Mut : Bool
def api_GlobalType.rep : Rep api_GlobalType := rMap (fun x => (x.T, x.Mut, ())) (rC rU8 (rC rB rN))
noncomputable instance : Flat api_GlobalType.rep := inferInstanceAs (Flat (rMap (fun x : api_GlobalType => (x.T, x.Mut, ())) (rC rU8 (rC rB rN))))
instance : PureRep api_GlobalType.rep := Flat.pure _
theorem api_GlobalType.open {W w : World} {L : List Assn} {cs : List Value} {x : api_GlobalType} (h : St W w (api_GlobalType.rep.rel cs x :: L)) :
    ∃ y : Unit, cs = [.int .u8 x.T.toNat, .bool x.Mut] ∧ St W w (L) := by
  replace h : St W w (Rep.rel (rC rU8 (rC rB rN)) cs (x.T, x.Mut, ()) :: L) := h
  obtain ⟨c0, r0, rfl, h1⟩ := open_rC h
  obtain ⟨rfl, h2⟩ := open_rU8 h1
  obtain ⟨c1, r1, rfl, h3⟩ := open_rC h2
  obtain ⟨rfl, h4⟩ := open_rB h3
  obtain ⟨rfl, h5⟩ := open_rN h4
  exact ⟨(), rfl, h5⟩
theorem api_GlobalType.shut {W w : World} {L : List Assn} {x : api_GlobalType} (y : Unit) (h : St W w (L)) : St W w (api_GlobalType.rep.rel [.int .u8 x.T.toNat, .bool x.Mut] x :: L) := by
  replace h := shut_rN h
  replace h := shut_rC (x := x.Mut) (y := (())) (shut_rB h)
  replace h := shut_rC (x := x.T) (y := (x.Mut, ())) (shut_rU8 h)
  exact h

structure check_Env where
  Types : List api_FuncType
  Funcs : List Int
  Globals : List api_GlobalType
  Table : Bool
  Mem : Bool
def check_Env.rep : Rep check_Env := rMap (fun x => (x.Types, x.Funcs, x.Globals, x.Table, x.Mem, ())) (rC (rRo api_FuncType.rep) (rC (rRo (rI .u32)) (rC (rRo api_GlobalType.rep) (rC rB (rC rB rN)))))
instance : PureRep check_Env.rep := inferInstanceAs (PureRep (rMap (fun x : check_Env => (x.Types, x.Funcs, x.Globals, x.Table, x.Mem, ())) (rC (rRo api_FuncType.rep) (rC (rRo (rI .u32)) (rC (rRo api_GlobalType.rep) (rC rB (rC rB rN)))))))
theorem check_Env.open {W w : World} {L : List Assn} {cs : List Value} {x : check_Env} (h : St W w (check_Env.rep.rel cs x :: L)) :
    ∃ y : Option Addr × Nat × Option Addr × Nat × Option Addr × Nat, cs = [.slice y.1 x.Types.length y.2.1, .slice y.2.2.1 x.Funcs.length y.2.2.2.1, .slice y.2.2.2.2.1 x.Globals.length y.2.2.2.2.2, .bool x.Table, .bool x.Mem] ∧ St W w (ro api_GlobalType.rep y.2.2.2.2.1 y.2.2.2.2.2 x.Globals :: ro (rI .u32) y.2.2.1 y.2.2.2.1 x.Funcs :: ro api_FuncType.rep y.1 y.2.1 x.Types :: L) := by
  replace h : St W w (Rep.rel (rC (rRo api_FuncType.rep) (rC (rRo (rI .u32)) (rC (rRo api_GlobalType.rep) (rC rB (rC rB rN))))) cs (x.Types, x.Funcs, x.Globals, x.Table, x.Mem, ()) :: L) := h
  obtain ⟨c0, r0, rfl, h1⟩ := open_rC h
  obtain ⟨p0, q0, rfl, h2⟩ := open_rRo h1
  have h3 := h2.ent (Ent.swap _ _ _)
  obtain ⟨c1, r1, rfl, h4⟩ := open_rC h3
  obtain ⟨p1, q1, rfl, h5⟩ := open_rRo h4
  have h6 := h5.ent (Ent.swap _ _ _)
  obtain ⟨c2, r2, rfl, h7⟩ := open_rC h6
  obtain ⟨p2, q2, rfl, h8⟩ := open_rRo h7
  have h9 := h8.ent (Ent.swap _ _ _)
  obtain ⟨c3, r3, rfl, h10⟩ := open_rC h9
  obtain ⟨rfl, h11⟩ := open_rB h10
  obtain ⟨c4, r4, rfl, h12⟩ := open_rC h11
  obtain ⟨rfl, h13⟩ := open_rB h12
  obtain ⟨rfl, h14⟩ := open_rN h13
  exact ⟨(p0, q0, p1, q1, p2, q2), rfl, h14⟩
theorem check_Env.shut {W w : World} {L : List Assn} {x : check_Env} (y : Option Addr × Nat × Option Addr × Nat × Option Addr × Nat) (h : St W w (ro api_GlobalType.rep y.2.2.2.2.1 y.2.2.2.2.2 x.Globals :: ro (rI .u32) y.2.2.1 y.2.2.2.1 x.Funcs :: ro api_FuncType.rep y.1 y.2.1 x.Types :: L)) : St W w (check_Env.rep.rel [.slice y.1 x.Types.length y.2.1, .slice y.2.2.1 x.Funcs.length y.2.2.2.1, .slice y.2.2.2.2.1 x.Globals.length y.2.2.2.2.2, .bool x.Table, .bool x.Mem] x :: L) := by
  replace h := shut_rN h
  replace h := shut_rC (x := x.Mem) (y := (())) (shut_rB h)
  replace h := shut_rC (x := x.Table) (y := (x.Mem, ())) (shut_rB h)
  replace h := shut_rC (x := x.Globals) (y := (x.Table, x.Mem, ())) (shut_rRo (h.ent (Ent.swap _ _ _)))
  replace h := shut_rC (x := x.Funcs) (y := (x.Globals, x.Table, x.Mem, ())) (shut_rRo (h.ent (Ent.swap _ _ _)))
  replace h := shut_rC (x := x.Types) (y := (x.Funcs, x.Globals, x.Table, x.Mem, ())) (shut_rRo (h.ent (Ent.swap _ _ _)))
  exact h

structure check_checker where
  env : check_Env
  locals : List UInt8
  c : ctrl_Control
  result : List UInt8
def check_checker.rep : Rep check_checker := rMap (fun x => (x.env, x.locals, x.c, x.result, ())) (rC check_Env.rep (rC rS (rC (rPtr ctrl_Control.rep) (rC rS rN))))
theorem check_checker.open {W w : World} {L : List Assn} {cs : List Value} {x : check_checker} (h : St W w (check_checker.rep.rel cs x :: L)) :
    ∃ y : Option Addr × Nat × Option Addr × Nat × Option Addr × Nat × Nat, cs = [.slice y.1 x.env.Types.length y.2.1, .slice y.2.2.1 x.env.Funcs.length y.2.2.2.1, .slice y.2.2.2.2.1 x.env.Globals.length y.2.2.2.2.2.1, .bool x.env.Table, .bool x.env.Mem, .string ⟨x.locals.toArray⟩, .pointer (some ⟨y.2.2.2.2.2.2, 0, none⟩), .string ⟨x.result.toArray⟩] ∧ St W w (ptr ctrl_Control.rep y.2.2.2.2.2.2 x.c :: ro api_GlobalType.rep y.2.2.2.2.1 y.2.2.2.2.2.1 x.env.Globals :: ro (rI .u32) y.2.2.1 y.2.2.2.1 x.env.Funcs :: ro api_FuncType.rep y.1 y.2.1 x.env.Types :: L) := by
  replace h : St W w (Rep.rel (rC check_Env.rep (rC rS (rC (rPtr ctrl_Control.rep) (rC rS rN)))) cs (x.env, x.locals, x.c, x.result, ()) :: L) := h
  obtain ⟨c0, r0, rfl, h1⟩ := open_rC h
  obtain ⟨y0, rfl, h2⟩ := check_Env.open h1
  have h3 := h2.ent (Ent.take 3 rfl)
  obtain ⟨c1, r1, rfl, h4⟩ := open_rC h3
  obtain ⟨rfl, h5⟩ := open_rS h4
  obtain ⟨c2, r2, rfl, h6⟩ := open_rC h5
  obtain ⟨p2, rfl, h7⟩ := open_rPtr h6
  have h8 := h7.ent (Ent.swap _ _ _)
  obtain ⟨c3, r3, rfl, h9⟩ := open_rC h8
  obtain ⟨rfl, h10⟩ := open_rS h9
  obtain ⟨rfl, h11⟩ := open_rN h10
  exact ⟨(y0.1, y0.2.1, y0.2.2.1, y0.2.2.2.1, y0.2.2.2.2.1, y0.2.2.2.2.2, p2), rfl, h11⟩
theorem check_checker.shut {W w : World} {L : List Assn} {x : check_checker} (y : Option Addr × Nat × Option Addr × Nat × Option Addr × Nat × Nat) (h : St W w (ptr ctrl_Control.rep y.2.2.2.2.2.2 x.c :: ro api_GlobalType.rep y.2.2.2.2.1 y.2.2.2.2.2.1 x.env.Globals :: ro (rI .u32) y.2.2.1 y.2.2.2.1 x.env.Funcs :: ro api_FuncType.rep y.1 y.2.1 x.env.Types :: L)) : St W w (check_checker.rep.rel [.slice y.1 x.env.Types.length y.2.1, .slice y.2.2.1 x.env.Funcs.length y.2.2.2.1, .slice y.2.2.2.2.1 x.env.Globals.length y.2.2.2.2.2.1, .bool x.env.Table, .bool x.env.Mem, .string ⟨x.locals.toArray⟩, .pointer (some ⟨y.2.2.2.2.2.2, 0, none⟩), .string ⟨x.result.toArray⟩] x :: L) := by
  replace h := shut_rN h
  replace h := shut_rC (x := x.result) (y := (())) (shut_rS h)
  replace h := shut_rC (x := x.c) (y := (x.result, ())) (shut_rPtr (h.ent (Ent.swap _ _ _)))
  replace h := shut_rC (x := x.locals) (y := (x.c, x.result, ())) (shut_rS h)
  replace h := shut_rC (x := x.env) (y := (x.locals, x.c, x.result, ())) (check_Env.shut (x := x.env) (y.1, y.2.1, y.2.2.1, y.2.2.2.1, y.2.2.2.2.1, y.2.2.2.2.2.1) ((((h).ent (Ent.take 3 rfl)).ent (Ent.take 3 rfl)).ent (Ent.take 3 rfl)))
  exact h

structure ops_Access where
  Bytes : Int
  T : UInt8
  Writes : Bool
  Signed : Bool
def ops_Access.rep : Rep ops_Access := rMap (fun x => (x.Bytes, x.T, x.Writes, x.Signed, ())) (rC (rI .i64) (rC rU8 (rC rB (rC rB rN))))
noncomputable instance : Flat ops_Access.rep := inferInstanceAs (Flat (rMap (fun x : ops_Access => (x.Bytes, x.T, x.Writes, x.Signed, ())) (rC (rI .i64) (rC rU8 (rC rB (rC rB rN))))))
instance : PureRep ops_Access.rep := Flat.pure _
theorem ops_Access.open {W w : World} {L : List Assn} {cs : List Value} {x : ops_Access} (h : St W w (ops_Access.rep.rel cs x :: L)) :
    ∃ y : Unit, cs = [.int .i64 x.Bytes, .int .u8 x.T.toNat, .bool x.Writes, .bool x.Signed] ∧ St W w (L) := by
  replace h : St W w (Rep.rel (rC (rI .i64) (rC rU8 (rC rB (rC rB rN)))) cs (x.Bytes, x.T, x.Writes, x.Signed, ()) :: L) := h
  obtain ⟨c0, r0, rfl, h1⟩ := open_rC h
  obtain ⟨rfl, h2⟩ := open_rI h1
  obtain ⟨c1, r1, rfl, h3⟩ := open_rC h2
  obtain ⟨rfl, h4⟩ := open_rU8 h3
  obtain ⟨c2, r2, rfl, h5⟩ := open_rC h4
  obtain ⟨rfl, h6⟩ := open_rB h5
  obtain ⟨c3, r3, rfl, h7⟩ := open_rC h6
  obtain ⟨rfl, h8⟩ := open_rB h7
  obtain ⟨rfl, h9⟩ := open_rN h8
  exact ⟨(), rfl, h9⟩
theorem ops_Access.shut {W w : World} {L : List Assn} {x : ops_Access} (y : Unit) (h : St W w (L)) : St W w (ops_Access.rep.rel [.int .i64 x.Bytes, .int .u8 x.T.toNat, .bool x.Writes, .bool x.Signed] x :: L) := by
  replace h := shut_rN h
  replace h := shut_rC (x := x.Signed) (y := (())) (shut_rB h)
  replace h := shut_rC (x := x.Writes) (y := (x.Signed, ())) (shut_rB h)
  replace h := shut_rC (x := x.T) (y := (x.Writes, x.Signed, ())) (shut_rU8 h)
  replace h := shut_rC (x := x.Bytes) (y := (x.T, x.Writes, x.Signed, ())) (shut_rI (k := .i64) h)
  exact h
theorem sl_29 : slN Try.prog 29 = some (104, 2, 8) := by kernel_rfl
theorem ag_104 : aggN Try.prog 104 = some 2 := by kernel_rfl
theorem zn_104 : zeroN Try.prog 104 = some [.int .u32 0, .int .u8 (0 : UInt8).toNat] := by kernel_rfl
theorem cn_104 : cellsN Try.prog 104 = some 2 := by kernel_rfl
theorem fo_104_0 : fldOff Try.prog 104 0 = some 0 := by kernel_rfl
theorem sc_48 : scal Try.prog 48 = true := by kernel_rfl
theorem un_48 : under? Try.prog 48 = true := by kernel_rfl
theorem ii_3 : isInt Try.prog 3 .i64 = true := by kernel_rfl
theorem sl_30 : slN Try.prog 30 = some (40, 4, 48) := by kernel_rfl
theorem sl_107 : slN Try.prog 107 = some (5, 1, 1) := by kernel_rfl
theorem ag_40 : aggN Try.prog 40 = some 4 := by kernel_rfl
theorem zn_40 : zeroN Try.prog 40 = some [.int .u8 (0 : UInt8).toNat, .int .u64 0, .int .u64 0, .slice none 0 0] := by kernel_rfl
theorem cn_40 : cellsN Try.prog 40 = some 4 := by kernel_rfl
theorem fo_40_0 : fldOff Try.prog 40 0 = some 0 := by kernel_rfl
theorem sc_5 : scal Try.prog 5 = true := by kernel_rfl
theorem co_63 : callOK Try.prog 63 = true := by kernel_rfl
theorem zn_5 : zeroN Try.prog 5 = some [.int .u8 (0 : UInt8).toNat] := by kernel_rfl
theorem cn_5 : cellsN Try.prog 5 = some 1 := by kernel_rfl
theorem co_64 : callOK Try.prog 64 = true := by kernel_rfl
theorem fo_32_0 : fldOff Try.prog 32 0 = some 0 := by kernel_rfl
theorem sc_29 : scal Try.prog 29 = true := by kernel_rfl
theorem co_42 : callOK Try.prog 42 = true := by kernel_rfl
theorem fo_104_1 : fldOff Try.prog 104 1 = some 1 := by kernel_rfl
theorem co_43 : callOK Try.prog 43 = true := by kernel_rfl
theorem fo_32_1 : fldOff Try.prog 32 1 = some 1 := by kernel_rfl
theorem sc_30 : scal Try.prog 30 = true := by kernel_rfl
theorem co_44 : callOK Try.prog 44 = true := by kernel_rfl
theorem fo_28_0 : fldOff Try.prog 28 0 = some 0 := by kernel_rfl
theorem sc_9 : scal Try.prog 9 = true := by kernel_rfl
theorem ss_9 : isStr Try.prog 9 = true := by kernel_rfl
theorem ii_5 : isInt Try.prog 5 .u8 = true := by kernel_rfl
theorem fo_110_0 : fldOff Try.prog 110 0 = some 0 := by kernel_rfl
theorem sc_107 : scal Try.prog 107 = true := by kernel_rfl
theorem fo_113_0 : fldOff Try.prog 113 0 = some 0 := by kernel_rfl
theorem sc_111 : scal Try.prog 111 = true := by kernel_rfl
theorem fo_113_1 : fldOff Try.prog 113 1 = some 1 := by kernel_rfl
theorem sc_108 : scal Try.prog 108 = true := by kernel_rfl
theorem co_65 : callOK Try.prog 65 = true := by kernel_rfl
theorem sl_111 : slN Try.prog 111 = some (136, 4, 40) := by kernel_rfl
theorem zn_136 : zeroN Try.prog 136 = some [.int .u8 (0 : UInt8).toNat, .string ⟨([] : List UInt8).toArray⟩, .int .i64 0, .bool false] := by kernel_rfl
theorem cn_111 : cellsN Try.prog 111 = some 1 := by kernel_rfl
theorem co_45 : callOK Try.prog 45 = true := by kernel_rfl
theorem zn_117 : zeroN Try.prog 117 = some [.string ⟨([] : List UInt8).toArray⟩, .int .i64 0, .string ⟨([] : List UInt8).toArray⟩, .string ⟨([] : List UInt8).toArray⟩, .bool false] := by kernel_rfl
def zl_154 : List Value := [.string ⟨([] : List UInt8).toArray⟩, .int .i64 0, .string ⟨([] : List UInt8).toArray⟩, .string ⟨([] : List UInt8).toArray⟩, .bool false, .string ⟨([] : List UInt8).toArray⟩, .int .i64 0, .string ⟨([] : List UInt8).toArray⟩, .string ⟨([] : List UInt8).toArray⟩, .bool false, .string ⟨([] : List UInt8).toArray⟩, .int .i64 0, .string ⟨([] : List UInt8).toArray⟩, .string ⟨([] : List UInt8).toArray⟩, .bool false, .string ⟨([] : List UInt8).toArray⟩, .int .i64 0, .string ⟨([] : List UInt8).toArray⟩, .string ⟨([] : List UInt8).toArray⟩, .bool false, .string ⟨([] : List UInt8).toArray⟩, .int .i64 0, .string ⟨([] : List UInt8).toArray⟩, .string ⟨([] : List UInt8).toArray⟩, .bool false, .string ⟨([] : List UInt8).toArray⟩, .int .i64 0, .string ⟨([] : List UInt8).toArray⟩, .string ⟨([] : List UInt8).toArray⟩, .bool false, .string ⟨([] : List UInt8).toArray⟩, .int .i64 0, .string ⟨([] : List UInt8).toArray⟩, .string ⟨([] : List UInt8).toArray⟩, .bool false, .string ⟨([] : List UInt8).toArray⟩, .int .i64 0, .string ⟨([] : List UInt8).toArray⟩, .string ⟨([] : List UInt8).toArray⟩, .bool false, .string ⟨([] : List UInt8).toArray⟩, .int .i64 0, .string ⟨([] : List UInt8).toArray⟩, .string ⟨([] : List UInt8).toArray⟩, .bool false, .string ⟨([] : List UInt8).toArray⟩, .int .i64 0, .string ⟨([] : List UInt8).toArray⟩, .string ⟨([] : List UInt8).toArray⟩, .bool false, .string ⟨([] : List UInt8).toArray⟩, .int .i64 0, .string ⟨([] : List UInt8).toArray⟩, .string ⟨([] : List UInt8).toArray⟩, .bool false, .string ⟨([] : List UInt8).toArray⟩, .int .i64 0, .string ⟨([] : List UInt8).toArray⟩, .string ⟨([] : List UInt8).toArray⟩, .bool false, .string ⟨([] : List UInt8).toArray⟩, .int .i64 0, .string ⟨([] : List UInt8).toArray⟩, .string ⟨([] : List UInt8).toArray⟩, .bool false, .string ⟨([] : List UInt8).toArray⟩, .int .i64 0, .string ⟨([] : List UInt8).toArray⟩, .string ⟨([] : List UInt8).toArray⟩, .bool false, .string ⟨([] : List UInt8).toArray⟩, .int .i64 0, .string ⟨([] : List UInt8).toArray⟩, .string ⟨([] : List UInt8).toArray⟩, .bool false, .string ⟨([] : List UInt8).toArray⟩, .int .i64 0, .string ⟨([] : List UInt8).toArray⟩, .string ⟨([] : List UInt8).toArray⟩, .bool false, .string ⟨([] : List UInt8).toArray⟩, .int .i64 0, .string ⟨([] : List UInt8).toArray⟩, .string ⟨([] : List UInt8).toArray⟩, .bool false, .string ⟨([] : List UInt8).toArray⟩, .int .i64 0, .string ⟨([] : List UInt8).toArray⟩, .string ⟨([] : List UInt8).toArray⟩, .bool false, .string ⟨([] : List UInt8).toArray⟩, .int .i64 0, .string ⟨([] : List UInt8).toArray⟩, .string ⟨([] : List UInt8).toArray⟩, .bool false, .string ⟨([] : List UInt8).toArray⟩, .int .i64 0, .string ⟨([] : List UInt8).toArray⟩, .string ⟨([] : List UInt8).toArray⟩, .bool false, .string ⟨([] : List UInt8).toArray⟩, .int .i64 0, .string ⟨([] : List UInt8).toArray⟩, .string ⟨([] : List UInt8).toArray⟩, .bool false, .string ⟨([] : List UInt8).toArray⟩, .int .i64 0, .string ⟨([] : List UInt8).toArray⟩, .string ⟨([] : List UInt8).toArray⟩, .bool false, .string ⟨([] : List UInt8).toArray⟩, .int .i64 0, .string ⟨([] : List UInt8).toArray⟩, .string ⟨([] : List UInt8).toArray⟩, .bool false, .string ⟨([] : List UInt8).toArray⟩, .int .i64 0, .string ⟨([] : List UInt8).toArray⟩, .string ⟨([] : List UInt8).toArray⟩, .bool false, .string ⟨([] : List UInt8).toArray⟩, .int .i64 0, .string ⟨([] : List UInt8).toArray⟩, .string ⟨([] : List UInt8).toArray⟩, .bool false, .string ⟨([] : List UInt8).toArray⟩, .int .i64 0, .string ⟨([] : List UInt8).toArray⟩, .string ⟨([] : List UInt8).toArray⟩, .bool false, .string ⟨([] : List UInt8).toArray⟩, .int .i64 0, .string ⟨([] : List UInt8).toArray⟩, .string ⟨([] : List UInt8).toArray⟩, .bool false, .string ⟨([] : List UInt8).toArray⟩, .int .i64 0, .string ⟨([] : List UInt8).toArray⟩, .string ⟨([] : List UInt8).toArray⟩, .bool false, .string ⟨([] : List UInt8).toArray⟩, .int .i64 0, .string ⟨([] : List UInt8).toArray⟩, .string ⟨([] : List UInt8).toArray⟩, .bool false, .string ⟨([] : List UInt8).toArray⟩, .int .i64 0, .string ⟨([] : List UInt8).toArray⟩, .string ⟨([] : List UInt8).toArray⟩, .bool false, .string ⟨([] : List UInt8).toArray⟩, .int .i64 0, .string ⟨([] : List UInt8).toArray⟩, .string ⟨([] : List UInt8).toArray⟩, .bool false, .string ⟨([] : List UInt8).toArray⟩, .int .i64 0, .string ⟨([] : List UInt8).toArray⟩, .string ⟨([] : List UInt8).toArray⟩, .bool false, .string ⟨([] : List UInt8).toArray⟩, .int .i64 0, .string ⟨([] : List UInt8).toArray⟩, .string ⟨([] : List UInt8).toArray⟩, .bool false, .string ⟨([] : List UInt8).toArray⟩, .int .i64 0, .string ⟨([] : List UInt8).toArray⟩, .string ⟨([] : List UInt8).toArray⟩, .bool false, .string ⟨([] : List UInt8).toArray⟩, .int .i64 0, .string ⟨([] : List UInt8).toArray⟩, .string ⟨([] : List UInt8).toArray⟩, .bool false, .string ⟨([] : List UInt8).toArray⟩, .int .i64 0, .string ⟨([] : List UInt8).toArray⟩, .string ⟨([] : List UInt8).toArray⟩, .bool false, .string ⟨([] : List UInt8).toArray⟩, .int .i64 0, .string ⟨([] : List UInt8).toArray⟩, .string ⟨([] : List UInt8).toArray⟩, .bool false]
theorem zn_154 : zeroN Try.prog 154 = some zl_154 := by kernel_rfl
theorem cn_154 : cellsN Try.prog 154 = some 185 := by kernel_rfl
theorem un_5 : under? Try.prog 5 = true := by kernel_rfl
theorem ar_154 : arN Try.prog 154 = some (37, 117, 5) := by kernel_rfl
theorem ag_117 : aggN Try.prog 117 = some 5 := by kernel_rfl
theorem cn_117 : cellsN Try.prog 117 = some 5 := by kernel_rfl
def zl_155 : List Value := [.string ⟨([] : List UInt8).toArray⟩, .string ⟨([] : List UInt8).toArray⟩, .string ⟨([] : List UInt8).toArray⟩, .string ⟨([] : List UInt8).toArray⟩, .string ⟨([] : List UInt8).toArray⟩, .string ⟨([] : List UInt8).toArray⟩, .string ⟨([] : List UInt8).toArray⟩, .string ⟨([] : List UInt8).toArray⟩, .string ⟨([] : List UInt8).toArray⟩, .string ⟨([] : List UInt8).toArray⟩, .string ⟨([] : List UInt8).toArray⟩, .string ⟨([] : List UInt8).toArray⟩, .string ⟨([] : List UInt8).toArray⟩, .string ⟨([] : List UInt8).toArray⟩, .string ⟨([] : List UInt8).toArray⟩, .string ⟨([] : List UInt8).toArray⟩, .string ⟨([] : List UInt8).toArray⟩, .string ⟨([] : List UInt8).toArray⟩, .string ⟨([] : List UInt8).toArray⟩, .string ⟨([] : List UInt8).toArray⟩, .string ⟨([] : List UInt8).toArray⟩, .string ⟨([] : List UInt8).toArray⟩, .string ⟨([] : List UInt8).toArray⟩]
theorem zn_155 : zeroN Try.prog 155 = some zl_155 := by kernel_rfl
theorem cn_155 : cellsN Try.prog 155 = some 23 := by kernel_rfl
theorem ar_155 : arN Try.prog 155 = some (23, 9, 1) := by kernel_rfl
theorem fo_117_0 : fldOff Try.prog 117 0 = some 0 := by kernel_rfl
theorem fo_117_3 : fldOff Try.prog 117 3 = some 3 := by kernel_rfl
theorem cn_9 : cellsN Try.prog 9 = some 1 := by kernel_rfl
theorem fo_117_2 : fldOff Try.prog 117 2 = some 2 := by kernel_rfl
def zl_156 : List Value := [.string ⟨([] : List UInt8).toArray⟩, .string ⟨([] : List UInt8).toArray⟩, .string ⟨([] : List UInt8).toArray⟩, .string ⟨([] : List UInt8).toArray⟩, .string ⟨([] : List UInt8).toArray⟩, .string ⟨([] : List UInt8).toArray⟩, .string ⟨([] : List UInt8).toArray⟩, .string ⟨([] : List UInt8).toArray⟩, .string ⟨([] : List UInt8).toArray⟩, .string ⟨([] : List UInt8).toArray⟩, .string ⟨([] : List UInt8).toArray⟩]
theorem zn_156 : zeroN Try.prog 156 = some zl_156 := by kernel_rfl
theorem cn_156 : cellsN Try.prog 156 = some 11 := by kernel_rfl
def zl_157 : List Value := [.string ⟨([] : List UInt8).toArray⟩, .string ⟨([] : List UInt8).toArray⟩, .string ⟨([] : List UInt8).toArray⟩, .string ⟨([] : List UInt8).toArray⟩, .string ⟨([] : List UInt8).toArray⟩, .string ⟨([] : List UInt8).toArray⟩, .string ⟨([] : List UInt8).toArray⟩, .string ⟨([] : List UInt8).toArray⟩, .string ⟨([] : List UInt8).toArray⟩, .string ⟨([] : List UInt8).toArray⟩, .string ⟨([] : List UInt8).toArray⟩, .string ⟨([] : List UInt8).toArray⟩, .string ⟨([] : List UInt8).toArray⟩, .string ⟨([] : List UInt8).toArray⟩, .string ⟨([] : List UInt8).toArray⟩, .string ⟨([] : List UInt8).toArray⟩, .string ⟨([] : List UInt8).toArray⟩, .string ⟨([] : List UInt8).toArray⟩]
theorem zn_157 : zeroN Try.prog 157 = some zl_157 := by kernel_rfl
theorem cn_157 : cellsN Try.prog 157 = some 18 := by kernel_rfl
theorem ar_156 : arN Try.prog 156 = some (11, 9, 1) := by kernel_rfl
theorem co_88 : callOK Try.prog 88 = true := by kernel_rfl
theorem ar_157 : arN Try.prog 157 = some (18, 9, 1) := by kernel_rfl
theorem co_70 : callOK Try.prog 70 = true := by kernel_rfl
theorem co_71 : callOK Try.prog 71 = true := by kernel_rfl
theorem co_72 : callOK Try.prog 72 = true := by kernel_rfl
theorem co_47 : callOK Try.prog 47 = true := by kernel_rfl
theorem un_38 : under? Try.prog 38 = true := by kernel_rfl
theorem co_66 : callOK Try.prog 66 = true := by kernel_rfl
theorem fo_40_3 : fldOff Try.prog 40 3 = some 3 := by kernel_rfl
theorem sc_23 : scal Try.prog 23 = true := by kernel_rfl
theorem sl_23 : slN Try.prog 23 = some (48, 1, 4) := by kernel_rfl
theorem co_67 : callOK Try.prog 67 = true := by kernel_rfl
theorem fo_40_2 : fldOff Try.prog 40 2 = some 2 := by kernel_rfl
theorem sc_38 : scal Try.prog 38 = true := by kernel_rfl
theorem fo_40_1 : fldOff Try.prog 40 1 = some 1 := by kernel_rfl
theorem co_68 : callOK Try.prog 68 = true := by kernel_rfl
theorem co_69 : callOK Try.prog 69 = true := by kernel_rfl
theorem cn_136 : cellsN Try.prog 136 = some 4 := by kernel_rfl
theorem ag_136 : aggN Try.prog 136 = some 4 := by kernel_rfl
theorem cn_107 : cellsN Try.prog 107 = some 1 := by kernel_rfl
theorem co_90 : callOK Try.prog 90 = true := by kernel_rfl
theorem co_91 : callOK Try.prog 91 = true := by kernel_rfl
theorem co_89 : callOK Try.prog 89 = true := by kernel_rfl
theorem fo_136_2 : fldOff Try.prog 136 2 = some 2 := by kernel_rfl
theorem sc_3 : scal Try.prog 3 = true := by kernel_rfl
theorem fo_136_3 : fldOff Try.prog 136 3 = some 3 := by kernel_rfl
theorem sc_4 : scal Try.prog 4 = true := by kernel_rfl
theorem co_93 : callOK Try.prog 93 = true := by kernel_rfl
theorem fo_76_2 : fldOff Try.prog 76 2 = some 6 := by kernel_rfl
theorem sc_73 : scal Try.prog 73 = true := by kernel_rfl
theorem co_81 : callOK Try.prog 81 = true := by kernel_rfl
theorem co_84 : callOK Try.prog 84 = true := by kernel_rfl
theorem co_75 : callOK Try.prog 75 = true := by kernel_rfl
theorem fo_76_0 : fldOff Try.prog 76 0 = some 0 := by kernel_rfl
theorem fo_26_1 : fldOff Try.prog 26 1 = some 1 := by kernel_rfl
theorem un_3 : under? Try.prog 3 = true := by kernel_rfl
theorem ii_38 : isInt Try.prog 38 .u64 = true := by kernel_rfl
theorem fo_26_3 : fldOff Try.prog 26 3 = some 3 := by kernel_rfl
theorem fo_26_0 : fldOff Try.prog 26 0 = some 0 := by kernel_rfl
theorem sc_22 : scal Try.prog 22 = true := by kernel_rfl
theorem sl_22 : slN Try.prog 22 = some (28, 2, 32) := by kernel_rfl
theorem ag_28 : aggN Try.prog 28 = some 2 := by kernel_rfl
theorem zn_28 : zeroN Try.prog 28 = some [.string ⟨([] : List UInt8).toArray⟩, .string ⟨([] : List UInt8).toArray⟩] := by kernel_rfl
theorem cn_28 : cellsN Try.prog 28 = some 2 := by kernel_rfl
theorem co_73 : callOK Try.prog 73 = true := by kernel_rfl
theorem fo_28_1 : fldOff Try.prog 28 1 = some 1 := by kernel_rfl
theorem co_53 : callOK Try.prog 53 = true := by kernel_rfl
theorem co_74 : callOK Try.prog 74 = true := by kernel_rfl
theorem co_76 : callOK Try.prog 76 = true := by kernel_rfl
theorem fo_76_1 : fldOff Try.prog 76 1 = some 5 := by kernel_rfl
theorem fo_26_2 : fldOff Try.prog 26 2 = some 2 := by kernel_rfl
theorem sc_24 : scal Try.prog 24 = true := by kernel_rfl
theorem sl_24 : slN Try.prog 24 = some (62, 2, 2) := by kernel_rfl
theorem ag_62 : aggN Try.prog 62 = some 2 := by kernel_rfl
theorem zn_62 : zeroN Try.prog 62 = some [.int .u8 (0 : UInt8).toNat, .bool false] := by kernel_rfl
theorem cn_62 : cellsN Try.prog 62 = some 2 := by kernel_rfl
theorem fo_62_0 : fldOff Try.prog 62 0 = some 0 := by kernel_rfl
theorem fo_62_1 : fldOff Try.prog 62 1 = some 1 := by kernel_rfl
theorem co_92 : callOK Try.prog 92 = true := by kernel_rfl
theorem cn_4 : cellsN Try.prog 4 = some 1 := by kernel_rfl
theorem fo_136_1 : fldOff Try.prog 136 1 = some 1 := by kernel_rfl
theorem co_79 : callOK Try.prog 79 = true := by kernel_rfl
theorem fo_136_0 : fldOff Try.prog 136 0 = some 0 := by kernel_rfl
theorem sl_170 : slN Try.prog 170 = some (35, 1, 8) := by kernel_rfl
theorem sc_35 : scal Try.prog 35 = true := by kernel_rfl
theorem co_94 : callOK Try.prog 94 = true := by kernel_rfl
theorem co_95 : callOK Try.prog 95 = true := by kernel_rfl
theorem co_77 : callOK Try.prog 77 = true := by kernel_rfl
theorem co_78 : callOK Try.prog 78 = true := by kernel_rfl
theorem co_80 : callOK Try.prog 80 = true := by kernel_rfl
theorem fo_76_3 : fldOff Try.prog 76 3 = some 7 := by kernel_rfl
theorem co_82 : callOK Try.prog 82 = true := by kernel_rfl
theorem zn_148 : zeroN Try.prog 148 = some [.int .i64 0, .int .u8 (0 : UInt8).toNat, .bool false, .bool false] := by kernel_rfl
theorem fo_117_1 : fldOff Try.prog 117 1 = some 1 := by kernel_rfl
theorem sc_115 : scal Try.prog 115 = true := by kernel_rfl
theorem cn_148 : cellsN Try.prog 148 = some 4 := by kernel_rfl
theorem fo_148_1 : fldOff Try.prog 148 1 = some 1 := by kernel_rfl
theorem fo_148_0 : fldOff Try.prog 148 0 = some 0 := by kernel_rfl
theorem cn_3 : cellsN Try.prog 3 = some 1 := by kernel_rfl
theorem fo_148_3 : fldOff Try.prog 148 3 = some 3 := by kernel_rfl
theorem ag_148 : aggN Try.prog 148 = some 4 := by kernel_rfl
theorem fo_26_4 : fldOff Try.prog 26 4 = some 4 := by kernel_rfl
theorem co_83 : callOK Try.prog 83 = true := by kernel_rfl
theorem co_46 : callOK Try.prog 46 = true := by kernel_rfl
theorem co_48 : callOK Try.prog 48 = true := by kernel_rfl
theorem co_49 : callOK Try.prog 49 = true := by kernel_rfl
theorem co_50 : callOK Try.prog 50 = true := by kernel_rfl
theorem fo_117_4 : fldOff Try.prog 117 4 = some 4 := by kernel_rfl
theorem co_51 : callOK Try.prog 51 = true := by kernel_rfl
theorem co_52 : callOK Try.prog 52 = true := by kernel_rfl
theorem ag_32 : aggN Try.prog 32 = some 2 := by kernel_rfl
theorem co_13 : callOK Try.prog 13 = true := by kernel_rfl
theorem co_14 : callOK Try.prog 14 = true := by kernel_rfl
theorem ag_26 : aggN Try.prog 26 = some 5 := by kernel_rfl
theorem co_15 : callOK Try.prog 15 = true := by kernel_rfl
theorem co_16 : callOK Try.prog 16 = true := by kernel_rfl
theorem co_8 : callOK Try.prog 8 = true := by kernel_rfl
theorem co_12 : callOK Try.prog 12 = true := by kernel_rfl
theorem co_6 : callOK Try.prog 6 = true := by kernel_rfl
theorem co_7 : callOK Try.prog 7 = true := by kernel_rfl
theorem zn_32 : zeroN Try.prog 32 = some [.slice none 0 0, .slice none 0 0] := by kernel_rfl
theorem cn_32 : cellsN Try.prog 32 = some 2 := by kernel_rfl
end Go.Proofs.Ytfonekhhbmlkbaa
