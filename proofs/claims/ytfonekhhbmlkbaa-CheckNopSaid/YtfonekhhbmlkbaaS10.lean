/- Where a partial computation answers, and what of its answer is known: no program in sight. -/
import Derived.Test.YtfonekhhbmlkbaaS9
namespace Go.Sym
open Go
/-- It answers, and P holds of the answer. -/
def Tot {α : Type} (x : Option α) (P : α → Prop) : Prop := ∃ r, x = some r ∧ P r
section
variable {α β : Type} {x y : Option α} {P Q : α → Prop}
theorem Tot.mk {r : α} (h : P r) : Tot (some r) P := ⟨r, rfl, h⟩
theorem Tot.bind {f : α → Option β} {R : β → Prop} (h : Tot x P) (k : ∀ r, P r → Tot (f r) R) : Tot (x.bind f) R := by
  obtain ⟨r, rfl, p⟩ := h
  exact k r p
theorem Tot.ite {c : Prop} [Decidable c] (a : c → Tot x P) (b : ¬ c → Tot y P) : Tot (if c then x else y) P := by
  by_cases h : c
  · rw [if_pos h]; exact a h
  · rw [if_neg h]; exact b h
theorem Tot.mono (h : Tot x P) (k : ∀ r, P r → Q r) : Tot x Q := by
  obtain ⟨r, e, p⟩ := h
  exact ⟨r, e, k r p⟩
theorem Tot.of_eq {r : α} (h : x = some r) (p : P r) : Tot x P := ⟨r, h, p⟩
theorem Tot.out (h : Tot x P) {r : α} (e : x = some r) : P r := by
  obtain ⟨s, e', p⟩ := h
  rw [e] at e'; cases e'; exact p
theorem Tot.and (h : Tot x P) (k : Tot x Q) : Tot x (fun r => P r ∧ Q r) := by
  obtain ⟨r, e, p⟩ := h
  exact ⟨r, e, p, k.out e⟩
theorem Tot.id {r : α} (h : x = some r) : Tot x (fun s => s = r) := ⟨r, h, rfl⟩
theorem Tot.at? {l : List α} {i : Int} (h0 : 0 ≤ i) (h1 : i < l.length) : Tot (at? l i) (fun u => u ∈ l ∧ l[i.toNat]? = some u) := by
  have h2 : i.toNat < l.length := by omega
  refine ⟨l[i.toNat], ?_, List.getElem_mem h2, List.getElem?_eq_getElem h2⟩
  simp [Sym.at?, h0, List.getElem?_eq_getElem h2]
theorem Tot.sl? {l : List α} {lo hi : Int} (h0 : 0 ≤ lo) (h1 : lo ≤ hi) (h2 : hi ≤ l.length) : Tot (sl? l lo hi) (fun r => r = (l.take hi.toNat).drop lo.toNat) := ⟨_, by simp [Sym.sl?, h0, h1, h2], rfl⟩
theorem Tot.ap {l l2 : List α} {n : Nat} (h : (l.length + l2.length) * n ≤ 140737488355328) (h2 : l.length + l2.length ≤ 9223372036854775807) : Tot (ap n l l2) (fun r => r = l ++ l2) := ⟨_, by simp [Sym.ap, h, h2], rfl⟩
theorem Tot.set? {l : List α} {j : Nat} {u : α} (h : j < l.length) : Tot (set? l j u) (fun r => r = l.set j u) := ⟨_, by simp [Sym.set?, h], rfl⟩
theorem Tot.make {n c : Int} {y : Nat} {z : α} (h0 : 0 ≤ n) (h1 : n ≤ c) (h2 : c * y ≤ 140737488355328) (h3 : c ≤ 9223372036854775807) : Tot (mk? y n c z) (fun l => l = List.replicate n.toNat z) := ⟨_, by simp [Sym.mk?, h0, h1, h2, h3], rfl⟩
theorem Tot.cat {a b : List UInt8} (h : a.length + b.length ≤ 4611686018427387904) : Tot (cat a b) (fun r => r = a ++ b) := ⟨_, by simp [Sym.cat, h], rfl⟩
theorem bnot_t {b : Bool} (h : ¬ (b = true)) : b = false := by simpa using h
end
theorem wi64 {n : Int} (h : -9223372036854775808 ≤ n) (k : n ≤ 9223372036854775807) : IntKind.i64.wrap n = n := by
  simp [IntKind.wrap, IntKind.bits, IntKind.signed]; omega
theorem wu64 {n : Int} (h : 0 ≤ n) (k : n ≤ 18446744073709551615) : IntKind.u64.wrap n = n := by
  simp [IntKind.wrap, IntKind.bits, IntKind.signed]; omega
theorem wu32 {n : Int} (h : 0 ≤ n) (k : n ≤ 4294967295) : IntKind.u32.wrap n = n := by
  simp [IntKind.wrap, IntKind.bits, IntKind.signed]; omega
theorem rounds_succ : rounds = 4611686018427387903 + 1 := rfl
theorem rounds_val : rounds = 4611686018427387904 := rfl
end Go.Sym
