/-
  Plain laws on recovering logs, with no program in sight.
-/
import Derived.Test.YteapfbfoegphkaaDoorP6
namespace Go.Proofs.YteapfbfoegphkaaDoor
open Go.RowKit
set_option linter.unusedVariables false
set_option linter.unusedSimpArgs false

theorem logFrom_ends : ∀ (n : Nat) (s : ByteArray) (p k : Nat), p ≤ s.size → ∀ x ∈ logFrom n s p k, p < x.2.2 ∧ x.2.2 ≤ s.size := by
  intro n
  induction n with
  | zero => intro s p k hp x hx; cases hx
  | succ n ih =>
    intro s p k hp x hx
    rw [logFrom_succ] at hx
    split at hx
    · rename_i h
      unfold stepB at h
      rw [Bool.and_eq_true] at h
      have hl := nextP_le s p hp h.1
      have hg : p < nextP s p := by unfold nextP; omega
      rcases List.mem_cons.1 hx with rfl | hx
      · exact ⟨hg, hl⟩
      · have := ih s (nextP s p) (k + 1) hl x hx
        omega
    · cases hx
theorem logFrom_len : ∀ (n : Nat) (s : ByteArray) (p k : Nat), k ≤ 60 → (logFrom n s p k).length + k ≤ 60 := by
  intro n
  induction n with
  | zero => intro s p k hk; simpa [logFrom] using hk
  | succ n ih =>
    intro s p k hk
    rw [logFrom_succ]
    split
    · rename_i h
      have hk2 : ¬ 60 ≤ k := fun h60 => by rw [stepB_big s p k h60] at h; cases h
      have := ih s (nextP s p) (k + 1) (by omega)
      simp only [List.length_cons]
      omega
    · simpa using hk
theorem logAt_len (s : ByteArray) : (logAt s 0 0).length ≤ 60 := by
  have := logFrom_len (s.size + 1 - 0) s 0 0 (by decide)
  unfold logAt
  omega
theorem endOf_mem (l : List (ByteArray × ByteArray × Nat)) (h : l ≠ []) : ∃ x ∈ l, endOf l = x.2.2 := by
  refine ⟨l.getLast h, List.getLast_mem h, ?_⟩
  unfold endOf
  rw [List.getLast?_eq_some_getLast h]
  rfl
theorem endOf_le (s : ByteArray) : endOf (logAt s 0 0) ≤ s.size := by
  by_cases h : logAt s 0 0 = []
  · rw [h]; exact Nat.zero_le _
  · obtain ⟨x, hx, e⟩ := endOf_mem _ h
    rw [e]
    exact (logFrom_ends _ s 0 0 (Nat.zero_le _) x hx).2
theorem endCells_last (l : List (ByteArray × ByteArray × Nat)) (h : 0 < l.length) : (endCells l)[l.length - 1]? = some (.int .i64 (endOf l)) := by
  have hne : l ≠ [] := fun e => by rw [e] at h; cases h
  unfold endCells endOf
  rw [List.getElem?_map, ← List.getLast?_eq_getElem?, List.getLast?_eq_some_getLast hne]
  rfl
theorem endOf_empty {l : List (ByteArray × ByteArray × Nat)} (h : ¬ 0 < l.length) : endOf l = 0 := by
  have : l = [] := List.eq_nil_of_length_eq_zero (by omega)
  rw [this]; rfl
/-- What is recovered. -/
def recOk (s : ByteArray) : Bool := fits s 30000
def recDur (s : ByteArray) : ByteArray := if recOk s then s.extract 0 (endOf (logAt s 0 0)) else ⟨#[]⟩
def recNum (s : ByteArray) : Int := if recOk s then ((logAt s 0 0).length : Int) else 0
def recEnd (s : ByteArray) : Int := if recOk s then (endOf (logAt s 0 0) : Int) else 0
end Go.Proofs.YteapfbfoegphkaaDoor
