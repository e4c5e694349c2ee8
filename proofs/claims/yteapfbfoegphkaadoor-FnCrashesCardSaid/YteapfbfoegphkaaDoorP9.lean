/-
  Plain laws: what the log's functions answer, with no program in sight.
-/
import Derived.Test.YteapfbfoegphkaaDoorP8
namespace Go.Proofs.YteapfbfoegphkaaDoor
open Go.RowKit
set_option linter.unusedVariables false
set_option linter.unusedSimpArgs false

/-- A log that is synced. -/
def syncD (d p : ByteArray) (n : Int) : ByteArray := if validB d p n then d ++ p else ⟨#[]⟩
def syncN (d p : ByteArray) (n : Int) : Int := if validB d p n then n else 0
theorem validB_le {d p : ByteArray} {n : Int} (h : validB d p n = true) : d.size + p.size ≤ 30000 ∧ (n = ((logAt (d ++ p) 0 0).length : Int)) := by
  unfold validB at h
  simp only [Bool.and_eq_true, decide_eq_true_eq, beq_iff_eq] at h
  exact ⟨h.1, h.2.2.2⟩
/-- A log that has crashed: the first k bytes of what was pending stay, the last of them spoilt. -/
def crashOk (d p : ByteArray) (n k : Int) : Bool := validB d p n && (decide (0 ≤ k) && decide (k ≤ p.size))
def byteAt (s : ByteArray) (j : Nat) : UInt8 := s.data.toList.getD j 0
def setB (s : ByteArray) (j : Nat) (x : UInt8) : ByteArray := ⟨s.data.setIfInBounds j x⟩
def spoil (s : ByteArray) : ByteArray := setB s (s.size - 1) (255 - byteAt s (s.size - 1))
def crashS (d p : ByteArray) (n k : Int) (b : Bool) : ByteArray := if crashOk d p n k then d ++ (if b && decide (0 < k) then spoil (p.extract 0 k.toNat) else p.extract 0 k.toNat) else ⟨#[]⟩
end Go.Proofs.YteapfbfoegphkaaDoor
