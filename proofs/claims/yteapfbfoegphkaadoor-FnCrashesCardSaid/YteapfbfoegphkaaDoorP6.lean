/-
  Plain laws on logs: the records at the beginning of bytes, with no program in sight.
-/
import Derived.Test.YteapfbfoegphkaaDoorP5
namespace Go.Proofs.YteapfbfoegphkaaDoor
open Go.RowKit
set_option linter.unusedVariables false
set_option linter.unusedSimpArgs false

/-- What stands from a place on. -/
def fromB (s : ByteArray) (at_ : Nat) : ByteArray := s.extract at_ s.size
/-- The records from a place on, the first one with the number k: each as Command, Reply and the place behind it. -/
def logFrom : Nat → ByteArray → Nat → Nat → List (ByteArray × ByteArray × Nat)
  | 0, _, _, _ => []
  | fuel + 1, s, p, k =>
    if hasByte (fromB s p) 10 && okI k (cutA (fromB s p) 10) then
      (rcI (cutA (fromB s p) 10), rrI (cutA (fromB s p) 10), p + (cutA (fromB s p) 10).size + 1) :: logFrom fuel s (p + (cutA (fromB s p) 10).size + 1) (k + 1)
    else []
def logAt (s : ByteArray) (p k : Nat) : List (ByteArray × ByteArray × Nat) := logFrom (s.size + 1 - p) s p k
def stepB (s : ByteArray) (p k : Nat) : Bool := hasByte (fromB s p) 10 && okI k (cutA (fromB s p) 10)
def nextP (s : ByteArray) (p : Nat) : Nat := p + (cutA (fromB s p) 10).size + 1

theorem fromB_size (s : ByteArray) (p : Nat) : (fromB s p).size = s.size - p := by
  unfold fromB; rw [ByteArray.size_extract]; omega
theorem nextP_le (s : ByteArray) (p : Nat) (hp : p ≤ s.size) (h : hasByte (fromB s p) 10 = true) : nextP s p ≤ s.size := by
  have e := cut_back (fromB s p) 10 h
  have := congrArg ByteArray.size e
  rw [fromB_size] at this
  simp only [ByteArray.size_append, ByteArray.size_mk'] at this
  unfold nextP
  have h10 : ((10 : UInt8).toNat : Int) = 10 := rfl
  rw [h10] at this
  simp at this
  omega
theorem logFrom_succ (n : Nat) (s : ByteArray) (p k : Nat) : logFrom (n + 1) s p k = if stepB s p k then (rcI (cutA (fromB s p) 10), rrI (cutA (fromB s p) 10), nextP s p) :: logFrom n s (nextP s p) (k + 1) else [] := rfl
theorem logFrom_fuel : ∀ (n m : Nat) (s : ByteArray) (p k : Nat), p ≤ s.size → s.size + 1 - p ≤ n → s.size + 1 - p ≤ m → logFrom n s p k = logFrom m s p k := by
  intro n
  induction n with
  | zero => intro m s p k hp hn; omega
  | succ n ih =>
    intro m s p k hp hn hm
    match m with
    | 0 => omega
    | m + 1 =>
      rw [logFrom_succ, logFrom_succ]
      split
      · rename_i h
        unfold stepB at h
        rw [Bool.and_eq_true] at h
        have hl := nextP_le s p hp h.1
        have hg : p < nextP s p := by unfold nextP; omega
        rw [ih m s (nextP s p) (k + 1) hl (by omega) (by omega)]
      · rfl
theorem logAt_step (s : ByteArray) (p k : Nat) (hp : p ≤ s.size) (h : stepB s p k = true) : logAt s p k = (rcI (cutA (fromB s p) 10), rrI (cutA (fromB s p) 10), nextP s p) :: logAt s (nextP s p) (k + 1) := by
  have hh := h
  unfold stepB at hh
  rw [Bool.and_eq_true] at hh
  have hl := nextP_le s p hp hh.1
  have hg : p < nextP s p := by unfold nextP; omega
  unfold logAt
  rw [show s.size + 1 - p = (s.size - p) + 1 by omega, logFrom_succ, if_pos h, logFrom_fuel (s.size - p) (s.size + 1 - nextP s p) s (nextP s p) (k + 1) hl (by omega) (by omega)]
theorem logAt_stop (s : ByteArray) (p k : Nat) (hp : p ≤ s.size) (h : stepB s p k = false) : logAt s p k = [] := by
  unfold logAt
  rw [show s.size + 1 - p = (s.size - p) + 1 by omega, logFrom_succ, if_neg (by simp [h])]
theorem stepB_end (s : ByteArray) (p k : Nat) (hp : s.size ≤ p) : stepB s p k = false := by
  have h0 : (fromB s p).size = 0 := by rw [fromB_size]; omega
  have : hasByte (fromB s p) 10 = false := by
    unfold hasByte
    have : (fromB s p).data.toList = [] := by
      apply List.eq_nil_of_length_eq_zero
      simpa using h0
    rw [this]; rfl
  unfold stepB
  rw [this]; rfl
theorem okI_range {k : Int} {s : ByteArray} (h : okI k s = true) : 0 ≤ k ∧ k ≤ 59 := by
  have := okI_dec h
  exact ⟨(encOk_parts this.1).1, (encOk_parts this.1).2.1⟩
theorem stepB_big (s : ByteArray) (p k : Nat) (hk : 60 ≤ k) : stepB s p k = false := by
  cases h : stepB s p k
  · rfl
  · unfold stepB at h
    rw [Bool.and_eq_true] at h
    have := okI_range h.2
    omega
/-- The place behind all records. -/
def endOf (l : List (ByteArray × ByteArray × Nat)) : Nat := (l.getLast?.map (·.2.2)).getD 0
theorem endOf_nil : endOf [] = 0 := rfl
theorem endOf_snoc (l : List (ByteArray × ByteArray × Nat)) (c r : ByteArray) (p : Nat) : endOf (l ++ [(c, r, p)]) = p := by simp [endOf]
/-- The cells of records, as Go lays them. -/
def recCells (l : List (ByteArray × ByteArray × Nat)) : List Value := l.flatMap fun x => [.string x.1, .string x.2.1]
theorem recCells_snoc (l : List (ByteArray × ByteArray × Nat)) (c r : ByteArray) (p : Nat) : recCells (l ++ [(c, r, p)]) = recCells l ++ [.string c, .string r] := by simp [recCells]
theorem recCells_length (l : List (ByteArray × ByteArray × Nat)) : (recCells l).length = l.length * 2 := by
  induction l with
  | nil => rfl
  | cons x l ih => unfold recCells at *; rw [List.flatMap_cons, List.length_append, ih]; simp; omega
def endCells (l : List (ByteArray × ByteArray × Nat)) : List Value := l.map fun x => .int .i64 x.2.2
theorem endCells_snoc (l : List (ByteArray × ByteArray × Nat)) (c r : ByteArray) (p : Nat) : endCells (l ++ [(c, r, p)]) = endCells l ++ [.int .i64 p] := by simp [endCells]
theorem recCells_nil : recCells [] = [] := rfl
theorem endCells_nil : endCells [] = [] := rfl
theorem nextP_eq (s : ByteArray) (p : Nat) : nextP s p = p + (cutA (fromB s p) 10).size + 1 := rfl
theorem fromB_eq (s : ByteArray) (p : Nat) : s.extract p s.size = fromB s p := rfl
end Go.Proofs.YteapfbfoegphkaaDoor
