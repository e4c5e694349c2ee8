/-
  Plain laws on the encodings of records, with no program in sight.
-/
import Derived.Test.YteapfbfoegphkaaDoorP1
namespace Go.Proofs.YteapfbfoegphkaaDoor
open Go.RowKit
set_option linter.unusedVariables false
set_option linter.unusedSimpArgs false

/-- A string can be sealed within the limit. -/
def acOk (s : ByteArray) : Bool := fits s 4000 && !hasByte s 35 && fits (sealB s) 4000
def acStr (s : ByteArray) : ByteArray := if acOk s then sealB s else ⟨#[]⟩
theorem acStr_size (s : ByteArray) : (acStr s).size ≤ 4000 := by
  unfold acStr
  split
  · rename_i h
    unfold acOk fits at h
    simp at h
    omega
  · decide
/-- The text of a record with a number. -/
def textB (k : Int) (c r : ByteArray) : ByteArray := decS k ++ ⟨#[32]⟩ ++ c ++ ⟨#[64]⟩ ++ r
def lineB (k : Int) (c r : ByteArray) : ByteArray := sealB (textB k c r) ++ ⟨#[10]⟩
def encOk (k : Int) (c r : ByteArray) : Bool := inR k 0 59 && recB c r
def encStr (k : Int) (c r : ByteArray) : ByteArray := if encOk k c r then lineB k c r else ⟨#[]⟩

theorem hasByte_append (a b : ByteArray) (x : Int) : hasByte (a ++ b) x = (hasByte a x || hasByte b x) := by
  unfold hasByte; rw [app_toList, List.any_append]
theorem hasByte_one (c : UInt8) (x : Int) : hasByte ⟨#[c]⟩ x = ((c.toNat : Int) == x) := by
  simp [hasByte]
theorem printed_no (s : ByteArray) (h : printed s = true) : hasByte s 35 = false := by
  unfold printed at h
  unfold hasByte
  rw [List.all_eq_true] at h
  rw [List.any_eq_false]
  intro c hc
  have := h c hc
  unfold okByte at this
  simp at this ⊢
  exact this.2
theorem decDigits_dig (u : Nat) : ∀ c ∈ Lib.decDigits u, 48 ≤ c.toNat ∧ c.toNat ≤ 57 := by
  induction u using Nat.strongRecOn with
  | ind u ih =>
    intro c hc
    rw [Lib.decDigits] at hc
    split at hc
    · rename_i h
      have e : (UInt8.ofNat (48 + u)).toNat = 48 + u := by simp; omega
      rw [List.mem_singleton.1 hc, e]
      omega
    · rename_i h
      rw [List.mem_append] at hc
      rcases hc with hc | hc
      · exact ih (u / 10) (by omega) c hc
      · have e : (UInt8.ofNat (48 + u % 10)).toNat = 48 + u % 10 := by simp; omega
        rw [List.mem_singleton.1 hc, e]
        omega
theorem decS_no (k : Int) (h : 0 ≤ k) (x : Int) (hx : x < 48 ∨ 57 < x) : hasByte (decS k) x = false := by
  obtain ⟨u, rfl⟩ := Int.eq_ofNat_of_zero_le h
  unfold hasByte decS
  rw [Lib.itoa_nonneg, List.any_eq_false]
  intro c hc
  have := decDigits_dig u c (by simpa using hc)
  simp
  omega
theorem recB_parts {c r : ByteArray} (h : recB c r = true) : c.size ≤ 160 ∧ r.size ≤ 200 ∧ printed c = true ∧ printed r = true ∧ hasByte c 64 = false ∧ 1 ≤ c.size := by
  unfold recB cmdB inR fits at h
  simp at h
  obtain ⟨⟨⟨⟨⟨h1, h2⟩, h3⟩, h4⟩, h5⟩, h6⟩ := h
  exact ⟨by omega, by omega, h3, h6, h4, by omega⟩
theorem textB_size (k : Int) (c r : ByteArray) : (textB k c r).size = (decS k).size + 1 + c.size + 1 + r.size := by
  simp [textB, ByteArray.size_append, ByteArray.size_mk']
theorem textB_ok {k : Int} {c r : ByteArray} (h : encOk k c r = true) : acOk (textB k c r) = true := by
  unfold encOk inR at h
  simp at h
  obtain ⟨⟨k0, k1⟩, hr⟩ := h
  obtain ⟨h1, h2, h3, h4, h5, _⟩ := recB_parts hr
  have z := decS_len k (by omega) (by omega)
  have e := textB_size k c r
  have b := sumB_bd (textB k c r)
  have z2 := decS_len (sumB (textB k c r)) (by omega) (by omega)
  have e2 := sealB_size (textB k c r)
  have n : hasByte (textB k c r) 35 = false := by
    unfold textB
    rw [hasByte_append, hasByte_append, hasByte_append, hasByte_append, decS_no k k0 35 (by omega), printed_no c h3, printed_no r h4]
    decide
  unfold acOk fits
  rw [n]
  simp
  omega
theorem textB_le {k : Int} {c r : ByteArray} (hk : -9223372036854775808 ≤ k) (hk1 : k ≤ 9223372036854775807) (hc : c.size ≤ 160) (hr : r.size ≤ 200) : (textB k c r).size ≤ 400 := by
  have z := decS_len k hk hk1
  have e := textB_size k c r
  omega
end Go.Proofs.YteapfbfoegphkaaDoor
