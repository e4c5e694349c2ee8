/-
  Plain laws on reading a record back and on logs, with no program in sight.
-/
import Derived.Test.YteapfbfoegphkaaDoorP4
namespace Go.Proofs.YteapfbfoegphkaaDoor
open Go.RowKit
set_option linter.unusedVariables false
set_option linter.unusedSimpArgs false

theorem eq_of_toList {a b : ByteArray} (h : (a.toList == b.toList) = true) : a = b := by
  refine bytes_ext ?_
  rw [← Lib.toList_data, ← Lib.toList_data]
  exact beq_iff_eq.1 h
theorem toList_eq {a b : ByteArray} (h : a = b) : (a.toList == b.toList) = true := by rw [h]; exact beq_self_eq_true _

/-- A line is the seal of what stands before its first number sign. -/
def verOk (s : ByteArray) : Bool := fits s 4000 && (acOk (cutA s 35) && ((acStr (cutA s 35)).toList == s.toList))
def verStr (s : ByteArray) : ByteArray := if verOk s then cutA s 35 else ⟨#[]⟩
/-- What the program reads of a line. -/
def rcI (s : ByteArray) : ByteArray := if verOk s then cutA (cutZ (cutA s 35) 32) 64 else ⟨#[]⟩
def rrI (s : ByteArray) : ByteArray := if verOk s then cutZ (cutZ (cutA s 35) 32) 64 else ⟨#[]⟩
def okI (k : Int) (s : ByteArray) : Bool := verOk s && (encOk k (rcI s) (rrI s) && ((encStr k (rcI s) (rrI s)).toList == (s ++ ⟨#[10]⟩ : ByteArray).toList))
/-- What the reference reads of a line. -/
def aheadS (k : Int) : ByteArray := decS k ++ ⟨#[32]⟩
def preS (k : Int) (s : ByteArray) : Bool := decide ((aheadS k).size ≤ (cutA s 35).size) && (((cutA s 35).extract 0 (aheadS k).size).toList == (aheadS k).toList)
def restS (k : Int) (s : ByteArray) : ByteArray := (cutA s 35).extract (aheadS k).size (cutA s 35).size
def atS (k : Int) (s : ByteArray) : Bool := preS k s && !decide ((cutA (restS k s) 64).size = (restS k s).size)
def rcS (k : Int) (s : ByteArray) : ByteArray := if atS k s then cutA (restS k s) 64 else ⟨#[]⟩
def rrS (k : Int) (s : ByteArray) : ByteArray := if atS k s then (restS k s).extract ((cutA (restS k s) 64).size + 1) (restS k s).size else ⟨#[]⟩
def okS (k : Int) (s : ByteArray) : Bool := atS k s && (recB (rcS k s) (rrS k s) && ((lineB k (rcS k s) (rrS k s)).toList == (s ++ ⟨#[10]⟩ : ByteArray).toList))

/-- A line, without its newline, is the encoding of a valid record with a number. -/
def Dec (k : Int) (s c r : ByteArray) : Prop := encOk k c r = true ∧ sealB (textB k c r) = s

theorem app_inj {a b x : ByteArray} (h : a ++ x = b ++ x) : a = b := by
  refine bytes_ext ?_
  have := congrArg (fun z : ByteArray => z.data.toList) h
  simp only [app_toList] at this
  exact List.append_cancel_right this
theorem Dec.cut {k : Int} {s c r : ByteArray} (h : Dec k s c r) : cutA s 35 = textB k c r := by
  obtain ⟨h1, h2⟩ := h
  have := textB_ok h1
  unfold acOk at this
  simp only [Bool.and_eq_true, Bool.not_eq_true'] at this
  subst h2
  exact (cut_app (textB k c r) (decS (sumB (textB k c r))) 35 this.1.2).1
theorem encOk_parts {k : Int} {c r : ByteArray} (h : encOk k c r = true) : 0 ≤ k ∧ k ≤ 59 ∧ recB c r = true := by
  unfold encOk inR at h
  simp at h
  exact ⟨h.1.1, h.1.2, h.2⟩
theorem rest_text {k : Int} {c r : ByteArray} (h : encOk k c r = true) : cutA (textB k c r) 32 = decS k ∧ cutZ (textB k c r) 32 = c ++ ⟨#[64]⟩ ++ r := by
  obtain ⟨h0, h1, hr⟩ := encOk_parts h
  have e : textB k c r = decS k ++ ⟨#[32]⟩ ++ (c ++ ⟨#[64]⟩ ++ r) := by
    unfold textB
    refine bytes_ext ?_
    simp only [app_toList, List.append_assoc]
  rw [e]
  exact cut_app (decS k) _ 32 (decS_no k h0 _ (by decide))
theorem rest_rec {k : Int} {c r : ByteArray} (h : encOk k c r = true) : cutA (c ++ ⟨#[64]⟩ ++ r) 64 = c ∧ cutZ (c ++ ⟨#[64]⟩ ++ r) 64 = r := by
  obtain ⟨h0, h1, hr⟩ := encOk_parts h
  exact cut_app c r 64 (recB_parts hr).2.2.2.2.1
theorem Dec.okI {k : Int} {s c r : ByteArray} (h : Dec k s c r) : okI k s = true ∧ rcI s = c ∧ rrI s = r := by
  have hc := h.cut
  obtain ⟨h1, h2⟩ := h
  have ha := textB_ok h1
  have hs : acStr (textB k c r) = s := by unfold acStr; rw [ha]; exact h2
  have hv : verOk s = true := by
    unfold verOk
    rw [hc, ha, hs]
    simp only [beq_self_eq_true, Bool.and_true, Bool.true_and]
    unfold fits
    have := acStr_size (textB k c r)
    rw [hs] at this
    simp
    omega
  have e1 : rcI s = c := by unfold rcI; rw [hv, hc]; simp only [if_true]; rw [(rest_text h1).2, (rest_rec h1).1]
  have e2 : rrI s = r := by unfold rrI; rw [hv, hc]; simp only [if_true]; rw [(rest_text h1).2, (rest_rec h1).2]
  refine ⟨?_, e1, e2⟩
  unfold Proofs.YteapfbfoegphkaaDoor.okI
  rw [hv, e1, e2, h1]
  simp only [Bool.true_and]
  refine toList_eq ?_
  unfold encStr lineB
  rw [h1, if_pos rfl, h2]
theorem okI_dec {k : Int} {s : ByteArray} (h : okI k s = true) : Dec k s (rcI s) (rrI s) := by
  unfold okI at h
  simp only [Bool.and_eq_true] at h
  obtain ⟨_, h1, h2⟩ := h
  have h2 := eq_of_toList h2
  unfold encStr lineB at h2
  rw [h1, if_pos rfl] at h2
  exact ⟨h1, app_inj h2⟩
theorem Dec.uniq {k : Int} {s c r c' r' : ByteArray} (h : Dec k s c r) (h' : Dec k s c' r') : c = c' ∧ r = r' :=
  ⟨h.okI.2.1.symm.trans h'.okI.2.1, h.okI.2.2.symm.trans h'.okI.2.2⟩
theorem extract_pre (a b : ByteArray) : (a ++ b).extract 0 a.size = a ∧ (a ++ b).extract a.size (a ++ b).size = b := by
  constructor
  · refine bytes_ext ?_
    rw [Lib.extract_data, app_toList]
    simp
  · refine bytes_ext ?_
    rw [Lib.extract_data, app_toList]
    simp
    exact List.take_of_length_le (by simp)
theorem Dec.okS {k : Int} {s c r : ByteArray} (h : Dec k s c r) : okS k s = true ∧ rcS k s = c ∧ rrS k s = r := by
  have hc := h.cut
  obtain ⟨h1, h2⟩ := h
  have e : textB k c r = aheadS k ++ (c ++ ⟨#[64]⟩ ++ r) := by
    unfold textB aheadS
    refine bytes_ext ?_
    simp only [app_toList, List.append_assoc]
  have hr : restS k s = c ++ ⟨#[64]⟩ ++ r := by unfold restS; rw [hc, e]; exact (extract_pre _ _).2
  have hcu := rest_rec h1
  have ha : atS k s = true := by
    unfold atS preS
    rw [hr, hcu.1, hc, e, (extract_pre _ _).1]
    simp [ByteArray.size_append, ByteArray.size_mk']
    omega
  have e1 : rcS k s = c := by unfold rcS; rw [ha, if_pos rfl, hr, hcu.1]
  have e2 : rrS k s = r := by
    unfold rrS
    rw [ha, if_pos rfl, hr, hcu.1]
    have e3 : (c ++ ⟨#[64]⟩ : ByteArray).size = c.size + 1 := by simp [ByteArray.size_append, ByteArray.size_mk']
    have := (extract_pre (c ++ ⟨#[64]⟩) r).2
    rw [e3] at this
    exact this
  refine ⟨?_, e1, e2⟩
  unfold Proofs.YteapfbfoegphkaaDoor.okS
  rw [ha, e1, e2, (encOk_parts h1).2.2]
  simp only [Bool.true_and]
  refine toList_eq ?_
  unfold lineB
  rw [h2]
theorem okS_dec {k : Int} {s : ByteArray} (h0 : 0 ≤ k) (h1 : k ≤ 59) (h : okS k s = true) : Dec k s (rcS k s) (rrS k s) := by
  unfold okS at h
  simp only [Bool.and_eq_true] at h
  obtain ⟨_, h2, h3⟩ := h
  have h3 := eq_of_toList h3
  unfold lineB at h3
  refine ⟨?_, app_inj h3⟩
  unfold encOk inR
  rw [h2]
  simp [h0, h1]
/-- Program and reference read the same. -/
theorem okS_okI {k : Int} (s : ByteArray) (h0 : 0 ≤ k) (h1 : k ≤ 59) : okS k s = okI k s ∧ (okI k s = true → rcS k s = rcI s ∧ rrS k s = rrI s) := by
  have hi : okI k s = true → okS k s = true ∧ rcS k s = rcI s ∧ rrS k s = rrI s := fun h => (okI_dec h).okS
  refine ⟨?_, fun h => (hi h).2⟩
  rw [Bool.eq_iff_iff]
  exact ⟨fun h => (okS_dec h0 h1 h).okI.1, fun h => (hi h).1⟩
theorem ahead_size (k : Int) : (aheadS k).size = (decS k).size + 1 := by simp [aheadS, ByteArray.size_append, ByteArray.size_mk']
theorem pre_parts {k : Int} {s : ByteArray} (hp : preS k s = true) : ¬ (cutA s 35).size < (decS k).size + 1 ∧ (((cutA s 35).extract 0 ((decS k).size + 1)).toList == (decS k ++ ⟨#[32]⟩ : ByteArray).toList) = true ∧ restS k s = (cutA s 35).extract ((decS k).size + 1) (cutA s 35).size := by
  refine ⟨?_, ?_, by unfold restS; rw [ahead_size]⟩
  · unfold preS at hp
    rw [ahead_size] at hp
    simp at hp
    omega
  · unfold preS at hp
    rw [ahead_size, Bool.and_eq_true] at hp
    exact hp.2
theorem rest_size (k : Int) (s : ByteArray) : (restS k s).size ≤ s.size := by
  have := cutA_size s 35
  unfold restS
  rw [ByteArray.size_extract]
  omega
theorem at_parts {k : Int} {s : ByteArray} (ha : atS k s = true) : preS k s = true ∧ ((((cutA (restS k s) 64).size : Nat) : Int) == (((restS k s).size : Nat) : Int)) = false ∧ (cutA (restS k s) 64).size < (restS k s).size ∧ rcS k s = cutA (restS k s) 64 ∧ rrS k s = (restS k s).extract ((cutA (restS k s) 64).size + 1) (restS k s).size := by
  have h := ha
  unfold atS at h
  rw [Bool.and_eq_true] at h
  have h2 : (cutA (restS k s) 64).size ≠ (restS k s).size := by simpa using h.2
  have h3 := cutA_size (restS k s) 64
  refine ⟨h.1, ?_, by omega, by unfold rcS; rw [ha, if_pos rfl], by unfold rrS; rw [ha, if_pos rfl]⟩
  rw [beq_eq_false_iff_ne]
  omega
end Go.Proofs.YteapfbfoegphkaaDoor
