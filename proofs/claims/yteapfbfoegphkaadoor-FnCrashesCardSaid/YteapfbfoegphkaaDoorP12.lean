/-
  Plain laws: a log with a record more, and what is read behind a crash; no program in sight.
-/
import Derived.Test.YteapfbfoegphkaaDoorP11
import Derived.Test.YteapfbfoegphkaaDoorP10
namespace Go.Proofs.YteapfbfoegphkaaDoor
open Go.RowKit
set_option linter.unusedVariables false
set_option linter.unusedSimpArgs false

/-- A byte of a line's text. -/
def lowC (c : UInt8) : Bool := decide (32 ≤ c.toNat) && decide (c.toNat ≤ 126)
def lowB (s : ByteArray) : Bool := s.data.toList.all lowC
theorem lowB_append (a b : ByteArray) : lowB (a ++ b) = (lowB a && lowB b) := by
  unfold lowB; rw [app_toList, List.all_append]
theorem lowB_printed {s : ByteArray} (h : printed s = true) : lowB s = true := by
  unfold printed at h
  unfold lowB
  rw [List.all_eq_true] at h ⊢
  intro c hc
  have := h c hc
  unfold okByte inR at this
  unfold lowC
  simp at this ⊢
  omega
theorem lowB_dec (k : Int) (h : 0 ≤ k) : lowB (decS k) = true := by
  obtain ⟨u, rfl⟩ := Int.eq_ofNat_of_zero_le h
  unfold lowB decS
  rw [Lib.itoa_nonneg, List.all_eq_true]
  intro c hc
  have := decDigits_dig u c (by simpa using hc)
  unfold lowC
  simp
  omega
theorem lowB_seal {k : Int} {c r : ByteArray} (h : encOk k c r = true) : lowB (sealB (textB k c r)) = true := by
  obtain ⟨h0, h1, hr⟩ := encOk_parts h
  obtain ⟨_, _, pc, pr, _, _⟩ := recB_parts hr
  unfold sealB textB
  rw [lowB_append, lowB_append, lowB_append, lowB_append, lowB_append, lowB_append, lowB_dec k h0, lowB_printed pc, lowB_printed pr, lowB_dec _ (sumB_bd _).1]
  rfl
theorem lowB_no10 {s : ByteArray} (h : lowB s = true) : hasByte s 10 = false := by
  unfold lowB at h
  unfold hasByte
  rw [List.all_eq_true] at h
  rw [List.any_eq_false]
  intro c hc
  have := h c hc
  unfold lowC at this
  simp at this ⊢
  omega
theorem app_nil' (a : ByteArray) : a ++ ⟨#[]⟩ = a := bytes_ext (by rw [app_toList]; simp)
theorem app_assoc' (a b c : ByteArray) : a ++ (b ++ c) = a ++ b ++ c := bytes_ext (by rw [app_toList, app_toList, app_toList, app_toList, List.append_assoc])
/-- The place behind all records from p on. -/
def endP (p : Nat) (l : List (ByteArray × ByteArray × Nat)) : Nat := (l.getLast?.map (·.2.2)).getD p
theorem endP_zero (l : List (ByteArray × ByteArray × Nat)) : endP 0 l = endOf l := rfl
theorem endP_cons (p : Nat) (x : ByteArray × ByteArray × Nat) (l : List (ByteArray × ByteArray × Nat)) : endP p (x :: l) = endP x.2.2 l := by
  unfold endP
  rw [List.getLast?_cons]
  cases l.getLast? <;> rfl
theorem step_line (s : ByteArray) (k : Nat) (c r : ByteArray) (h : encOk k c r = true) :
    stepB (s ++ lineB k c r) s.size k = true ∧ rcI (cutA (fromB (s ++ lineB k c r) s.size) 10) = c ∧ rrI (cutA (fromB (s ++ lineB k c r) s.size) 10) = r ∧ nextP (s ++ lineB k c r) s.size = (s ++ lineB k c r).size := by
  have e1 : fromB (s ++ lineB k c r) s.size = lineB k c r := (extract_pre s (lineB k c r)).2
  have hn := lowB_no10 (lowB_seal h)
  have e2 : lineB k c r = sealB (textB k c r) ++ ⟨#[10]⟩ ++ ⟨#[]⟩ := by rw [app_nil']; rfl
  have e3 : cutA (lineB k c r) 10 = sealB (textB k c r) := by
    rw [e2]; exact (cut_app (sealB (textB k c r)) ⟨#[]⟩ 10 hn).1
  obtain ⟨d1, d2, d3⟩ := Dec.okI (k := k) (s := sealB (textB k c r)) ⟨h, rfl⟩
  have e4 : hasByte (lineB k c r) 10 = true := by
    unfold lineB
    rw [hasByte_append, hasByte_one]
    simp
  refine ⟨?_, ?_, ?_, ?_⟩
  · unfold stepB; rw [e1, e3, e4, d1]; rfl
  · rw [e1, e3]; exact d2
  · rw [e1, e3]; exact d3
  · unfold nextP
    rw [e1, e3]
    unfold lineB
    simp only [ByteArray.size_append, ByteArray.size_mk']
    simp
    omega
theorem log_app (t : ByteArray) : ∀ (n : Nat) (s : ByteArray) (p k : Nat), p ≤ s.size → s.size + 1 - p ≤ n → endP p (logFrom n s p k) = s.size →
    logAt (s ++ t) p k = logFrom n s p k ++ logAt (s ++ t) s.size (k + (logFrom n s p k).length) := by
  intro n
  induction n with
  | zero => intro s p k hp hn; omega
  | succ n ih =>
    intro s p k hp hn he
    have hsz : (s ++ t).size = s.size + t.size := ByteArray.size_append
    cases hs : stepB s p k
    · rw [logFrom_succ, hs, if_neg (by simp)] at he ⊢
      have : p = s.size := he
      subst this
      simp
    · obtain ⟨hs', e⟩ := Pre.step (d := s) (s := s ++ t) ⟨t, rfl⟩ p k hp hs
      have hd' := hs
      unfold stepB at hd'
      rw [Bool.and_eq_true] at hd'
      have hl := nextP_le s p hp hd'.1
      have en : nextP (s ++ t) p = nextP s p := by unfold nextP; rw [e]
      have hg : p < nextP s p := by unfold nextP; omega
      rw [logFrom_succ, hs, if_pos rfl] at he ⊢
      rw [endP_cons] at he
      rw [logAt_step (s ++ t) p k (by omega) hs', en, e, ih s (nextP s p) (k + 1) hl (by omega) he]
      simp [Nat.add_assoc, Nat.add_comm 1]
theorem decS_two (k : Int) (h0 : 0 ≤ k) (h : k ≤ 99) : (decS k).size ≤ 2 := by
  have one : ∀ j : Int, 0 ≤ j → j < 10 → (decS j).size ≤ 1 := by
    intro j j0 j1
    rw [← decS_small j j0 j1, ByteArray.size_extract]
    omega
  by_cases h1 : 10 ≤ k
  · rw [← decS_big k h1, ByteArray.size_append]
    have := one (k / 10) (by omega) (by omega)
    have := one (k % 10) (by omega) (by omega)
    omega
  · have := one k h0 (by omega)
    omega
theorem line_len {k : Int} {c r : ByteArray} (h : encOk k c r = true) : (sealB (textB k c r)).size + 1 ≤ 387 := by
  obtain ⟨h0, h1, hr⟩ := encOk_parts h
  obtain ⟨c1, r1, _, _, _, _⟩ := recB_parts hr
  have e1 := textB_size k c r
  have e2 := decS_two k h0 (by omega)
  have e3 := sealB_size (textB k c r)
  have b := sumB_bd (textB k c r)
  have e4 := decS_len (sumB (textB k c r)) (by omega) (by omega)
  omega
theorem step_len {s : ByteArray} {p k : Nat} (h : stepB s p k = true) : nextP s p ≤ p + 387 ∧ encOk k (rcI (cutA (fromB s p) 10)) (rrI (cutA (fromB s p) 10)) = true ∧ sealB (textB k (rcI (cutA (fromB s p) 10)) (rrI (cutA (fromB s p) 10))) = cutA (fromB s p) 10 := by
  unfold stepB at h
  rw [Bool.and_eq_true] at h
  obtain ⟨d1, d2⟩ := okI_dec h.2
  have := line_len d1
  rw [d2] at this
  refine ⟨?_, d1, d2⟩
  unfold nextP
  omega
theorem endP_le : ∀ (n : Nat) (s : ByteArray) (p k : Nat), endP p (logFrom n s p k) ≤ p + 387 * (logFrom n s p k).length := by
  intro n
  induction n with
  | zero => intro s p k; exact Nat.le_refl _
  | succ n ih =>
    intro s p k
    rw [logFrom_succ]
    cases hs : stepB s p k
    · rw [if_neg (by simp)]; exact Nat.le_refl _
    · rw [if_pos rfl, endP_cons]
      have := (step_len hs).1
      have := ih s (nextP s p) (k + 1)
      simp only [List.length_cons]
      omega
theorem validB_mk {d p : ByteArray} {n : Int} (h1 : d.size + p.size ≤ 30000) (h2 : endOf (logAt (d ++ p) 0 0) = (d ++ p).size) (h3 : endOf (logAt d 0 0) = d.size) (h4 : n = ((logAt (d ++ p) 0 0).length : Int)) : validB d p n = true := by
  unfold validB
  rw [endOf_logAt]
  simp only [Bool.and_eq_true, decide_eq_true_eq, beq_iff_eq]
  exact ⟨h1, h2, h3, h4⟩
theorem validB_all {d p : ByteArray} {n : Int} (h : validB d p n = true) : d.size + p.size ≤ 30000 ∧ endOf (logAt (d ++ p) 0 0) = (d ++ p).size ∧ endOf (logAt d 0 0) = d.size ∧ n = ((logAt (d ++ p) 0 0).length : Int) := by
  unfold validB at h
  rw [endOf_logAt] at h
  simp only [Bool.and_eq_true, decide_eq_true_eq, beq_iff_eq] at h
  exact h
theorem valid_app {d p : ByteArray} {n : Int} {c r : ByteArray} (h : appGo d p n c r = true) :
    validB d (p ++ lineB n c r) (n + 1) = true ∧ ∃ e, logAt (d ++ (p ++ lineB n c r)) 0 0 = logAt (d ++ p) 0 0 ++ [(c, r, e)] := by
  unfold appGo appOk at h
  simp only [Bool.and_eq_true, Bool.not_eq_true', decide_eq_false_iff_not] at h
  obtain ⟨⟨hv, hr⟩, hn⟩ := h
  obtain ⟨h1, h2, h3, h4⟩ := validB_all hv
  have hll := logAt_len (d ++ p)
  have h4' := h4
  have he : encOk ((logAt (d ++ p) 0 0).length : Int) c r = true := by
    unfold encOk inR
    rw [hr]
    simp
    omega
  rw [h4]
  have hs : d ++ (p ++ lineB ((logAt (d ++ p) 0 0).length : Int) c r) = (d ++ p) ++ lineB ((logAt (d ++ p) 0 0).length : Int) c r := app_assoc' _ _ _
  obtain ⟨g1, g2, g3, g4⟩ := step_line (d ++ p) (logAt (d ++ p) 0 0).length c r he
  have ha : logAt (d ++ p ++ lineB ((logAt (d ++ p) 0 0).length : Int) c r) 0 0 = logAt (d ++ p) 0 0 ++ logAt (d ++ p ++ lineB ((logAt (d ++ p) 0 0).length : Int) c r) (d ++ p).size (0 + (logAt (d ++ p) 0 0).length) := log_app _ ((d ++ p).size + 1 - 0) (d ++ p) 0 0 (Nat.zero_le _) (Nat.le_refl _) h2
  have hsz : (d ++ p ++ lineB ((logAt (d ++ p) 0 0).length : Int) c r).size = (d ++ p).size + (lineB ((logAt (d ++ p) 0 0).length : Int) c r).size := ByteArray.size_append
  rw [Nat.zero_add, logAt_step _ _ _ (by omega) g1, g2, g3, g4, logAt_stop _ _ _ (Nat.le_refl _) (stepB_end _ _ _ (Nat.le_refl _))] at ha
  have hb := endP_le ((d ++ p).size + 1 - 0) (d ++ p) 0 0
  have hb' : endOf (logAt (d ++ p) 0 0) ≤ 0 + 387 * (logAt (d ++ p) 0 0).length := hb
  have hl := line_len he
  have hls : (lineB ((logAt (d ++ p) 0 0).length : Int) c r).size = (sealB (textB ((logAt (d ++ p) 0 0).length : Int) c r)).size + 1 := by unfold lineB; rw [ByteArray.size_append]; rfl
  have hdp : (d ++ p).size = d.size + p.size := ByteArray.size_append
  refine ⟨validB_mk ?_ ?_ h3 ?_, ⟨_, by rw [hs]; exact ha⟩⟩
  · rw [ByteArray.size_append]; omega
  · rw [hs, ha, endOf_snoc]
  · rw [hs, ha]; simp
theorem valid_sync {d p : ByteArray} {n : Int} (h : validB d p n = true) : validB (d ++ p) ⟨#[]⟩ n = true := by
  obtain ⟨h1, h2, h3, h4⟩ := validB_all h
  have hdp : (d ++ p).size = d.size + p.size := ByteArray.size_append
  refine validB_mk (by rw [hdp]; exact h1) ?_ h2 ?_
  · rw [app_nil']; exact h2
  · rw [app_nil']; exact h4
end Go.Proofs.YteapfbfoegphkaaDoor
