/-
  Plain laws: what is read behind a crash; no program in sight.
-/
import Derived.Test.YteapfbfoegphkaaDoorP12
namespace Go.Proofs.YteapfbfoegphkaaDoor
open Go.RowKit
set_option linter.unusedVariables false
set_option linter.unusedSimpArgs false

theorem rising_le : ∀ (l : List (ByteArray × ByteArray × Nat)), l.Pairwise (fun x y => x.2.2 < y.2.2) → ∀ y ∈ l, y.2.2 ≤ endOf l := by
  intro l
  induction l with
  | nil => intro _ y hy; cases hy
  | cons x l ih =>
    intro hp y hy
    by_cases hl : l = []
    · subst hl
      have : y = x := by simpa using hy
      subst this
      exact Nat.le_refl _
    · rw [endOf_cons x l hl]
      have hx := (List.pairwise_cons.1 hp).1
      rcases List.mem_cons.1 hy with rfl | hy
      · obtain ⟨z, hz, e⟩ := endOf_mem l hl
        rw [e]
        exact Nat.le_of_lt (hx z hz)
      · exact ih (List.Pairwise.of_cons hp) y hy
theorem logAt_le (s : ByteArray) : ∀ y ∈ logAt s 0 0, y.2.2 ≤ endOf (logAt s 0 0) := by
  refine rising_le _ ?_
  unfold logAt
  exact logFrom_rising _ _ _ _ (Nat.zero_le _)
theorem takeWhile_all {α : Type} (f : α → Bool) : ∀ (l : List α), (∀ y ∈ l, f y = true) → l.takeWhile f = l := by
  intro l
  induction l with
  | nil => intro _; rfl
  | cons x l ih =>
    intro h
    rw [List.takeWhile_cons, if_pos (h x List.mem_cons_self), ih fun y hy => h y (List.mem_cons_of_mem _ hy)]
theorem extract_split (s : ByteArray) (e : Nat) (he : e ≤ s.size) : s = s.extract 0 e ++ s.extract e s.size := by
  refine bytes_ext ?_
  rw [app_toList, Lib.extract_data, Lib.extract_data]
  simp only [Nat.sub_zero, List.drop_zero]
  rw [List.take_of_length_le (l := List.drop e s.data.toList) (by simp)]
  exact (List.take_append_drop e s.data.toList).symm
/-- What has been recovered is a valid log. -/
theorem rec_valid {s : ByteArray} (h : s.size ≤ 30000) : recOk s = true ∧ (recDur s).size = endOf (logAt s 0 0) ∧ logAt (recDur s) 0 0 = logAt s 0 0 ∧ validB (recDur s) ⟨#[]⟩ (recNum s) = true ∧ recEnd s = (endOf (logAt s 0 0) : Int) := by
  have hk : recOk s = true := by unfold recOk fits; simp; omega
  have hle := endOf_le s
  have hd : recDur s = s.extract 0 (endOf (logAt s 0 0)) := by unfold recDur; rw [if_pos hk]
  have hz : (recDur s).size = endOf (logAt s 0 0) := by rw [hd, ByteArray.size_extract]; omega
  have hp : Pre (recDur s) s := ⟨s.extract (endOf (logAt s 0 0)) s.size, by rw [hd]; exact extract_split s _ hle⟩
  have hl : logAt (recDur s) 0 0 = logAt s 0 0 := by
    rw [logAt_pre hp]
    refine takeWhile_all _ _ fun y hy => ?_
    have := logAt_le s y hy
    simp
    omega
  refine ⟨hk, hz, hl, validB_mk ?_ ?_ ?_ ?_, ?_⟩
  · have : (⟨#[]⟩ : ByteArray).size = 0 := rfl
    omega
  · rw [app_nil', hl, hz]
  · rw [hl, hz]
  · unfold recNum; rw [if_pos hk, app_nil', hl]
  · unfold recEnd; rw [if_pos hk]
theorem end_ge {d s : ByteArray} (hp : Pre d s) (h : endOf (logAt d 0 0) = d.size) : d.size ≤ endOf (logAt s 0 0) := by
  by_cases h0 : logAt d 0 0 = []
  · rw [h0] at h
    have : endOf [] = 0 := rfl
    omega
  · obtain ⟨x, hx, e⟩ := endOf_mem _ h0
    rw [logAt_pre hp] at hx
    have := logAt_le s x ((List.takeWhile_sublist _).mem hx)
    omega
/-- The bytes of whole lines. -/
def lineC (c : UInt8) : Bool := c == 10 || lowC c
theorem from_cut {s : ByteArray} {p : Nat} (h : hasByte (fromB s p) 10 = true) : (fromB s p).data.toList = (cutA (fromB s p) 10).data.toList ++ 10 :: (fromB s (nextP s p)).data.toList := by
  have e := cut_back (fromB s p) 10 h
  have h10 : ((10 : UInt8).toNat : Int) = 10 := rfl
  rw [h10] at e
  have e2 := congrArg (fun b : ByteArray => b.data.toList) e
  simp only [app_toList] at e2
  have e3 : (fromB s (nextP s p)).data.toList = (cutZ (fromB s p) 10).data.toList := by
    rw [fromB_list]
    have : nextP s p = p + ((cutA (fromB s p) 10).data.toList ++ [10]).length := by unfold nextP; simp; omega
    rw [this, ← List.drop_drop, ← fromB_list, e2]
    exact List.drop_left' rfl
  rw [e3]
  simpa using e2
theorem low_lines : ∀ (n : Nat) (s : ByteArray) (p k : Nat), p ≤ s.size → s.size + 1 - p ≤ n → endP p (logFrom n s p k) = s.size → (fromB s p).data.toList.all lineC = true := by
  intro n
  induction n with
  | zero => intro s p k hp hn; omega
  | succ n ih =>
    intro s p k hp hn he
    cases hs : stepB s p k
    · rw [logFrom_succ, hs, if_neg (by simp)] at he
      have : p = s.size := he
      have hz := fromB_size s p
      have e0 : (fromB s p).size = 0 := by omega
      have : (fromB s p).data.toList = [] := List.eq_nil_of_length_eq_zero (by simpa using e0)
      rw [this]; rfl
    · have hd' := hs
      unfold stepB at hd'
      rw [Bool.and_eq_true] at hd'
      have hl := nextP_le s p hp hd'.1
      have hg : p < nextP s p := by unfold nextP; omega
      rw [logFrom_succ, hs, if_pos rfl, endP_cons] at he
      have hi := ih s (nextP s p) (k + 1) hl (by omega) he
      obtain ⟨_, d1, d2⟩ := step_len hs
      have hlow := lowB_seal d1
      rw [d2] at hlow
      rw [from_cut hd'.1, List.all_append, List.all_cons, hi, Bool.and_true, Bool.and_eq_true]
      refine ⟨?_, rfl⟩
      unfold lowB at hlow
      rw [List.all_eq_true] at hlow ⊢
      intro c hc
      unfold lineC
      rw [hlow c hc, Bool.or_true]
theorem end_byte : ∀ (n : Nat) (s : ByteArray) (p k : Nat), p ≤ s.size → ∀ y ∈ logFrom n s p k, 1 ≤ y.2.2 ∧ s.data.toList[y.2.2 - 1]? = some 10 := by
  intro n
  induction n with
  | zero => intro s p k hp y hy; cases hy
  | succ n ih =>
    intro s p k hp y hy
    rw [logFrom_succ] at hy
    split at hy
    · rename_i hs
      have hd' := hs
      unfold stepB at hd'
      rw [Bool.and_eq_true] at hd'
      have hl := nextP_le s p hp hd'.1
      rcases List.mem_cons.1 hy with rfl | hy
      · have e := from_cut hd'.1
        have e1 : s.data.toList.drop p = (cutA (fromB s p) 10).data.toList ++ 10 :: (fromB s (nextP s p)).data.toList := by rw [← fromB_list]; exact e
        have e2 : nextP s p - 1 = p + (cutA (fromB s p) 10).data.toList.length := by unfold nextP; simp
        refine ⟨by show 1 ≤ nextP s p; unfold nextP; omega, ?_⟩
        show s.data.toList[nextP s p - 1]? = some 10
        rw [e2, ← List.getElem?_drop, e1]
        simp
      · exact ih s (nextP s p) (k + 1) hl y hy
    · cases hy
theorem setB_last (q : ByteArray) (x : UInt8) (h : 0 < q.size) : setB q (q.size - 1) x = q.extract 0 (q.size - 1) ++ ⟨#[x]⟩ := by
  refine bytes_ext ?_
  rw [app_toList, Lib.extract_data]
  unfold setB
  simp only [Array.toList_setIfInBounds, Nat.sub_zero, List.drop_zero]
  have hl : q.data.toList.length = q.size := by simp
  apply List.ext_getElem?
  intro i
  rw [List.getElem?_set]
  by_cases hi : q.size - 1 = i
  · subst hi
    rw [if_pos rfl, if_pos (by omega), List.getElem?_append_right (by simp)]
    simp
  · rw [if_neg hi]
    by_cases hlt : i < q.size - 1
    · rw [List.getElem?_append_left (by simp; have : q.data.size = q.size := rfl; omega), List.getElem?_take_of_lt hlt]
    · rw [List.getElem?_eq_none (by omega), List.getElem?_append_right (by simp; omega)]
      simp
      have : q.data.size = q.size := rfl
      omega
theorem byteAt_split (q : ByteArray) (h : 0 < q.size) : q = q.extract 0 (q.size - 1) ++ ⟨#[byteAt q (q.size - 1)]⟩ := by
  rw [← setB_last q _ h]
  refine bytes_ext ?_
  unfold setB byteAt
  simp only [Array.toList_setIfInBounds]
  apply List.ext_getElem?
  intro i
  rw [List.getElem?_set]
  by_cases hi : q.size - 1 = i
  · subst hi
    have : q.data.size = q.size := rfl
    rw [if_pos rfl, if_pos (by simp; omega)]
    simp
    rw [Array.getElem?_eq_getElem (by omega)]
    simp
  · rw [if_neg hi]
/-- What is read behind a crash is a beginning of all records. -/
theorem crash_read {d p : ByteArray} {n k : Int} (b : Bool) (h : crashOk d p n k = true) :
    (crashS d p n k b).size ≤ 30000 ∧ Pre d (crashS d p n k b) ∧ logAt (crashS d p n k b) 0 0 <+: logAt (d ++ p) 0 0 ∧ (b = false → (k : Int) = p.size → logAt (crashS d p n k b) 0 0 = logAt (d ++ p) 0 0) := by
  have hcr : crashS d p n k b = d ++ (if b && decide (0 < k) then spoil (p.extract 0 k.toNat) else p.extract 0 k.toNat) := by unfold crashS; rw [if_pos h]
  unfold crashOk at h
  simp only [Bool.and_eq_true, decide_eq_true_eq] at h
  obtain ⟨hv, k0, k1⟩ := h
  obtain ⟨h1, h2, h3, h4⟩ := validB_all hv
  have zq : (p.extract 0 k.toNat).size = k.toNat := by rw [ByteArray.size_extract]; omega
  have hsz : (crashS d p n k b).size = d.size + k.toNat := by
    rw [hcr, ByteArray.size_append]
    split
    · rw [spoil_size, zq]
    · rw [zq]
  have hpq : p = p.extract 0 k.toNat ++ p.extract k.toNat p.size := extract_split p _ (by omega)
  refine ⟨by omega, ⟨_, hcr⟩, ?_, ?_⟩
  · by_cases hb : (b && decide (0 < k)) = true
    · rw [if_pos hb] at hcr
      have hk : 0 < k := by rw [Bool.and_eq_true, decide_eq_true_eq] at hb; exact hb.2
      generalize hq : p.extract 0 k.toNat = q at zq hpq hcr
      have hq0 : 0 < q.size := by omega
      have sp : spoil q = q.extract 0 (q.size - 1) ++ ⟨#[255 - byteAt q (q.size - 1)]⟩ := setB_last q _ hq0
      have sq := byteAt_split q hq0
      have z0 : (q.extract 0 (q.size - 1)).size = q.size - 1 := by rw [ByteArray.size_extract]; omega
      have hs0 : crashS d p n k b = (d ++ q.extract 0 (q.size - 1)) ++ ⟨#[255 - byteAt q (q.size - 1)]⟩ := by rw [hcr, sp, app_assoc']
      have ha0 : d ++ p = (d ++ q.extract 0 (q.size - 1)) ++ (⟨#[byteAt q (q.size - 1)]⟩ ++ p.extract k.toNat p.size) := by
        conv => lhs; rw [hpq, sq]
        rw [← app_assoc', ← app_assoc']
      have zz : (d ++ q.extract 0 (q.size - 1)).size = d.size + (q.size - 1) := by rw [ByteArray.size_append, z0]
      -- the byte that is spoilt is one of a whole line
      have hlow : (fromB (d ++ p) 0).data.toList.all lineC = true := low_lines ((d ++ p).size + 1 - 0) (d ++ p) 0 0 (Nat.zero_le _) (Nat.le_refl _) h2
      rw [fromB_list, List.drop_zero, ha0] at hlow
      simp only [app_toList, List.all_append] at hlow
      have hx : lineC (byteAt q (q.size - 1)) = true := by
        simp only [Bool.and_eq_true] at hlow
        have := hlow.2.1
        simpa using this
      have hne : (255 - byteAt q (q.size - 1) : UInt8) ≠ 10 := by
        intro e
        have e1 := (flip_byte (byteAt q (q.size - 1))).1
        rw [e] at e1
        have h10 : ((10 : UInt8).toNat : Int) = 10 := rfl
        rw [h10] at e1
        unfold lineC lowC at hx
        rw [Bool.or_eq_true] at hx
        rcases hx with hx | hx
        · rw [beq_iff_eq] at hx
          rw [hx] at e1
          rw [h10] at e1
          omega
        · simp only [Bool.and_eq_true, decide_eq_true_eq] at hx
          omega
      have hall : ∀ y ∈ logAt (crashS d p n k b) 0 0, y.2.2 ≤ (d ++ q.extract 0 (q.size - 1)).size := by
        intro y hy
        obtain ⟨y1, y2⟩ := end_byte _ _ 0 0 (Nat.zero_le _) y hy
        have yl := (logFrom_ends _ _ 0 0 (Nat.zero_le _) y hy).2
        have hzz : (crashS d p n k b).size = (d ++ q.extract 0 (q.size - 1)).size + 1 := by omega
        by_cases hyy : y.2.2 = (crashS d p n k b).size
        · exfalso
          rw [hyy, hs0, app_toList] at y2
          rw [List.getElem?_append_right (by have o1 : (⟨#[255 - byteAt q (q.size - 1)]⟩ : ByteArray).size = 1 := rfl; simp [ByteArray.size_append, o1])] at y2
          rw [show ((d ++ q.extract 0 (q.size - 1)) ++ (⟨#[255 - byteAt q (q.size - 1)]⟩ : ByteArray)).size - 1 - (d ++ q.extract 0 (q.size - 1)).data.toList.length = 0 by rw [ByteArray.size_append]; simp [ByteArray.size_mk']] at y2
          simp at y2
          exact hne y2
        · omega
      have e1 := logAt_pre (d := d ++ q.extract 0 (q.size - 1)) (s := crashS d p n k b) ⟨_, hs0⟩
      have e2 := logAt_pre (d := d ++ q.extract 0 (q.size - 1)) (s := d ++ p) ⟨_, ha0⟩
      rw [takeWhile_all _ _ (fun y hy => by have := hall y hy; simpa using this)] at e1
      rw [← e1, e2]
      exact List.takeWhile_prefix _
    · rw [if_neg hb] at hcr
      have hp : Pre (crashS d p n k b) (d ++ p) := ⟨p.extract k.toNat p.size, by rw [hcr, ← app_assoc', ← hpq]⟩
      rw [logAt_pre hp]
      exact List.takeWhile_prefix _
  · intro hb hk
    subst hb
    have : p.extract 0 k.toNat = p := by
      have : k.toNat = p.size := by omega
      rw [this]
      exact bytes_ext (by rw [Lib.extract_data]; simp [List.take_of_length_le])
    rw [hcr, Bool.false_and, if_neg (by simp), this]
end Go.Proofs.YteapfbfoegphkaaDoor
