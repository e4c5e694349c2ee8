/-
  Plain laws on valid logs, with no program in sight.
-/
import Derived.Test.YteapfbfoegphkaaDoorP7
namespace Go.Proofs.YteapfbfoegphkaaDoor
open Go.RowKit
set_option linter.unusedVariables false
set_option linter.unusedSimpArgs false

/-- s without its end is d. -/
def Pre (d s : ByteArray) : Prop := ∃ t : ByteArray, s = d ++ t
theorem Pre.size {d s : ByteArray} (h : Pre d s) : d.size ≤ s.size := by
  obtain ⟨t, rfl⟩ := h
  rw [ByteArray.size_append]; omega
theorem fromB_list (s : ByteArray) (p : Nat) : (fromB s p).data.toList = s.data.toList.drop p := by
  unfold fromB
  rw [Lib.extract_data]
  exact List.take_of_length_le (by simp)
theorem Pre.from_ {d s : ByteArray} (h : Pre d s) (p : Nat) (hp : p ≤ d.size) : ∃ t : List UInt8, (fromB s p).data.toList = (fromB d p).data.toList ++ t := by
  obtain ⟨t, rfl⟩ := h
  refine ⟨t.data.toList, ?_⟩
  rw [fromB_list, fromB_list, app_toList, List.drop_append_of_le_length (by simpa using hp)]
theorem upL_pre (c : Int) : ∀ (a t : List UInt8), a.any (fun x => (x.toNat : Int) == c) = true → upL c (a ++ t) = upL c a ∧ (a ++ t).any (fun x => (x.toNat : Int) == c) = true := by
  intro a
  induction a with
  | nil => intro t h; simp at h
  | cons x a ih =>
    intro t h
    unfold upL at *
    by_cases hx : ((x.toNat : Int) == c) = true
    · simp [hx]
    · have hx' : ((x.toNat : Int) == c) = false := by simpa using hx
      rw [List.any_cons, hx', Bool.false_or] at h
      obtain ⟨h1, h2⟩ := ih t h
      simp only [List.cons_append, List.takeWhile_cons, hx', Bool.not_false, if_true, List.any_cons, Bool.false_or]
      exact ⟨by rw [h1], h2⟩
theorem upL_long (c : Int) : ∀ (a t : List UInt8), a.any (fun x => (x.toNat : Int) == c) = false → a.length ≤ (upL c (a ++ t)).length := by
  intro a
  induction a with
  | nil => intro t h; simp
  | cons x a ih =>
    intro t h
    rw [List.any_cons, Bool.or_eq_false_iff] at h
    have := ih t h.2
    unfold upL at *
    simp only [List.cons_append, List.takeWhile_cons, h.1, Bool.not_false, if_true, List.length_cons]
    omega
theorem cutA_len (s : ByteArray) (c : Int) : (cutA s c).size = (upL c s.data.toList).length := by
  unfold cutA mkB
  simp [ByteArray.size_mk']
/-- A step within the beginning is a step of the whole. -/
theorem Pre.step {d s : ByteArray} (h : Pre d s) (p k : Nat) (hp : p ≤ d.size) (hs : stepB d p k = true) : stepB s p k = true ∧ cutA (fromB s p) 10 = cutA (fromB d p) 10 := by
  obtain ⟨t, ht⟩ := h.from_ p hp
  unfold stepB at hs ⊢
  rw [Bool.and_eq_true] at hs
  have h1 := hs.1
  unfold hasByte at h1
  obtain ⟨u1, u2⟩ := upL_pre 10 _ t h1
  have e : cutA (fromB s p) 10 = cutA (fromB d p) 10 := by unfold cutA; rw [ht, u1]
  refine ⟨?_, e⟩
  rw [e, hs.2, Bool.and_true]
  unfold hasByte
  rw [ht]; exact u2
/-- A step of the whole that ends within the beginning is a step of it. -/
theorem Pre.back {d s : ByteArray} (h : Pre d s) (p k : Nat) (hp : p ≤ d.size) (hs : stepB s p k = true) (hn : nextP s p ≤ d.size) : stepB d p k = true := by
  obtain ⟨t, ht⟩ := h.from_ p hp
  cases hb : (fromB d p).data.toList.any (fun x => (x.toNat : Int) == 10)
  · have hl := upL_long 10 _ t hb
    rw [← ht, ← cutA_len] at hl
    have hz := fromB_size d p
    have : (fromB d p).data.toList.length = (fromB d p).size := by simp
    unfold nextP at hn
    omega
  · obtain ⟨u1, u2⟩ := upL_pre 10 _ t hb
    have e : cutA (fromB s p) 10 = cutA (fromB d p) 10 := by unfold cutA; rw [ht, u1]
    unfold stepB at hs ⊢
    rw [Bool.and_eq_true] at hs
    rw [← e, hs.2, Bool.and_true]
    exact hb
theorem logFrom_after (n : Nat) (s : ByteArray) (p k : Nat) (hp : p ≤ s.size) : ∀ x ∈ logFrom n s p k, p < x.2.2 := fun x hx => (logFrom_ends n s p k hp x hx).1
/-- The records of a beginning are those records of the whole that end within it. -/
theorem log_pre {d s : ByteArray} (h : Pre d s) : ∀ (n p k : Nat), p ≤ d.size → logFrom n d p k = (logFrom n s p k).takeWhile (fun x => decide (x.2.2 ≤ d.size)) := by
  intro n
  induction n with
  | zero => intro p k hp; rfl
  | succ n ih =>
    intro p k hp
    have hps : p ≤ s.size := Nat.le_trans hp h.size
    rw [logFrom_succ, logFrom_succ]
    cases hd : stepB d p k
    · rw [if_neg (by simp)]
      cases hs : stepB s p k
      · rw [if_neg (by simp)]; rfl
      · rw [if_pos rfl, List.takeWhile_cons, if_neg]
        intro hc
        have := h.back p k hp hs (by simpa using hc)
        rw [hd] at this; cases this
    · obtain ⟨hs, e⟩ := h.step p k hp hd
      have hd' := hd
      unfold stepB at hd'
      rw [Bool.and_eq_true] at hd'
      have hl := nextP_le d p hp hd'.1
      have en : nextP s p = nextP d p := by unfold nextP; rw [e]
      rw [if_pos rfl, hs, if_pos rfl, List.takeWhile_cons, en, if_pos (by simpa using hl), ih _ _ hl, e]
theorem logAt_pre {d s : ByteArray} (h : Pre d s) : logAt d 0 0 = (logAt s 0 0).takeWhile (fun x => decide (x.2.2 ≤ d.size)) := by
  unfold logAt
  rw [logFrom_fuel (d.size + 1 - 0) (s.size + 1 - 0) d 0 0 (Nat.zero_le _) (Nat.le_refl _) (by have := h.size; omega), log_pre h _ _ _ (Nat.zero_le _)]
/-- The places rise. -/
theorem logFrom_rising : ∀ (n : Nat) (s : ByteArray) (p k : Nat), p ≤ s.size → (logFrom n s p k).Pairwise (fun x y => x.2.2 < y.2.2) := by
  intro n
  induction n with
  | zero => intro s p k hp; exact List.Pairwise.nil
  | succ n ih =>
    intro s p k hp
    rw [logFrom_succ]
    split
    · rename_i h
      unfold stepB at h
      rw [Bool.and_eq_true] at h
      have hl := nextP_le s p hp h.1
      exact List.Pairwise.cons (fun y hy => logFrom_after n s _ _ hl y hy) (ih s _ _ hl)
    · exact List.Pairwise.nil
theorem endOf_cons (y : ByteArray × ByteArray × Nat) (q : List (ByteArray × ByteArray × Nat)) (h : q ≠ []) : endOf (y :: q) = endOf q := by
  unfold endOf
  rw [List.getLast?_cons, List.getLast?_eq_some_getLast h]
  rfl
theorem takeWhile_upto : ∀ (l : List (ByteArray × ByteArray × Nat)) (m : Nat), l.Pairwise (fun x y => x.2.2 < y.2.2) → (∃ x ∈ l, x.2.2 = m) → endOf (l.takeWhile (fun x => decide (x.2.2 ≤ m))) = m := by
  intro l
  induction l with
  | nil => intro m _ h; obtain ⟨x, hx, _⟩ := h; cases hx
  | cons y l ih =>
    intro m hp h
    obtain ⟨x, hx, e⟩ := h
    have hy := (List.pairwise_cons.1 hp).1
    rcases List.mem_cons.1 hx with rfl | hx
    · have hn : l.takeWhile (fun z => decide (z.2.2 ≤ m)) = [] := by
        cases l with
        | nil => rfl
        | cons z l =>
          rw [List.takeWhile_cons, if_neg]
          have := hy z List.mem_cons_self
          simp
          omega
      rw [List.takeWhile_cons, if_pos (by simp [e]), hn]
      simp [endOf, e]
    · have hlt := hy x hx
      have := ih m (List.Pairwise.of_cons hp) ⟨x, hx, e⟩
      rw [List.takeWhile_cons, if_pos (by simp; omega)]
      have hne : l.takeWhile (fun z => decide (z.2.2 ≤ m)) ≠ [] := by
        intro h0
        rw [h0] at this
        simp [endOf] at this
        omega
      rw [endOf_cons _ _ hne]; exact this
/-- A log is valid. -/
def endsB (s : ByteArray) : List Int := 0 :: (logAt s 0 0).map (fun x => (x.2.2 : Int))
def validB (d p : ByteArray) (n : Int) : Bool :=
  decide (d.size + p.size ≤ 30000) && (decide (endOf (logAt (d ++ p) 0 0) = (d ++ p).size) && ((endsB (d ++ p)).contains (d.size : Int) && (n == ((logAt (d ++ p) 0 0).length : Int))))
theorem endOf_logAt (d p : ByteArray) : (endsB (d ++ p)).contains (d.size : Int) = decide (endOf (logAt d 0 0) = d.size) := by
  have hpre : Pre d (d ++ p) := ⟨p, rfl⟩
  rw [Bool.eq_iff_iff, List.contains_iff_mem, decide_eq_true_eq]
  unfold endsB
  rw [List.mem_cons, List.mem_map]
  constructor
  · rintro (h | ⟨x, hx, e⟩)
    · have h0 : d.size = 0 := by omega
      rw [logAt_stop d 0 0 (Nat.zero_le _) (stepB_end d 0 0 (by omega)), h0]; rfl
    · rw [logAt_pre hpre]
      refine takeWhile_upto _ _ ?_ ⟨x, hx, by omega⟩
      unfold logAt
      exact logFrom_rising _ _ _ _ (Nat.zero_le _)
  · intro h
    by_cases h0 : logAt d 0 0 = []
    · left
      rw [h0] at h
      have : endOf [] = 0 := rfl
      omega
    · right
      obtain ⟨x, hx, e⟩ := endOf_mem _ h0
      rw [logAt_pre hpre] at hx
      exact ⟨x, (List.takeWhile_sublist _).mem hx, by omega⟩
def validS (d p : ByteArray) (n : Int) : Bool :=
  decide (d.size + p.size ≤ 30000) && (((endOf (logAt (d ++ p) 0 0) : Int) == ((d.size : Int) + (p.size : Int))) && (((endOf (logAt d 0 0) : Int) == (d.size : Int)) && (((logAt (d ++ p) 0 0).length : Int) == n)))
theorem validS_eq (d p : ByteArray) (n : Int) : validS d p n = validB d p n := by
  unfold validS validB
  rw [endOf_logAt, ByteArray.size_append, Bool.eq_iff_iff]
  simp only [Bool.and_eq_true, decide_eq_true_eq, beq_iff_eq]
  constructor
  · rintro ⟨h1, h2, h3, h4⟩; exact ⟨h1, by omega, by omega, by omega⟩
  · rintro ⟨h1, h2, h3, h4⟩; exact ⟨h1, by omega, by omega, by omega⟩
end Go.Proofs.YteapfbfoegphkaaDoor
