/-
  Plain laws on cutting, on reading a record back and on logs, with no program in sight.
-/
import Derived.Test.YteapfbfoegphkaaDoorP3
import Derived.Lib.IndexBytes
import Derived.Lib.IndexMore
namespace Go.Proofs.YteapfbfoegphkaaDoor
open Go.RowKit
set_option linter.unusedVariables false
set_option linter.unusedSimpArgs false

/-- What stands before the first byte c, and behind it. -/
def upL (c : Int) (l : List UInt8) : List UInt8 := l.takeWhile fun x => !((x.toNat : Int) == c)
def behL (c : Int) (l : List UInt8) : List UInt8 := (l.dropWhile fun x => !((x.toNat : Int) == c)).tail
def cutA (s : ByteArray) (c : Int) : ByteArray := mkB (upL c s.data.toList)
def cutZ (s : ByteArray) (c : Int) : ByteArray := mkB (behL c s.data.toList)

theorem byteEq (x c : UInt8) : ((x.toNat : Int) == (c.toNat : Int)) = (x == c) := by
  rw [Bool.eq_iff_iff]
  rw [beq_iff_eq, beq_iff_eq, Int.natCast_inj, UInt8.toNat_inj]
theorem cut_up (l : List UInt8) (c : UInt8) : (Lib.cut l [c]) = (upL c.toNat l, behL c.toNat l, l.any (fun x => (x.toNat : Int) == c.toNat)) := by
  unfold Lib.cut
  rw [Lib.index_one]
  have key : ∀ l : List UInt8, (0 ≤ Lib.indexByte l c ∧ l.take (Lib.indexByte l c).toNat = upL c.toNat l ∧ l.drop ((Lib.indexByte l c).toNat + 1) = behL c.toNat l ∧ l.any (fun x => (x.toNat : Int) == c.toNat) = true) ∨ (Lib.indexByte l c = -1 ∧ upL c.toNat l = l ∧ behL c.toNat l = [] ∧ l.any (fun x => (x.toNat : Int) == c.toNat) = false) := by
    intro l
    induction l with
    | nil => exact .inr ⟨rfl, rfl, rfl, rfl⟩
    | cons b l ih =>
      unfold Lib.indexByte upL behL
      simp only [byteEq] at ih ⊢
      by_cases h : b = c
      · subst h
        left
        simp
      · have hb : (b == c) = false := by simpa using h
        unfold upL behL at ih
        simp only [byteEq] at ih
        rcases ih with ⟨h1, h2, h3, h4⟩ | ⟨h1, h2, h3, h4⟩
        · left
          have n1 : (Lib.indexByte l c == -1) = false := by simp; omega
          rw [hb, n1]
          simp only [Bool.false_eq_true, if_false, List.takeWhile_cons, List.dropWhile_cons, hb, Bool.not_false, if_true, List.any_cons, h4, Bool.or_true, and_true]
          have e : (Lib.indexByte l c + 1).toNat = (Lib.indexByte l c).toNat + 1 := by omega
          rw [e, List.take_succ_cons, List.drop_succ_cons, h2, h3]
          exact ⟨by omega, rfl, rfl⟩
        · right
          rw [hb, h1]
          simp only [Bool.false_eq_true, if_false, List.takeWhile_cons, List.dropWhile_cons, hb, Bool.not_false, if_true, List.any_cons, h4, Bool.or_false, and_true]
          exact ⟨rfl, by rw [h2], h3⟩
  rcases key l with ⟨h1, h2, h3, h4⟩ | ⟨h1, h2, h3, h4⟩
  · rw [if_pos h1, h2, h4]
    simp only [List.length_singleton]
    rw [h3]
  · rw [if_neg (by omega), h2, h3, h4]

theorem pieces_head (b : Int) : ∀ (l acc : List UInt8), ∃ r, pieces b l acc = (acc ++ upL b l) :: r ∧ (r = [] ↔ l.any (fun x => (x.toNat : Int) == b) = false) := by
  intro l
  induction l with
  | nil => intro acc; exact ⟨[], by simp [pieces, upL], by simp⟩
  | cons c l ih =>
    intro acc
    unfold pieces upL
    by_cases h : ((c.toNat : Int) == b) = true
    · obtain ⟨r, hr, _⟩ := ih []
      refine ⟨pieces b l [], by simp [h], ?_⟩
      rw [hr]; simp [h]
    · have h' : ((c.toNat : Int) == b) = false := by simpa using h
      obtain ⟨r, hr, hi⟩ := ih (acc ++ [c])
      refine ⟨r, ?_, by rw [hi]; simp [h']⟩
      rw [if_neg h, hr, List.takeWhile_cons, h']
      simp [upL]
theorem splitB_head (s : ByteArray) (b : Int) : ∃ r, splitB s b = cutA s b :: r ∧ (r = [] ↔ hasByte s b = false) := by
  obtain ⟨r, hr, hi⟩ := pieces_head b s.data.toList []
  refine ⟨r.map mkB, ?_, ?_⟩
  · unfold splitB piecesB
    simp only [List.drop_zero, Nat.sub_self, List.take_zero]
    rw [hr]; rfl
  · rw [List.map_eq_nil_iff, hi]; rfl
theorem upL_eq (c : Int) (l : List UInt8) (h : l.any (fun x => (x.toNat : Int) == c) = true) (x : UInt8) (hx : (x.toNat : Int) = c) : l = upL c l ++ x :: behL c l := by
  induction l with
  | nil => simp at h
  | cons a l ih =>
    unfold upL behL
    by_cases ha : ((a.toNat : Int) == c) = true
    · have : a = x := by
        rw [← UInt8.toNat_inj]
        have := beq_iff_eq.1 ha
        omega
      subst this
      simp [ha]
    · have ha' : ((a.toNat : Int) == c) = false := by simpa using ha
      rw [List.any_cons, ha', Bool.false_or] at h
      simp only [List.takeWhile_cons, List.dropWhile_cons, ha', Bool.not_false, if_true, List.cons_append]
      congr 1
      exact ih h
theorem upL_no (c : Int) (l : List UInt8) : (upL c l).any (fun x => (x.toNat : Int) == c) = false := by
  have h := List.all_takeWhile (p := fun x : UInt8 => !((x.toNat : Int) == c)) (l := l)
  unfold upL
  rw [List.any_eq_false]
  intro x hx
  have := List.all_eq_true.1 h x hx
  simpa using this
theorem upL_app (c : Int) (a z : List UInt8) (x : UInt8) (hx : (x.toNat : Int) = c) (ha : a.any (fun x => (x.toNat : Int) == c) = false) : upL c (a ++ x :: z) = a ∧ behL c (a ++ x :: z) = z := by
  unfold upL behL
  induction a with
  | nil => simp [hx]
  | cons b a ih =>
    rw [List.any_cons, Bool.or_eq_false_iff] at ha
    obtain ⟨i1, i2⟩ := ih ha.2
    simp only [List.cons_append, List.takeWhile_cons, List.dropWhile_cons, ha.1, Bool.not_false, if_true]
    exact ⟨by rw [i1], i2⟩
theorem cutA_no (s : ByteArray) (c : Int) : hasByte (cutA s c) c = false := upL_no c _
theorem cut_back (s : ByteArray) (x : UInt8) (h : hasByte s (x.toNat : Int) = true) : s = cutA s x.toNat ++ ⟨#[x]⟩ ++ cutZ s x.toNat := by
  refine bytes_ext ?_
  rw [app_toList, app_toList]
  have := upL_eq (x.toNat : Int) s.data.toList h x rfl
  simpa [cutA, cutZ, mkB] using this
theorem cut_app (a z : ByteArray) (x : UInt8) (h : hasByte a (x.toNat : Int) = false) : cutA (a ++ ⟨#[x]⟩ ++ z) x.toNat = a ∧ cutZ (a ++ ⟨#[x]⟩ ++ z) x.toNat = z := by
  have e : (a ++ ⟨#[x]⟩ ++ z : ByteArray).data.toList = a.data.toList ++ x :: z.data.toList := by
    rw [app_toList, app_toList]; simp
  obtain ⟨h1, h2⟩ := upL_app (x.toNat : Int) a.data.toList z.data.toList x rfl h
  unfold cutA cutZ
  rw [e, h1, h2]
  exact ⟨bytes_mk a, bytes_mk z⟩
theorem cutA_size (s : ByteArray) (c : Int) : (cutA s c).size ≤ s.size := by
  have : (upL c s.data.toList).length ≤ s.data.toList.length := by unfold upL; exact (List.takeWhile_sublist _).length_le
  simpa [cutA, mkB, ByteArray.size_mk'] using this
theorem cutZ_size (s : ByteArray) (c : Int) : (cutZ s c).size ≤ s.size := by
  have : (behL c s.data.toList).length ≤ s.data.toList.length := by
    unfold behL
    rw [List.length_tail]
    have := (List.dropWhile_sublist (l := s.data.toList) (fun x => !((x.toNat : Int) == c))).length_le
    omega
  simpa [cutZ, mkB, ByteArray.size_mk'] using this
end Go.Proofs.YteapfbfoegphkaaDoor
