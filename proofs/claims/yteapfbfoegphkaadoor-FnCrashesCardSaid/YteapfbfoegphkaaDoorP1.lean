/-
  Plain laws on bytes and numbers, with no program in sight.
-/
import Derived.WalkKit
import Derived.Lib.Hide
import Derived.Deep.QuietTactic
import Derived.BigQuiet
import Derived.Lib.Strings
import Derived.Lib.IndexMore
import Derived.Lib.Bytealg
import Derived.Lib.ItoaNum
import Derived.Lib.ItoaMem
import Derived.Lib.ItoaLen
import Derived.Lib.LaidTab
import Derived.Sort.Grow
import Derived.Lib.SmallJoins
namespace Go.Proofs.YteapfbfoegphkaaDoor
open Go.RowKit
set_option linter.unusedVariables false
set_option linter.unusedSimpArgs false

theorem ret_bool {a b : Bool} (h : a = b) : Ending.returned (.bool a) = .returned (.bool b) := by rw [h]
theorem ret_int {k : IntKind} {a b : Int} (h : a = b) : Ending.returned (.int k a) = .returned (.int k b) := by rw [h]
theorem ret_str {a b : ByteArray} (h : a = b) : Ending.returned (.string a) = .returned (.string b) := by rw [h]
theorem ret_tup {a b : Array Value} (h : a = b) : Ending.returned (.tuple a) = .returned (.tuple b) := by rw [h]
theorem ret_sb {a b : ByteArray} {x y : Bool} (h : a = b) (k : x = y) : Ending.returned (.tuple #[.string a, .bool x]) = .returned (.tuple #[.string b, .bool y]) := by rw [h, k]
theorem take_snoc (s : ByteArray) (k : Nat) (h : k < s.size) : s.data.toList.take (k + 1) = s.data.toList.take k ++ [s[k]] := by
  rw [List.take_succ_eq_append_getElem (by simpa using h)]; rfl
theorem take_all (s : ByteArray) (k : Nat) (h : ¬ k < s.size) : s.data.toList.take k = s.data.toList :=
  List.take_of_length_le (by simp; omega)
theorem all_at (s : ByteArray) (p : UInt8 → Bool) (k : Nat) (h : k < s.size) (hp : p s[k] = false) : s.data.toList.all p = false := by
  rw [List.all_eq_false]
  refine ⟨s[k], ?_, by simp [hp]⟩
  exact List.getElem_mem (l := s.data.toList) (n := k) (by simpa using h)
theorem any_at (s : ByteArray) (p : UInt8 → Bool) (k : Nat) (h : k < s.size) (hp : p s[k] = true) : s.data.toList.any p = true := by
  rw [List.any_eq_true]
  exact ⟨s[k], List.getElem_mem (l := s.data.toList) (n := k) (by simpa using h), hp⟩
theorem byte_lt (s : ByteArray) (k : Nat) (h : k < s.size) : (s[k].toNat : Int) < 256 := by have := s[k].toNat_lt; omega

/-- Behind a call that leaves what was there: every old cell and mark reads as it did. -/
theorem bcell {W w1 : World} (hb : Below W.heap.size W w1) : (∀ b o, b < W.heap.size → w1.cell? ⟨b, o, none⟩ = W.cell? ⟨b, o, none⟩) ∧ (∀ b o, b < W.heap.size → w1.frozen? ⟨b, o, none⟩ = W.frozen? ⟨b, o, none⟩) :=
  ⟨fun b o h => hb.cell (p := ⟨b, o, none⟩) h, fun b o h => hb.frozen (p := ⟨b, o, none⟩) h⟩

/-- What was there is as it was; there may be more. -/
def Ext (a w : World) : Prop := Below a.heap.size a w
theorem Ext.refl (a : World) : Ext a a := Below.refl _ _
theorem Ext.alloc {a w : World} (h : Ext a w) (o : Obj) : Ext a (w.alloc o) := Below.alloc h (Below.size h) o
theorem Ext.drew {a w : World} (h : Ext a w) : Ext a w.drew := Below.drew h
theorem Ext.drewN {a w : World} (h : Ext a w) : ∀ n, Ext a (w.drewN n) := fun n => ⟨h.os, h.tape, h.output, h.size, h.block⟩
theorem Ext.trans {a b c : World} (h : Ext a b) (k : Ext b c) : Ext a c := Below.trans h (Below.mono k (Below.size h))
theorem Ext.setCell {a w : World} (h : Ext a w) {p : Addr} (hp : a.heap.size ≤ p.block) (u : Value) : Ext a (w.setCell p u) := Below.setCell h hp u
/-- A cell of which nothing is said. -/
def farCell (w : World) (b o : Nat) : Option Value := w.cell? ⟨b, o, none⟩
def farMark (w : World) (b o : Nat) : Bool := w.frozen? ⟨b, o, none⟩
theorem Ext.cells {W w1 : World} (hb : Ext W w1) : (∀ b o, w1.cell? ⟨b, o, none⟩ = if b < W.heap.size then W.cell? ⟨b, o, none⟩ else farCell w1 b o) ∧ (∀ b o, w1.frozen? ⟨b, o, none⟩ = if b < W.heap.size then W.frozen? ⟨b, o, none⟩ else farMark w1 b o) ∧ W.heap.size ≤ w1.heap.size := by
  refine ⟨fun b o => ?_, fun b o => ?_, Below.size hb⟩
  · split
    · exact (bcell hb).1 b o (by assumption)
    · rfl
  · split
    · exact (bcell hb).2 b o (by assumption)
    · rfl

@[go_sem low] theorem cell_alloc_if (w : World) (c : Array Value) (t : TypeId) (n i : Nat) : (w.alloc (.cells c t)).cell? ⟨n, i, none⟩ = if n = w.heap.size then c[i]? else w.cell? ⟨n, i, none⟩ := by
  split
  · rename_i h; exact World.cell?_alloc_at c t n i h
  · rename_i h; exact World.cell?_alloc_old _ _ (a := ⟨n, i, none⟩) h
@[go_sem low] theorem frozen_alloc_if (w : World) (c : Array Value) (t : TypeId) (n i : Nat) : (w.alloc (.cells c t)).frozen? ⟨n, i, none⟩ = if n = w.heap.size then false else w.frozen? ⟨n, i, none⟩ := by
  split
  · rename_i h; exact World.frozen?_alloc_at c t n i h
  · rename_i h; exact World.frozen?_alloc_old _ _ (a := ⟨n, i, none⟩) h

/-- A number lies in a range. -/
def inR (n a b : Int) : Bool := decide (a ≤ n) && decide (n ≤ b)
/-- A byte that may stand in a record. -/
def okByte (c : UInt8) : Bool := inR (c.toNat : Int) 32 126 && !((c.toNat : Int) == 35)
def printed (s : ByteArray) : Bool := s.data.toList.all okByte
def hasByte (s : ByteArray) (b : Int) : Bool := s.data.toList.any (fun c => (c.toNat : Int) == b)
def fits (s : ByteArray) (m : Int) : Bool := decide ((s.size : Int) ≤ m)
def someB (s : ByteArray) : Bool := !s.data.toList.isEmpty
def cmdB (c : ByteArray) : Bool := inR (c.size : Int) 1 160 && printed c && !hasByte c 64
/-- A record is valid. -/
def recB (c r : ByteArray) : Bool := cmdB c && fits r 200 && printed r

theorem recB_spec (c r : ByteArray) : recB c r = (someB c && (printed c && fits c 160) && !hasByte c 64 && (printed r && fits r 200)) := by
  have h : inR (c.size : Int) 1 160 = (someB c && fits c 160) := by
    unfold inR someB fits
    have e : c.size = c.data.toList.length := by simp
    rw [e]
    cases c.data.toList <;> simp; omega
  unfold recB cmdB
  rw [h]
  cases someB c <;> cases printed c <;> cases fits c 160 <;> cases hasByte c 64 <;> cases printed r <;> cases fits r 200 <;> rfl
theorem indexByte_nonneg (l : List UInt8) (b : UInt8) : decide (0 ≤ Lib.indexByte l b) = l.any (fun c => (c.toNat : Int) == (b.toNat : Int)) := by
  induction l with
  | nil => rfl
  | cons c l ih =>
    have g := Lib.indexByte_ge l b
    unfold Lib.indexByte
    rw [List.any_cons, ← ih]
    by_cases h : c = b
    · subst h; simp
    · have h' : (c == b) = false := by simpa using h
      have h2 : ((c.toNat : Int) == (b.toNat : Int)) = false := by
        simp only [beq_eq_false_iff_ne, ne_eq, Int.natCast_inj]
        exact fun e => h (UInt8.toNat_inj.1 e)
      rw [h', h2]
      by_cases h3 : Lib.indexByte l b = -1
      · simp [h3]
      · have h3' : (Lib.indexByte l b == -1) = false := by simpa using h3
        rw [h3']
        simp
        omega
theorem contains_one (s : ByteArray) (b : UInt8) : decide (0 ≤ Lib.indexByte s.data.toList b) = hasByte s (b.toNat : Int) := indexByte_nonneg _ _
/-- A cell that there was is as it was. -/
theorem Ext.keep {a w : World} (h : Ext a w) {p : Addr} {v : Value} (hc : a.cell? p = some v) : w.cell? p = some v :=
  (Below.cell h (World.block_lt_of_cell? a p hc)).trans hc
theorem Ext.var {P : Program} {a w : World} (h : Ext a w) {g : Nat} {n : String} {cs : Array Value} (hg : P.globalNamed n = some g) (hv : a.var? P n = some cs) : w.var? P n = some cs :=
  Joins.var_stays hg hv h (Nat.le_refl _)
theorem Ext.grow {a w : World} (h : Ext a w) (os : Array Obj) : Ext a (Sort.grow w os) := by
  refine Ext.trans h ⟨rfl, rfl, rfl, by simp [Sort.grow], fun k hk => ?_⟩
  show (w.heap ++ os)[k]? = w.heap[k]?
  rw [Array.getElem?_append_left hk]

theorem bytes_mk (s : ByteArray) : (⟨s.data.toList.toArray⟩ : ByteArray) = s := by cases s; simp
theorem bytes_ext {a b : ByteArray} (h : a.data.toList = b.data.toList) : a = b := by rw [← bytes_mk a, ← bytes_mk b, h]
theorem app_toList (a b : ByteArray) : (a ++ b).data.toList = a.data.toList ++ b.data.toList := Joins.data_append a b
theorem digit_piece : ∀ u : Fin 10, (⟨#[48, 49, 50, 51, 52, 53, 54, 55, 56, 57]⟩ : ByteArray).extract u.val (u.val + 1) = ⟨#[UInt8.ofNat (48 + u.val)]⟩ := by decide
/-- A number in decimal. -/
def decS (n : Int) : ByteArray := ⟨(Lib.itoa n).toArray⟩
theorem decS_small (n : Int) (h0 : 0 ≤ n) (h : n < 10) : (⟨#[48, 49, 50, 51, 52, 53, 54, 55, 56, 57]⟩ : ByteArray).extract n.toNat (n.toNat + 1) = decS n := by
  obtain ⟨u, rfl⟩ := Int.eq_ofNat_of_zero_le h0
  unfold decS
  rw [Int.toNat_natCast, Lib.itoa_nonneg, Lib.decDigits_one (by omega)]
  exact digit_piece ⟨u, by omega⟩
theorem decS_big (n : Int) (h : 10 ≤ n) : decS (n / 10) ++ decS (n % 10) = decS n := by
  obtain ⟨u, rfl⟩ := Int.eq_ofNat_of_zero_le (show 0 ≤ n by omega)
  have e1 : ((u : Int) / 10) = ((u / 10 : Nat) : Int) := by omega
  have e2 : ((u : Int) % 10) = ((u % 10 : Nat) : Int) := by omega
  unfold decS
  rw [e1, e2, Lib.itoa_nonneg, Lib.itoa_nonneg, Lib.itoa_nonneg, Lib.decDigits_one (Nat.mod_lt u (by decide))]
  refine bytes_ext ?_
  rw [app_toList]
  conv => rhs; rw [Lib.decDigits, dif_neg (by omega)]
theorem decS_neg (n : Int) (h : n < 0) : (⟨#[45]⟩ : ByteArray) ++ decS (-n) = decS n := by
  obtain ⟨u, hu⟩ := Int.eq_ofNat_of_zero_le (show 0 ≤ -n by omega)
  have e : n = -(u : Int) := by omega
  subst e
  unfold decS
  rw [Int.neg_neg, Lib.itoa_neg u (by omega), Lib.itoa_nonneg]
  refine bytes_ext ?_
  rw [app_toList]
  rfl
theorem decS_len (n : Int) (h0 : -9223372036854775808 ≤ n) (h1 : n ≤ 9223372036854775807) : (decS n).size ≤ 21 := by
  have := Lib.itoa_length_le n h0 h1
  show (Lib.itoa n).toArray.size ≤ 21
  simpa using this
def sumL (h : Int) (l : List UInt8) : Int := l.foldl (fun h c => (41 * h + (c.toNat : Int) + 1) % 999979) h
def sumB (s : ByteArray) : Int := sumL 7 s.data.toList
def sealB (s : ByteArray) : ByteArray := s ++ ⟨#[35]⟩ ++ decS (sumB s)
theorem sealB_size (s : ByteArray) : ((sealB s).size : Int) = (s.size : Int) + 1 + ((decS (sumB s)).size : Int) := by
  unfold sealB
  simp [ByteArray.size_append, ByteArray.size_mk']
theorem sumL_snoc (h : Int) (l : List UInt8) (c : UInt8) : sumL h (l ++ [c]) = (41 * sumL h l + (c.toNat : Int) + 1) % 999979 := by
  simp [sumL]
theorem sumL_bd (h : Int) (l : List UInt8) (h0 : 0 ≤ h) (h1 : h < 999979) : 0 ≤ sumL h l ∧ sumL h l < 999979 := by
  induction l generalizing h with
  | nil => exact ⟨h0, h1⟩
  | cons c l ih =>
    unfold sumL at ih ⊢
    rw [List.foldl_cons]
    exact ih _ (by omega) (by omega)
theorem sumB_bd (s : ByteArray) : 0 ≤ sumB s ∧ sumB s < 999979 := sumL_bd 7 _ (by decide) (by decide)
end Go.Proofs.YteapfbfoegphkaaDoor
