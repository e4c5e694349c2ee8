/-
  Plain laws: what appending a record to a log answers.
-/
import Derived.Test.YteapfbfoegphkaaDoorP9
import Derived.Test.YteapfbfoegphkaaDoorP2
namespace Go.Proofs.YteapfbfoegphkaaDoor
open Go.RowKit
set_option linter.unusedVariables false
set_option linter.unusedSimpArgs false

def appOk (d p : ByteArray) (n : Int) (c r : ByteArray) : Bool := validB d p n && recB c r
def appGo (d p : ByteArray) (n : Int) (c r : ByteArray) : Bool := appOk d p n c r && !(decide (n = 60))
def appP (d p : ByteArray) (n : Int) (c r : ByteArray) : ByteArray := if appGo d p n c r then p ++ lineB n c r else p
def appN (d p : ByteArray) (n : Int) (c r : ByteArray) : Int := if appGo d p n c r then n + 1 else n
def appK (d p : ByteArray) (n : Int) (c r : ByteArray) : Int := if appOk d p n c r then (if n = 60 then 2 else 0) else 1
theorem app_bad {d p : ByteArray} {n : Int} {c r : ByteArray} (h : appOk d p n c r = false) : appP d p n c r = p ∧ appN d p n c r = n ∧ appK d p n c r = 1 := by
  unfold appP appN appK appGo
  rw [h]
  simp
theorem app_full {d p : ByteArray} {n : Int} {c r : ByteArray} (h : appOk d p n c r = true) (hn : n = 60) : appP d p n c r = p ∧ appN d p n c r = n ∧ appK d p n c r = 2 := by
  unfold appP appN appK appGo
  rw [h, hn]
  simp
theorem app_go {d p : ByteArray} {n : Int} {c r : ByteArray} (h : appOk d p n c r = true) (hn : ¬ n = 60) : appP d p n c r = p ++ lineB n c r ∧ appN d p n c r = n + 1 ∧ appK d p n c r = 0 := by
  unfold appP appN appK appGo
  rw [h]
  simp [hn]
theorem lineB_size (k : Int) (c r : ByteArray) (hk : 0 ≤ k) (hk1 : k ≤ 1000000) (hc : c.size ≤ 160) (hr : r.size ≤ 200) : (lineB k c r).size ≤ 501 := by
  have z1 := decS_len k (by omega) (by omega)
  have z2 := textB_le (k := k) (by omega) (by omega) hc hr
  have b := sumB_bd (textB k c r)
  have z3 := decS_len (sumB (textB k c r)) (by omega) (by omega)
  have e2 := sealB_size (textB k c r)
  unfold lineB
  rw [ByteArray.size_append]
  have : (⟨#[10]⟩ : ByteArray).size = 1 := rfl
  omega
theorem cell_other {w : World} {p q : Addr} {u v : Value} (h : w.cell? q = some v) (hne : p ≠ q) : (w.setCell p u).cell? q = some v := (World.cell?_setCell_other _ _ _ _ hne).trans h
end Go.Proofs.YteapfbfoegphkaaDoor
