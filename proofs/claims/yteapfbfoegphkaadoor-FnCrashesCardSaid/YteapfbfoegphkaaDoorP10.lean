/-
  Bytes that lie in a row: made from a string, changed at one place, made a string again.
-/
import Derived.Test.YteapfbfoegphkaaDoorP9
import Derived.Laws.IdiomStrings
namespace Go.Proofs.YteapfbfoegphkaaDoor
open Go.RowKit
set_option linter.unusedVariables false
set_option linter.unusedSimpArgs false

/-- From block g on lie the bytes of s. -/
def Lies (w : World) (g : Nat) (s : ByteArray) : Prop := ∀ j (h : j < s.data.size), w.cell? ⟨g, j, none⟩ = some (.int .u8 (s.data[j].toNat : Int))
theorem lies_new (w : World) (s : ByteArray) (cap : Nat) (e : TypeId) (fz : Nat × Nat) : Lies (w.alloc (.cells (bytesRow s cap) e fz)) w.heap.size s := by
  intro j h
  rw [World.cell?_alloc_mark, bytesRow_at s cap j h]
theorem lies_set {w : World} {g : Nat} {s : ByteArray} (h : Lies w g s) (j : Nat) (hj : j < s.data.size) (x : UInt8) : Lies (w.setCell ⟨g, j, none⟩ (.int .u8 (x.toNat : Int))) g (setB s j x) := by
  intro i hi
  have hi' : i < s.data.size := by simpa [setB] using hi
  have e : (setB s j x).data[i] = if i = j then x else s.data[i] := by
    simp only [setB, Array.getElem_setIfInBounds hi', eq_comm]
  rw [e]
  by_cases hij : i = j
  · subst hij
    rw [if_pos rfl]
    exact World.cell?_setCell_same _ _ _ (h i hj)
  · rw [if_neg hij, World.cell?_setCell_other _ _ _ _ (by simp only [ne_eq, Addr.mk.injEq, true_and, and_true]; omega)]
    exact h i hi'
theorem lies_back {P : Program} {w : World} {g : Nat} {s : ByteArray} (h : Lies w g s) (src dst e : TypeId) (cap : Nat) (hs : P.underlying src = some (.slice e)) (he : P.underlying e = some (.int .u8)) (hd : P.underlying dst = some .string) :
    (convert src dst (.slice (some ⟨g, 0, none⟩) s.size cap)).run P w = .ok (.string s) w := by
  have hl : s.size = s.data.toList.length := by simp
  rw [hl, run_convert_bytes_back w src dst e ⟨g, 0, none⟩ cap s.data.toList hs he hd]
  intro j hj
  have e1 : ((⟨g, 0, none⟩ : Addr).add j) = ⟨g, j, none⟩ := by cases j <;> simp [Addr.add]
  rw [e1, h j (by simpa using hj)]
  simp
/-- A string's bytes in a new block. -/
theorem wpList_bytes {P : Program} {w : World} {ops : Array Oper} {rest : List Oper} {o : Oper} {a : Act} {Q : Exit → Act → World → Prop} (hgd : o.guard = none) (src dst e : TypeId) (x : Operand)
    (ho : o.op = .convert src dst x) (s : ByteArray) (hx : a.eval x = .string s) (hs : P.underlying src = some .string) (hd : P.underlying dst = some (.slice e)) (he : P.underlying e = some (.int .u8)) (G : Nat) (hG : w.heap.size = G)
    (h : ∀ cap w', Ext w w' → w'.heap.size = G + 1 → Lies w' G s → (∀ j, j < s.data.size → w'.frozen? ⟨G, j, none⟩ = false) → wpList P ops Q rest (a.put o.dst (.slice (some ⟨G, 0, none⟩) s.size cap)) w') : wpList P ops Q (o :: rest) a w := by
  subst hG
  refine wpList_plain hgd fun K hK => ?_
  unfold Oper.wp execOp
  simp only [ho, hx, Sem.run_bind, run_bytes_of_string w src dst e s hs hd he, Result.andThen_ok, Sem.run_pure]
  refine hK _ _ (h _ _ ((Ext.refl w).drew.alloc _) (by simp) (lies_new w.drew s _ e _) fun j hj => ?_)
  have hf := World.frozen?_alloc_mark w.drew (bytesRow s (grownCap w s.size 0 e)) e ((bytesRow s (grownCap w s.size 0 e)).size) ((bytesRow s (grownCap w s.size 0 e)).size + 1) j
  have hb : (bytesRow s (grownCap w s.size 0 e)).size ≥ s.data.size := by simp [bytesRow]
  refine hf.trans ?_
  simp
  omega
theorem setB_size (s : ByteArray) (j : Nat) (x : UInt8) : (setB s j x).size = s.size := by
  show (s.data.setIfInBounds j x).size = s.data.size
  simp
theorem bytes_run {P : Program} (w : World) (src dst e : TypeId) (s : ByteArray) (hs : P.underlying src = some .string) (hd : P.underlying dst = some (.slice e)) (he : P.underlying e = some (.int .u8)) :
    ∃ cap w', (convert src dst (.string s)).run P w = .ok (.slice (some ⟨w.heap.size, 0, none⟩) s.size cap) w' ∧ Ext w w' ∧ w'.heap.size = w.heap.size + 1 ∧ Lies w' w.heap.size s ∧ ∀ j, j < s.data.size → w'.frozen? ⟨w.heap.size, j, none⟩ = false := by
  refine ⟨_, _, run_bytes_of_string w src dst e s hs hd he, (Ext.refl w).drew.alloc _, by simp, lies_new w.drew s _ e _, fun j hj => ?_⟩
  have hf := World.frozen?_alloc_mark w.drew (bytesRow s (grownCap w s.size 0 e)) e ((bytesRow s (grownCap w s.size 0 e)).size) ((bytesRow s (grownCap w s.size 0 e)).size + 1) j
  have hb : (bytesRow s (grownCap w s.size 0 e)).size ≥ s.data.size := by simp [bytesRow]
  refine hf.trans ?_
  simp
  omega
theorem spoil_size (s : ByteArray) : (spoil s).size = s.size := setB_size _ _ _
theorem spoil_app (d s : ByteArray) (h : 0 < s.size) : spoil (d ++ s) = d ++ spoil s := by
  unfold spoil
  have e1 : (d ++ s).size - 1 = d.size + (s.size - 1) := by rw [ByteArray.size_append]; omega
  have hd : d.data.toList.length = d.size := by simp
  have e2 : byteAt (d ++ s) (d.size + (s.size - 1)) = byteAt s (s.size - 1) := by
    unfold byteAt
    rw [app_toList, List.getD_eq_getElem?_getD, List.getElem?_append_right (by omega), hd, Nat.add_sub_cancel_left, List.getD_eq_getElem?_getD]
  rw [e1, e2]
  apply ByteArray.ext
  apply Array.toList_inj.1
  rw [app_toList]
  simp only [setB, Array.toList_setIfInBounds]
  rw [app_toList, List.set_append_right _ _ (by omega), hd, Nat.add_sub_cancel_left]
/-- Bytes are made a string again. -/
theorem wpList_back {P : Program} {w : World} {ops : Array Oper} {rest : List Oper} {o : Oper} {a : Act} {Q : Exit → Act → World → Prop} (hgd : o.guard = none) (src dst e : TypeId) (x : Operand)
    (ho : o.op = .convert src dst x) {g : Nat} {s : ByteArray} (hl : Lies w g s) (n cap : Nat) (hn : s.size = n) (hx : a.eval x = .slice (some ⟨g, 0, none⟩) n cap) (hs : P.underlying src = some (.slice e)) (he : P.underlying e = some (.int .u8)) (hd : P.underlying dst = some .string)
    (h : wpList P ops Q rest (a.put o.dst (.string s)) w) : wpList P ops Q (o :: rest) a w := by
  subst hn
  refine wpList_plain hgd fun K hK => ?_
  unfold Oper.wp execOp
  simp only [ho, hx, Sem.run_bind, lies_back hl src dst e cap hs he hd, Result.andThen_ok, Sem.run_pure]
  exact hK _ _ h
theorem lies_at {w : World} {g : Nat} {s : ByteArray} (h : Lies w g s) (j : Nat) (hj : j < s.size) : w.cell? ⟨g, j, none⟩ = some (.int .u8 ((byteAt s j).toNat : Int)) := by
  have hj' : j < s.data.size := hj
  rw [h j hj']
  unfold byteAt
  rw [List.getD_eq_getElem?_getD, List.getElem?_eq_getElem (by simpa using hj')]
  simp
theorem flip_byte (x : UInt8) : (255 : Int) - (x.toNat : Int) = ((255 - x : UInt8).toNat : Int) ∧ 0 ≤ (255 : Int) - (x.toNat : Int) ∧ (255 : Int) - (x.toNat : Int) ≤ 255 := by
  have h := x.toNat_lt
  have : (255 - x : UInt8).toNat = 255 - x.toNat := by
    rw [UInt8.toNat_sub]
    have : (255 : UInt8).toNat = 255 := rfl
    rw [this]
    omega
  omega
end Go.Proofs.YteapfbfoegphkaaDoor
