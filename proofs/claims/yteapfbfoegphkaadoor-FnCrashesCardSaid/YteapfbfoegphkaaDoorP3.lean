/-
  Plain laws on splitting, with no program in sight; rows that a call owns.
-/
import Derived.Test.YteapfbfoegphkaaDoorP2
import Derived.Deep.AppendLies
namespace Go.Proofs.YteapfbfoegphkaaDoor
open Go.RowKit
set_option linter.unusedVariables false
set_option linter.unusedSimpArgs false

/-- The parts of a list of bytes between a byte; acc: what the first part holds already. -/
def pieces (b : Int) : List UInt8 → List UInt8 → List (List UInt8)
  | [], acc => [acc]
  | c :: l, acc => if (c.toNat : Int) == b then acc :: pieces b l [] else pieces b l (acc ++ [c])
def mkB (l : List UInt8) : ByteArray := ⟨l.toArray⟩
def piecesB (s : ByteArray) (b : Int) (f k : Nat) : List ByteArray := (pieces b (s.data.toList.drop k) ((s.data.toList.drop f).take (k - f))).map mkB
def splitB (s : ByteArray) (b : Int) : List ByteArray := piecesB s b 0 0
theorem extract_mk (s : ByteArray) (f k : Nat) : s.extract f k = mkB ((s.data.toList.drop f).take (k - f)) := by
  refine bytes_ext ?_
  rw [Lib.extract_data]
  rfl
theorem drop_cons (s : ByteArray) (k : Nat) (h : k < s.size) : s.data.toList.drop k = s[k] :: s.data.toList.drop (k + 1) := by
  rw [List.drop_eq_getElem_cons (by simpa using h)]; rfl
theorem piecesB_hit (s : ByteArray) (b : Int) (f k : Nat) (h : k < s.size) (hc : ((s[k].toNat : Int) == b) = true) : piecesB s b f k = s.extract f k :: piecesB s b (k + 1) (k + 1) := by
  unfold piecesB
  rw [drop_cons s k h, pieces, if_pos hc, List.map_cons, ← extract_mk]
  simp
theorem piecesB_miss (s : ByteArray) (b : Int) (f k : Nat) (h : k < s.size) (hf : f ≤ k) (hc : ((s[k].toNat : Int) == b) = false) : piecesB s b f k = piecesB s b f (k + 1) := by
  unfold piecesB
  rw [drop_cons s k h, pieces, if_neg (by simp [hc])]
  congr 2
  rw [show k + 1 - f = (k - f) + 1 by omega, List.take_succ_eq_append_getElem (by simp; omega)]
  congr 2
  simp only [List.getElem_drop]
  have e : f + (k - f) = k := by omega
  simp only [e]
  rfl
theorem piecesB_end (s : ByteArray) (b : Int) (f : Nat) (k : Nat) (h : ¬ k < s.size) (hk : k ≤ s.size) : piecesB s b f k = [s.extract f s.size] := by
  have e : k = s.size := by omega
  subst e
  unfold piecesB
  rw [List.drop_eq_nil_of_le (by simp), pieces, List.map_cons, ← extract_mk]
  rfl

/-- What is owned stays owned while only blocks are added. -/
theorem ownsRow_ext {w w1 : World} {base : Nat} {e : TypeId} {size : Nat} {v : Value} {n : Nat} {xs : List Value} (h : w.ownsRow base e size v n xs) (hb : Ext w w1) : w1.ownsRow base e size v n xs :=
  h.kept (w' := w1) (row := none) ⟨hb.os, hb.tape, hb.output, Below.size hb, fun k hk _ => hb.block k hk⟩ (by cases v.ownBlock <;> simp)
/-- A write to an own row changes nothing that there was. -/
theorem Ext.grown {a w w' : World} {v : Value} {base : Nat} {e : TypeId} {size n : Nat} {xs : List Value} (h : Ext a w) (hg : w.grownBy w' v.ownBlock) (ho : w.ownsRow base e size v n xs) (hb : a.heap.size ≤ base) : Ext a w' :=
  Below.grown h hg (Below.size h) fun k hk => Nat.le_trans hb (ho.lt k hk).1
theorem one_cell {w : World} {b : Nat} {cs : List Value} {t : TypeId} (hb : b = w.heap.size) : ∀ j u, cs[j]? = some u → (w.alloc (.cells cs.toArray t)).cell? ((⟨b, 0, none⟩ : Addr).add j) = some u := by
  intro j u h
  subst hb
  have e : ((⟨w.heap.size, 0, none⟩ : Addr).add j) = ⟨w.heap.size, j, none⟩ := by
    cases j <;> simp [Addr.add]
  rw [e, World.cell?_alloc_at cs.toArray t w.heap.size j rfl]
  simpa using h
theorem own_cell {w : World} {base g cap : Nat} {e : TypeId} {size n : Nat} {xs : List Value} (h : w.ownsRow base e size (.slice (some ⟨g, 0, none⟩) n cap) n xs) (j : Nat) (u : Value) (hj : xs[j]? = some u) : w.cell? ⟨g, j, none⟩ = some u := by
  have h := h.cells (g := g) rfl j u hj
  have e : ((⟨g, 0, none⟩ : Addr).add j) = ⟨g, j, none⟩ := by cases j <;> simp [Addr.add]
  rw [e] at h
  exact h
/-- A cell that there was is marked as it was. -/
theorem Ext.mark {W w1 : World} (h : Ext W w1) {b o : Nat} {v : Value} {x : Bool} (hc : W.cell? ⟨b, o, none⟩ = some v) (hf : W.frozen? ⟨b, o, none⟩ = x) : w1.frozen? ⟨b, o, none⟩ = x :=
  (Below.frozen (p := ⟨b, o, none⟩) h (World.block_lt_of_cell? W ⟨b, o, none⟩ hc)).trans hf
/-- A cell is as it was behind a store into another block. -/
theorem store_keep {w : World} {b o b' o' : Nat} {u v : Value} (h : w.cell? ⟨b, o, none⟩ = some v) (hne : b' ≠ b) : (w.setCell ⟨b', o', none⟩ u).cell? ⟨b, o, none⟩ = some v :=
  (World.cell?_setCell_other _ _ _ _ (fun e => hne (congrArg Addr.block e))).trans h
theorem own_lt {w : World} {base g n cap : Nat} {e : TypeId} {size : Nat} {xs : List Value} (h : w.ownsRow base e size (.slice (some ⟨g, 0, none⟩) n cap) n xs) : base ≤ g ∧ g < w.heap.size := h.lt g rfl
theorem own_kept {w w' : World} {base g g' n n' cap cap' : Nat} {e : TypeId} {size : Nat} {xs : List Value} (h : w.ownsRow base e size (.slice (some ⟨g, 0, none⟩) n cap) n xs) (hg : w.grownBy w' (Value.slice (some ⟨g', 0, none⟩) n' cap').ownBlock) (hne : g ≠ g') : w'.ownsRow base e size (.slice (some ⟨g, 0, none⟩) n cap) n xs :=
  h.kept hg (.inr (by simp only [Value.ownBlock, ne_eq, Option.some.injEq]; exact hne))
end Go.Proofs.YteapfbfoegphkaaDoor
