/-
  Walks: drawn records and logs.
-/
import Derived.Test.YteapfbfoegphkaaDoorW16
import Derived.Test.YteapfbfoegphkaaDoorW13
import Derived.Test.YteapfbfoegphkaaDoorW11
namespace Go.Proofs.YteapfbfoegphkaaDoor
open Go.RowKit
set_option linter.unusedVariables false
set_option linter.unusedSimpArgs false
attribute [local irreducible] decS sumL sumB sealB textB lineB encOk encStr acOk acStr pieces mkB piecesB splitB upL behL cutA cutZ verOk verStr rcI rrI okI aheadS preS restS atS rcS rrS okS inR okByte printed hasByte fits someB cmdB recB
attribute [local irreducible] validB endsB logAt

theorem grown_mark {w w' : World} {g b o : Nat} {x : Bool} {v : Value} (hg : w.grownBy w' (some g)) (hc : w.cell? ⟨b, o, none⟩ = some v) (hf : w.frozen? ⟨b, o, none⟩ = x) (hne : b ≠ g) : w'.frozen? ⟨b, o, none⟩ = x :=
  (World.frozen?_of_block (hg.block b (World.block_lt_of_cell? w ⟨b, o, none⟩ hc) (by simpa using hne))).trans hf
theorem Cur.lt {w : World} {g n k lim : Nat} {a : Option Addr} (hc : Cur w g a n k lim) : g < w.heap.size := by
  obtain ⟨i, s, q0, _⟩ := hc.cells
  exact World.block_lt_of_cell? w ⟨g, 0, none⟩ q0
theorem Cur.blk {w : World} {g n k lim : Nat} {a : Option Addr} (hc : Cur w g a n k lim) : ∀ b o, a = some ⟨b, o, none⟩ → 0 < n → b < w.heap.size := by
  intro b o ha hn
  rcases hc.bytes with h | ⟨b', o', ha', h⟩
  · omega
  · rw [ha] at ha'
    simp at ha'
    obtain ⟨rfl, rfl⟩ := ha'
    obtain ⟨x, hx, _⟩ := h 0 hn
    exact World.block_lt_of_cell? w ⟨b, o + 0, none⟩ hx
theorem Cur.far {w : World} {g n k lim B : Nat} {a : Option Addr} (hc : Cur w g a n k lim) (hB : ∀ b o, a = some ⟨b, o, none⟩ → 0 < n → b < B) (hg : g < B) (b o : Nat) (u : Value) (hb : B ≤ b) : Cur (w.setCell ⟨b, o, none⟩ u) g a n k lim := by
  obtain ⟨i, s, q0, q1, q2, i0, i1, s0, s1⟩ := hc.cells
  refine ⟨hc.len, ?_, hc.apart, ⟨i, s, store_keep q0 (by omega), store_keep q1 (by omega), store_keep q2 (by omega), i0, i1, s0, s1⟩, fun o => (World.frozen?_setCell _ _ _ _).trans (hc.free o)⟩
  rcases hc.bytes with h | ⟨b', o', ha', h⟩
  · exact .inl h
  · refine .inr ⟨b', o', ha', fun i hi => ?_⟩
    obtain ⟨x, hx, hx2⟩ := h i hi
    exact ⟨x, store_keep hx (by have := hB b' o' ha' (by omega); omega), hx2⟩
theorem grown_far {w w' : World} {g : Nat} (h : w.grownBy w' (some g)) (b o : Nat) (u : Value) (hb : w.heap.size ≤ b) : w.grownBy (w'.setCell ⟨b, o, none⟩ u) (some g) :=
  ⟨h.os, h.tape, h.output, by rw [World.size_setCell]; exact h.size, fun k hk hne => (heap_setCell_other w' ⟨b, o, none⟩ k u (by simp; omega)).trans (h.block k hk hne)⟩
theorem strs_at (w : World) (t : TypeId) (b : Nat) (l : List ByteArray) (P : ByteArray → Prop) (h : ∀ s ∈ l, P s) (hb : b = w.heap.size) : ∀ i, i < l.length → ∃ x : ByteArray, (w.alloc (.cells (l.map Value.string).toArray t)).cell? ⟨b, i, none⟩ = some (.string x) ∧ P x := by
  intro i hi
  refine ⟨l[i], ?_, h _ (List.getElem_mem _)⟩
  rw [World.cell?_alloc_at _ t b i hb]
  simp [hi]
theorem lies_zeros (w : World) (t : TypeId) (b : Nat) (hb : b = w.heap.size) : Lies (w.alloc (.cells #[.int .u8 0, .int .u8 0, .int .u8 0] t)) b ⟨#[0, 0, 0]⟩ := by
  intro j hj
  have : j = 0 ∨ j = 1 ∨ j = 2 := by simp at hj; omega
  rw [World.cell?_alloc_at _ t b j hb]
  rcases this with rfl | rfl | rfl <;> rfl
set_option maxRecDepth 100000 in
set_option maxHeartbeats 1600000 in
theorem c_spec_l1Cur_logRecord (g n k lim : Nat) (a : Option Addr) (w : World) (hc : Cur w g a n k lim) (hlim : lim ≤ 100000) :
    Calls Tryd.prog 57 #[.pointer (some ⟨g, 0, none⟩)] w fun e w' => ∃ c r, e = .returned (.agg #[.string c, .string r]) ∧ c.size ≤ 8 ∧ r.size ≤ 8 ∧ Cur w' g a n k (lim + 8) ∧ w.grownBy w' (some g) := by
  have hg := hc.lt
  have hB := hc.blk
  go_enter Tryd.func57, Tryd.ntmps57
  go_wp2_with fail
  refine (c_spec_l1Cur_of (fun s => s.size ≤ 8) g n k lim _ 5 5 a _ (hc.ext (by (repeat (first | with_reducible assumption | with_reducible exact Ext.refl _ | with_reducible refine Ext.alloc ?_ _ | with_reducible refine Ext.drew ?_ | with_reducible refine Ext.drewN ?_ _ | refine Ext.setCell ?_ (by first | (simp only [World.size_alloc, World.size_setCell]; omega) | omega) _ | with_reducible refine Ext.trans ?_ (by with_reducible assumption))))) (by omega) (by decide) (by decide) (by omega) (strs_at _ _ _ [⟨#[108, 111, 97, 100]⟩, ⟨#[115, 116, 101, 112, 32, 48, 32, 48]⟩, ⟨#[120]⟩, ⟨#[104, 111, 115, 116, 32, 97]⟩, ⟨#[48, 32, 49]⟩] _ (by decide) (by simp))).mono ?_
  rintro e w1 ⟨c, rfl, hc8, hc1, hg1⟩
  have r0 := hg1.cell (a := ⟨w.heap.size, 0, none⟩) (v := .string ⟨#[]⟩) (by simp [go_sem]) (by simp; omega)
  have r1 := hg1.cell (a := ⟨w.heap.size, 1, none⟩) (v := .string ⟨#[]⟩) (by simp [go_sem]) (by simp; omega)
  have f0 := grown_mark (b := w.heap.size) (o := 0) (x := false) (v := .string ⟨#[]⟩) hg1 (by simp [go_sem]) (by simp [go_sem]) (by omega)
  have f1 := grown_mark (b := w.heap.size) (o := 1) (x := false) (v := .string ⟨#[]⟩) hg1 (by simp [go_sem]) (by simp [go_sem]) (by omega)
  have G1 : w.grownBy w1 (some g) := grownBy_trans (grownBy_ext (by (repeat (first | with_reducible assumption | with_reducible exact Ext.refl _ | with_reducible refine Ext.alloc ?_ _ | with_reducible refine Ext.drew ?_ | with_reducible refine Ext.drewN ?_ _ | refine Ext.setCell ?_ (by first | (simp only [World.size_alloc, World.size_setCell]; omega) | omega) _ | with_reducible refine Ext.trans ?_ (by with_reducible assumption))))) hg1
  have s1 := hg1.size
  simp only [World.size_alloc] at s1
  clear hg1 hc
  go_wp2_with fail
  refine (c_spec_l1Cur_of (fun s => s.size ≤ 8) g n k (lim + 2) _ 5 5 a _ (hc1.ext (by (repeat (first | with_reducible assumption | with_reducible exact Ext.refl _ | with_reducible refine Ext.alloc ?_ _ | with_reducible refine Ext.drew ?_ | with_reducible refine Ext.drewN ?_ _ | refine Ext.setCell ?_ (by first | (simp only [World.size_alloc, World.size_setCell]; omega) | omega) _ | with_reducible refine Ext.trans ?_ (by with_reducible assumption))))) (by omega) (by decide) (by decide) (by omega) (strs_at _ _ _ [⟨#[]⟩, ⟨#[51]⟩, ⟨#[63]⟩, ⟨#[97, 64, 98]⟩, ⟨#[51, 32, 49, 32, 50]⟩] _ (by decide) (by simp))).mono ?_
  rintro e w2 ⟨r, rfl, hr8, hc2, hg2⟩
  have G12 : w1.grownBy w2 (some g) := grownBy_trans (grownBy_ext (by (repeat (first | with_reducible assumption | with_reducible exact Ext.refl _ | with_reducible refine Ext.alloc ?_ _ | with_reducible refine Ext.drew ?_ | with_reducible refine Ext.drewN ?_ _ | refine Ext.setCell ?_ (by first | (simp only [World.size_alloc, World.size_setCell]; omega) | omega) _ | with_reducible refine Ext.trans ?_ (by with_reducible assumption))))) hg2
  replace f0 := grown_mark G12 r0 f0 (by omega)
  replace f1 := grown_mark G12 r1 f1 (by omega)
  replace r0 := G12.cell r0 (by simp; omega)
  replace r1 := G12.cell r1 (by simp; omega)
  have G2 := grownBy_trans G1 G12
  have s2 := hg2.size
  simp only [World.size_alloc] at s2
  clear hg2 hc1 G1 G12
  go_wp2_with fail
  refine (c_spec_l1Cur_pick g n k (lim + 4) 24 a _ (hc2.ext (by (repeat (first | with_reducible assumption | with_reducible exact Ext.refl _ | with_reducible refine Ext.alloc ?_ _ | with_reducible refine Ext.drew ?_ | with_reducible refine Ext.drewN ?_ _ | refine Ext.setCell ?_ (by first | (simp only [World.size_alloc, World.size_setCell]; omega) | omega) _ | with_reducible refine Ext.trans ?_ (by with_reducible assumption))))) (by omega) (by decide)).mono ?_
  rintro e w3 ⟨y, rfl, y0, _, y1, hc3, hg3⟩
  have hD : w.heap.size < w2.heap.size := by omega
  have p0 := hg3.cell ((Ext.alloc (Ext.refl w2) _).keep r0) (by simp; omega)
  have p1 := hg3.cell ((Ext.alloc (Ext.refl w2) _).keep r1) (by simp; omega)
  have m0 := grown_mark hg3 ((Ext.alloc (Ext.refl w2) _).keep r0) ((Ext.alloc (Ext.refl w2) _).mark r0 f0) (by omega)
  have m1 := grown_mark hg3 ((Ext.alloc (Ext.refl w2) _).keep r1) ((Ext.alloc (Ext.refl w2) _).mark r1 f1) (by omega)
  have u0 := hg3.cell (a := ⟨w2.heap.size, 0, none⟩) (v := .string c) (by simp [go_sem]) (by simp; omega)
  have u1 := hg3.cell (a := ⟨w2.heap.size, 1, none⟩) (v := .string r) (by simp [go_sem]) (by simp; omega)
  have v0 := grown_mark (b := w2.heap.size) (o := 0) (x := false) (v := .string c) hg3 (by simp [go_sem]) (by simp [go_sem]) (by omega)
  have v1 := grown_mark (b := w2.heap.size) (o := 1) (x := false) (v := .string r) hg3 (by simp [go_sem]) (by simp [go_sem]) (by omega)
  have G3 : w.grownBy w3 (some g) := grownBy_trans G2 (grownBy_trans (grownBy_ext (by (repeat (first | with_reducible assumption | with_reducible exact Ext.refl _ | with_reducible refine Ext.alloc ?_ _ | with_reducible refine Ext.drew ?_ | with_reducible refine Ext.drewN ?_ _ | refine Ext.setCell ?_ (by first | (simp only [World.size_alloc, World.size_setCell]; omega) | omega) _ | with_reducible refine Ext.trans ?_ (by with_reducible assumption))))) hg3)
  have s3 := hg3.size
  simp only [World.size_alloc] at s3
  clear hg3 hc2 G2 r0 r1 f0 f1
  have hmk : ∀ w : World, (Instr.makeSlice 53 (.int .i64 3) (.int .i64 3)).run Tryd.prog w = .ok (.slice (some ⟨w.heap.size, 0, none⟩) 3 3) (w.alloc (.cells #[.int .u8 0, .int .u8 0, .int .u8 0] 5)) := by intro w; kernel_rfl
  by_cases h0 : y = 0
  · subst h0
    go_wp2_with (refine wpList_back rfl 53 9 5 (.tmp 16) rfl (lies_zeros w3 5 _ rfl) 3 3 rfl rfl Tryd.underlying53 Tryd.underlying5 Tryd.underlying9 ?_)
    refine (c_spec_l1Cur_of (fun s => s.size ≤ 8) g n k (lim + 6) _ 5 5 a _ (hc3.ext (by (repeat (first | with_reducible assumption | with_reducible exact Ext.refl _ | with_reducible refine Ext.alloc ?_ _ | with_reducible refine Ext.drew ?_ | with_reducible refine Ext.drewN ?_ _ | refine Ext.setCell ?_ (by first | (simp only [World.size_alloc, World.size_setCell]; omega) | omega) _ | with_reducible refine Ext.trans ?_ (by with_reducible assumption))))) (by omega) (by decide) (by decide) (by omega) (strs_at _ _ _ [⟨#[]⟩, ⟨#[97, 64, 98]⟩, ⟨#[97, 35]⟩, ⟨#[10]⟩, ⟨#[0, 0, 0]⟩] _ (by decide) (by simp))).mono ?_
    rintro e w4 ⟨r', rfl, hr8', hc4, hg4⟩
    have G34 : w3.grownBy w4 (some g) := grownBy_trans (grownBy_ext (by (repeat (first | with_reducible assumption | with_reducible exact Ext.refl _ | with_reducible refine Ext.alloc ?_ _ | with_reducible refine Ext.drew ?_ | with_reducible refine Ext.drewN ?_ _ | refine Ext.setCell ?_ (by first | (simp only [World.size_alloc, World.size_setCell]; omega) | omega) _ | with_reducible refine Ext.trans ?_ (by with_reducible assumption))))) hg4
    replace m0 := grown_mark G34 p0 m0 (by omega)
    replace m1 := grown_mark G34 p1 m1 (by omega)
    replace p0 := G34.cell p0 (by simp; omega)
    replace p1 := G34.cell p1 (by simp; omega)
    replace v0 := grown_mark G34 u0 v0 (by omega)
    replace v1 := grown_mark G34 u1 v1 (by omega)
    replace u0 := G34.cell u0 (by simp; omega)
    replace u1 := G34.cell u1 (by simp; omega)
    have G4 := grownBy_trans G3 G34
    clear hg4 G34 hc3 G3
    go_wp2_with fail
    refine bodyPost_ret (v := .agg #[.string r', .string r]) ?_ rfl ⟨r', r, rfl, hr8', hr8, ?_, ?_⟩
    · simp [results, Tryd.results57, go_sem, p0, p1]
    · exact ((hc4.far hB hg _ _ _ (by omega)).far hB hg _ _ _ (by omega)).far hB hg _ _ _ (by omega)
    · exact grown_far (grown_far (grown_far G4 _ _ _ (by omega)) _ _ _ (by omega)) _ _ _ (by omega)
  · by_cases h1 : y = 1
    · subst h1
      go_wp2_with fail
      refine (c_spec_l1Cur_of (fun s => s.size ≤ 8) g n k (lim + 6) _ 3 3 a _ (hc3.ext (by (repeat (first | with_reducible assumption | with_reducible exact Ext.refl _ | with_reducible refine Ext.alloc ?_ _ | with_reducible refine Ext.drew ?_ | with_reducible refine Ext.drewN ?_ _ | refine Ext.setCell ?_ (by first | (simp only [World.size_alloc, World.size_setCell]; omega) | omega) _ | with_reducible refine Ext.trans ?_ (by with_reducible assumption))))) (by omega) (by decide) (by decide) (by omega) (strs_at _ _ _ [⟨#[35]⟩, ⟨#[10]⟩, ⟨#[127]⟩] _ (by decide) (by simp))).mono ?_
      rintro e w4 ⟨r', rfl, hr8', hc4, hg4⟩
      have G34 : w3.grownBy w4 (some g) := grownBy_trans (grownBy_ext (by (repeat (first | with_reducible assumption | with_reducible exact Ext.refl _ | with_reducible refine Ext.alloc ?_ _ | with_reducible refine Ext.drew ?_ | with_reducible refine Ext.drewN ?_ _ | refine Ext.setCell ?_ (by first | (simp only [World.size_alloc, World.size_setCell]; omega) | omega) _ | with_reducible refine Ext.trans ?_ (by with_reducible assumption))))) hg4
      replace m0 := grown_mark G34 p0 m0 (by omega)
      replace m1 := grown_mark G34 p1 m1 (by omega)
      replace p0 := G34.cell p0 (by simp; omega)
      replace p1 := G34.cell p1 (by simp; omega)
      replace v0 := grown_mark G34 u0 v0 (by omega)
      replace v1 := grown_mark G34 u1 v1 (by omega)
      replace u0 := G34.cell u0 (by simp; omega)
      replace u1 := G34.cell u1 (by simp; omega)
      have G4 := grownBy_trans G3 G34
      clear hg4 G34 hc3 G3
      go_wp2_with fail
      refine bodyPost_ret (v := .agg #[.string c, .string r']) ?_ rfl ⟨c, r', rfl, hc8, hr8', ?_, ?_⟩
      · simp [results, Tryd.results57, go_sem, p0, p1]
      · exact ((hc4.far hB hg _ _ _ (by omega)).far hB hg _ _ _ (by omega)).far hB hg _ _ _ (by omega)
      · exact grown_far (grown_far (grown_far G4 _ _ _ (by omega)) _ _ _ (by omega)) _ _ _ (by omega)
    · go_wp2_with fail
      refine bodyPost_ret (v := .agg #[.string c, .string r]) ?_ rfl ⟨c, r, rfl, hc8, hr8, ?_, ?_⟩
      · simp [results, Tryd.results57, go_sem, p0, p1]
      · exact ((hc3.more (by omega)).far hB hg _ _ _ (by omega)).far hB hg _ _ _ (by omega)
      · exact grown_far (grown_far G3 _ _ _ (by omega)) _ _ _ (by omega)
/-- A log lies in a block. -/
def LogAt (w : World) (D : Nat) (d p : ByteArray) (m : Int) : Prop := w.cell? ⟨D, 0, none⟩ = some (.string d) ∧ w.cell? ⟨D, 1, none⟩ = some (.string p) ∧ w.cell? ⟨D, 2, none⟩ = some (.int .i64 m) ∧ w.frozen? ⟨D, 0, none⟩ = false ∧ w.frozen? ⟨D, 1, none⟩ = false ∧ w.frozen? ⟨D, 2, none⟩ = false
theorem LogAt.ext {w w' : World} {D : Nat} {d p : ByteArray} {m : Int} (h : LogAt w D d p m) (hx : Ext w w') : LogAt w' D d p m := by
  obtain ⟨q0, q1, q2, f0, f1, f2⟩ := h
  exact ⟨hx.keep q0, hx.keep q1, hx.keep q2, hx.mark q0 f0, hx.mark q1 f1, hx.mark q2 f2⟩
theorem LogAt.grown {w w' : World} {g D : Nat} {d p : ByteArray} {m : Int} (h : LogAt w D d p m) (hg : w.grownBy w' (some g)) (hne : D ≠ g) : LogAt w' D d p m := by
  obtain ⟨q0, q1, q2, f0, f1, f2⟩ := h
  exact ⟨hg.cell q0 (by simpa using hne), hg.cell q1 (by simpa using hne), hg.cell q2 (by simpa using hne), grown_mark hg q0 f0 hne, grown_mark hg q1 f1 hne, grown_mark hg q2 f2 hne⟩
theorem LogAt.stored {w : World} {D : Nat} {d p : ByteArray} {m : Int} (h : LogAt w D d p m) (d' p' : ByteArray) (m' : Int) : LogAt (((w.setCell ⟨D, 0, none⟩ (.string d')).setCell ⟨D, 1, none⟩ (.string p')).setCell ⟨D, 2, none⟩ (.int .i64 m')) D d' p' m' := by
  obtain ⟨q0, q1, q2, f0, f1, f2⟩ := h
  refine ⟨cell_other (cell_other (World.cell?_setCell_same _ _ _ q0) (by simp)) (by simp), cell_other (World.cell?_setCell_same _ _ _ (cell_other q1 (by simp))) (by simp), World.cell?_setCell_same _ _ _ (cell_other (cell_other q2 (by simp)) (by simp)), ?_, ?_, ?_⟩ <;> simpa [World.frozen?_setCell]
theorem LogAt.other {w : World} {D b o : Nat} {d p : ByteArray} {m : Int} {u : Value} (h : LogAt w D d p m) (hne : b ≠ D) : LogAt (w.setCell ⟨b, o, none⟩ u) D d p m := by
  obtain ⟨q0, q1, q2, f0, f1, f2⟩ := h
  refine ⟨store_keep q0 hne, store_keep q1 hne, store_keep q2 hne, ?_, ?_, ?_⟩ <;> simpa [World.frozen?_setCell]
theorem LogAt.lt {w : World} {D : Nat} {d p : ByteArray} {m : Int} (h : LogAt w D d p m) : D < w.heap.size := World.block_lt_of_cell? w ⟨D, 0, none⟩ h.1
theorem appP_size (d p : ByteArray) (n : Int) (c r : ByteArray) (h0 : 0 ≤ n) (h1 : n ≤ 1000) (hc : c.size ≤ 160) (hr : r.size ≤ 200) : (appP d p n c r).size ≤ p.size + 501 := by
  have := lineB_size n c r h0 (by omega) hc hr
  unfold appP
  split
  · rw [ByteArray.size_append]; omega
  · omega
theorem appN_rng (d p : ByteArray) (n : Int) (c r : ByteArray) : n ≤ appN d p n c r ∧ appN d p n c r ≤ n + 1 := by
  unfold appN
  split <;> omega
theorem syncD_size (d p : ByteArray) (n : Int) : (syncD d p n).size ≤ d.size + p.size := by
  unfold syncD
  split
  · rw [ByteArray.size_append]; exact Nat.le_refl _
  · exact Nat.zero_le _
theorem syncN_rng (d p : ByteArray) (n : Int) (h : 0 ≤ n) : 0 ≤ syncN d p n ∧ syncN d p n ≤ n := by
  unfold syncN
  split <;> omega
attribute [local irreducible] appP appN appK syncD syncN
set_option maxRecDepth 100000 in
set_option maxHeartbeats 1600000 in
theorem c_spec_l1Cur_log13 (g n k lim : Nat) (a : Option Addr) (w : World) (hc : Cur w g a n k lim) (hlim : lim ≤ 10000) :
    Calls Tryd.prog 64 #[.pointer (some ⟨g, 0, none⟩)] w fun e w' => ∃ (d p : ByteArray) (m : Int), e = .returned (.agg #[.string d, .string p, .int .i64 m]) ∧ d.size + p.size ≤ 3600 ∧ 0 ≤ m ∧ m ≤ 6 ∧ Cur w' g a n k (lim + 62) ∧ w.grownBy w' (some g) := by
  have hg := hc.lt
  have hB := hc.blk
  go_enter Tryd.func64, Tryd.ntmps64
  go_wp2_with fail
  refine (c_spec_l1Cur_pick g n k lim 7 a _ (hc.ext (by (repeat (first | with_reducible assumption | with_reducible exact Ext.refl _ | with_reducible refine Ext.alloc ?_ _ | with_reducible refine Ext.drew ?_ | with_reducible refine Ext.drewN ?_ _ | refine Ext.setCell ?_ (by first | (simp only [World.size_alloc, World.size_setCell]; omega) | omega) _ | with_reducible refine Ext.trans ?_ (by with_reducible assumption))))) (by omega) (by decide)).mono ?_
  rintro e w1 ⟨x, rfl, x0, _, x1, hc1, hg1⟩
  have x6 : x ≤ 6 := by have := x1 (by decide); omega
  obtain ⟨r, rfl⟩ := Int.eq_ofNat_of_zero_le x0
  have G1 : w.grownBy w1 (some g) := grownBy_trans (grownBy_ext (by (repeat (first | with_reducible assumption | with_reducible exact Ext.refl _ | with_reducible refine Ext.alloc ?_ _ | with_reducible refine Ext.drew ?_ | with_reducible refine Ext.drewN ?_ _ | refine Ext.setCell ?_ (by first | (simp only [World.size_alloc, World.size_setCell]; omega) | omega) _ | with_reducible refine Ext.trans ?_ (by with_reducible assumption))))) hg1
  have Z0 : LogAt w1 w.heap.size ⟨#[]⟩ ⟨#[]⟩ 0 := LogAt.grown (by refine ⟨?_, ?_, ?_, ?_, ?_, ?_⟩ <;> simp [go_sem]) hg1 (by omega)
  have Z1 : LogAt w1 (w.heap.size + 1) ⟨#[]⟩ ⟨#[]⟩ 0 := LogAt.grown (by refine ⟨?_, ?_, ?_, ?_, ?_, ?_⟩ <;> simp [go_sem]) hg1 (by omega)
  clear hg1 hc
  go_wp2_with fail
  go_loopw [4] (fun c wr => ∃ (r : Nat) (d p : ByteArray) (m : Int), c = .int .i64 r ∧ r ≤ 6 ∧ Cur wr g a n k (lim + 2 + 10 * (6 - r)) ∧ LogAt wr (w.heap.size + 1) d p m ∧ LogAt wr w.heap.size ⟨#[]⟩ ⟨#[]⟩ 0 ∧ d.size + p.size ≤ 600 * (6 - r) ∧ 0 ≤ m ∧ m ≤ 6 - r ∧ w.grownBy wr (some g)) (fun c _ => (intOf c).toNat)
  case atStart => exact ⟨r, ⟨#[]⟩, ⟨#[]⟩, 0, rfl, by omega, hc1.more (by omega), Z1, Z0, Nat.zero_le _, by omega, by omega, G1⟩
  case round =>
    obtain ⟨r, d, p, m, rfl, hr, hcr, hL, hZ, hs, m0, m1, hG⟩ := hrel
    have ml : 8 ≤ maxLen := by decide
    by_cases hp : 0 < r
    · obtain ⟨q0, q1, q2, f0, f1, f2⟩ := hL
      go_wp2_with fail
      refine wp_region_held_drew (S := (fun w' => True)) (by kernel_rfl) ?_ (fun hHeld => ?_)
      · trivial
      refine wpAnyH_take (i := 1) (v := ?_) rfl (by kernel_rfl) (by kernel_rfl) (by kernel_rfl) (fun _ _ _ h => h) (Or.inl ⟨by rfl, ?_⟩) (by assumption) ?_
      rotate_left
      · (intro w hSw; (try dsimp only at hSw); go_simp; (try with_reducible rfl))
      try simp only [Act.put, List.getElem_toArray, List.getElem_cons_zero, List.getElem_cons_succ, List.setIfInBounds_toArray, List.set_cons_zero, List.set_cons_succ]
      refine wpAnyH_ready (rs := [0, 2]) (by kernel_rfl) (by simp) ?_
      refine AllReadyH.cons rfl (fun K hK => ?_) (AllReadyH.cons rfl (fun K hK => ?_) (AllReadyH.nil))
      focus
        go_simp
        refine hK.out _ _ (by trivial) (fun hHeld => ?_)
        clear hK K
        try simp only [Act.put, List.getElem_toArray, List.getElem_cons_zero, List.getElem_cons_succ, List.setIfInBounds_toArray, List.set_cons_zero, List.set_cons_succ]
        refine wpAnyH_ready (rs := [2]) (by kernel_rfl) (by simp) ?_
        refine AllReadyH.cons rfl (fun K hK => ?_) AllReadyH.nil
        go_simp
        (go_at_call 57; refine (c_spec_l1Cur_logRecord g n k _ a _ (hcr.ext (by (repeat (first | with_reducible assumption | with_reducible exact Ext.refl _ | with_reducible refine Ext.alloc ?_ _ | with_reducible refine Ext.drew ?_ | with_reducible refine Ext.drewN ?_ _ | refine Ext.setCell ?_ (by first | (simp only [World.size_alloc, World.size_setCell]; omega) | omega) _ | with_reducible refine Ext.trans ?_ (by with_reducible assumption))))) (by omega)).mono ?_; rintro e w2 ⟨c2, r2, rfl, hc8, hr8, hc2, hg2⟩; replace hg2 := grownBy_trans (grownBy_ext (w := wr) (by (repeat (first | with_reducible assumption | with_reducible exact Ext.refl _ | with_reducible refine Ext.alloc ?_ _ | with_reducible refine Ext.drew ?_ | with_reducible refine Ext.drewN ?_ _ | refine Ext.setCell ?_ (by first | (simp only [World.size_alloc, World.size_setCell]; omega) | omega) _ | with_reducible refine Ext.trans ?_ (by with_reducible assumption))))) hg2; obtain ⟨q0, q1, q2, f0, f1, f2⟩ := LogAt.grown ⟨q0, q1, q2, f0, f1, f2⟩ hg2 (by omega))
        show K _ _
        refine hK.out _ _ (by trivial) (fun hHeld => ?_)
        clear hK K
        try simp only [Act.put, List.getElem_toArray, List.getElem_cons_zero, List.getElem_cons_succ, List.setIfInBounds_toArray, List.set_cons_zero, List.set_cons_succ]
        refine wpAnyH_ready (rs := [3]) (by kernel_rfl) (by simp) ?_
        refine AllReadyH.cons rfl (fun K hK => ?_) AllReadyH.nil
        go_simp
        (go_at_call 27; refine (c_spec_AppendRecord d p m c2 r2 _ (by omega) (by omega) (by omega) (by omega)).mono ?_; rintro e w3 ⟨rfl, hb3⟩; have hb3 := (Ext.refl w2).trans hb3; obtain ⟨q0, q1, q2, f0, f1, f2⟩ := LogAt.ext ⟨q0, q1, q2, f0, f1, f2⟩ hb3)
        show K _ _
        refine hK.out _ _ (by trivial) (fun hHeld => ?_)
        clear hK K
        try simp only [Act.put, List.getElem_toArray, List.getElem_cons_zero, List.getElem_cons_succ, List.setIfInBounds_toArray, List.set_cons_zero, List.set_cons_succ]
        refine wpAnyH_take (i := 4) (v := ?_) rfl (by kernel_rfl) (by kernel_rfl) (by kernel_rfl) (fun _ _ _ h => h) (Or.inl ⟨by rfl, ?_⟩) (by assumption) ?_
        rotate_left
        · (intro w hSw; (try dsimp only at hSw); go_simp; (try with_reducible rfl))
        try simp only [Act.put, List.getElem_toArray, List.getElem_cons_zero, List.getElem_cons_succ, List.setIfInBounds_toArray, List.set_cons_zero, List.set_cons_succ]
        refine wpAnyH_take (i := 5) (v := ?_) rfl (by kernel_rfl) (by kernel_rfl) (by kernel_rfl) (fun _ _ _ h => h) (Or.inl ⟨by rfl, ?_⟩) (by assumption) ?_
        rotate_left
        · (intro w hSw; (try dsimp only at hSw); go_simp; (try with_reducible rfl))
        try simp only [Act.put, List.getElem_toArray, List.getElem_cons_zero, List.getElem_cons_succ, List.setIfInBounds_toArray, List.set_cons_zero, List.set_cons_succ]
        refine wpAnyH_take (i := 6) (v := ?_) rfl (by kernel_rfl) (by kernel_rfl) (by kernel_rfl) (fun _ _ _ h => h) (Or.inl ⟨by rfl, ?_⟩) (by assumption) ?_
        rotate_left
        · (intro w hSw; (try dsimp only at hSw); go_simp; (try with_reducible rfl))
        try simp only [Act.put, List.getElem_toArray, List.getElem_cons_zero, List.getElem_cons_succ, List.setIfInBounds_toArray, List.set_cons_zero, List.set_cons_succ]
        refine wpAnyH_ready (rs := [7]) (by kernel_rfl) (by simp) ?_
        refine AllReadyH.cons rfl (fun K hK => ?_) AllReadyH.nil
        go_simp
        refine hK.out _ _ (by trivial) (fun hHeld => ?_)
        clear hK K
        try simp only [Act.put, List.getElem_toArray, List.getElem_cons_zero, List.getElem_cons_succ, List.setIfInBounds_toArray, List.set_cons_zero, List.set_cons_succ]
        refine wpAnyH_done (by kernel_rfl) ?_ _
      rotate_left 1
      focus
        go_simp
        (go_at_call 57; refine (c_spec_l1Cur_logRecord g n k _ a _ (hcr.ext (by (repeat (first | with_reducible assumption | with_reducible exact Ext.refl _ | with_reducible refine Ext.alloc ?_ _ | with_reducible refine Ext.drew ?_ | with_reducible refine Ext.drewN ?_ _ | refine Ext.setCell ?_ (by first | (simp only [World.size_alloc, World.size_setCell]; omega) | omega) _ | with_reducible refine Ext.trans ?_ (by with_reducible assumption))))) (by omega)).mono ?_; rintro e w2 ⟨c2, r2, rfl, hc8, hr8, hc2, hg2⟩; replace hg2 := grownBy_trans (grownBy_ext (w := wr) (by (repeat (first | with_reducible assumption | with_reducible exact Ext.refl _ | with_reducible refine Ext.alloc ?_ _ | with_reducible refine Ext.drew ?_ | with_reducible refine Ext.drewN ?_ _ | refine Ext.setCell ?_ (by first | (simp only [World.size_alloc, World.size_setCell]; omega) | omega) _ | with_reducible refine Ext.trans ?_ (by with_reducible assumption))))) hg2; obtain ⟨q0, q1, q2, f0, f1, f2⟩ := LogAt.grown ⟨q0, q1, q2, f0, f1, f2⟩ hg2 (by omega))
        show K _ _
        refine hK.out _ _ (by trivial) (fun hHeld => ?_)
        clear hK K
        try simp only [Act.put, List.getElem_toArray, List.getElem_cons_zero, List.getElem_cons_succ, List.setIfInBounds_toArray, List.set_cons_zero, List.set_cons_succ]
        refine wpAnyH_ready (rs := [0]) (by kernel_rfl) (by simp) ?_
        refine AllReadyH.cons rfl (fun K hK => ?_) AllReadyH.nil
        go_simp
        refine hK.out _ _ (by trivial) (fun hHeld => ?_)
        clear hK K
        try simp only [Act.put, List.getElem_toArray, List.getElem_cons_zero, List.getElem_cons_succ, List.setIfInBounds_toArray, List.set_cons_zero, List.set_cons_succ]
        refine wpAnyH_ready (rs := [3]) (by kernel_rfl) (by simp) ?_
        refine AllReadyH.cons rfl (fun K hK => ?_) AllReadyH.nil
        go_simp
        (go_at_call 27; refine (c_spec_AppendRecord d p m c2 r2 _ (by omega) (by omega) (by omega) (by omega)).mono ?_; rintro e w3 ⟨rfl, hb3⟩; have hb3 := (Ext.refl w2).trans hb3; obtain ⟨q0, q1, q2, f0, f1, f2⟩ := LogAt.ext ⟨q0, q1, q2, f0, f1, f2⟩ hb3)
        show K _ _
        refine hK.out _ _ (by trivial) (fun hHeld => ?_)
        clear hK K
        try simp only [Act.put, List.getElem_toArray, List.getElem_cons_zero, List.getElem_cons_succ, List.setIfInBounds_toArray, List.set_cons_zero, List.set_cons_succ]
        refine wpAnyH_take (i := 4) (v := ?_) rfl (by kernel_rfl) (by kernel_rfl) (by kernel_rfl) (fun _ _ _ h => h) (Or.inl ⟨by rfl, ?_⟩) (by assumption) ?_
        rotate_left
        · (intro w hSw; (try dsimp only at hSw); go_simp; (try with_reducible rfl))
        try simp only [Act.put, List.getElem_toArray, List.getElem_cons_zero, List.getElem_cons_succ, List.setIfInBounds_toArray, List.set_cons_zero, List.set_cons_succ]
        refine wpAnyH_take (i := 5) (v := ?_) rfl (by kernel_rfl) (by kernel_rfl) (by kernel_rfl) (fun _ _ _ h => h) (Or.inl ⟨by rfl, ?_⟩) (by assumption) ?_
        rotate_left
        · (intro w hSw; (try dsimp only at hSw); go_simp; (try with_reducible rfl))
        try simp only [Act.put, List.getElem_toArray, List.getElem_cons_zero, List.getElem_cons_succ, List.setIfInBounds_toArray, List.set_cons_zero, List.set_cons_succ]
        refine wpAnyH_take (i := 6) (v := ?_) rfl (by kernel_rfl) (by kernel_rfl) (by kernel_rfl) (fun _ _ _ h => h) (Or.inl ⟨by rfl, ?_⟩) (by assumption) ?_
        rotate_left
        · (intro w hSw; (try dsimp only at hSw); go_simp; (try with_reducible rfl))
        try simp only [Act.put, List.getElem_toArray, List.getElem_cons_zero, List.getElem_cons_succ, List.setIfInBounds_toArray, List.set_cons_zero, List.set_cons_succ]
        refine wpAnyH_ready (rs := [7]) (by kernel_rfl) (by simp) ?_
        refine AllReadyH.cons rfl (fun K hK => ?_) AllReadyH.nil
        go_simp
        refine hK.out _ _ (by trivial) (fun hHeld => ?_)
        clear hK K
        try simp only [Act.put, List.getElem_toArray, List.getElem_cons_zero, List.getElem_cons_succ, List.setIfInBounds_toArray, List.set_cons_zero, List.set_cons_succ]
        refine wpAnyH_done (by kernel_rfl) ?_ _
      rotate_left 1
      all_goals
        have LL := LogAt.stored ⟨q0, q1, q2, f0, f1, f2⟩ d (appP d p m c2 r2) (appN d p m c2 r2)
        have hZ' := (hZ.grown hg2 (by omega)).ext hb3
        have ZZ := ((hZ'.other (b := w.heap.size + 1) (o := 0) (u := .string d) (by omega)).other (b := w.heap.size + 1) (o := 1) (u := .string (appP d p m c2 r2)) (by omega)).other (b := w.heap.size + 1) (o := 2) (u := .int .i64 (appN d p m c2 r2)) (by omega)
        have CC := (((hc2.ext hb3).far hB hg (w.heap.size + 1) 0 (.string d) (by omega)).far hB hg (w.heap.size + 1) 1 (.string (appP d p m c2 r2)) (by omega)).far hB hg (w.heap.size + 1) 2 (.int .i64 (appN d p m c2 r2)) (by omega)
        have GG := grown_far (grown_far (grown_far (grownBy_trans (grownBy_trans hG hg2) (grownBy_ext hb3)) (w.heap.size + 1) 0 (.string d) (by omega)) (w.heap.size + 1) 1 (.string (appP d p m c2 r2)) (by omega)) (w.heap.size + 1) 2 (.int .i64 (appN d p m c2 r2)) (by omega)
        have hsz := appP_size d p m c2 r2 m0 (by omega) (by omega) (by omega)
        have hsn := appN_rng d p m c2 r2
        generalize (((w3.setCell ⟨w.heap.size + 1, 0, none⟩ (.string d)).setCell ⟨w.heap.size + 1, 1, none⟩ (.string (appP d p m c2 r2))).setCell ⟨w.heap.size + 1, 2, none⟩ (.int .i64 (appN d p m c2 r2))) = w5 at LL ZZ CC GG ⊢
        generalize appP d p m c2 r2 = p5 at hsz LL ⊢
        generalize appN d p m c2 r2 = m5 at hsn LL ⊢
        generalize appK d p m c2 r2 = k5
        clear q0 q1 q2 f0 f1 f2 hZ hZ' hb3 hg2 hG hc2 hc8 hr8 hcr
        go_wp2_with fail
        refine (c_spec_l1Cur_one g n k _ 4 a _ CC (by omega) (by decide)).mono ?_
        rintro e w6 ⟨b6, rfl, hc6, hg6⟩
        replace LL := LL.grown hg6 (by omega)
        replace ZZ := ZZ.grown hg6 (by omega)
        replace GG := grownBy_trans GG hg6
        obtain ⟨q0, q1, q2, f0, f1, f2⟩ := LL
        cases b6
        · go_wp2_with fail
          exact ⟨⟨r - 1, d, p5, m5, by rw [show ((r - 1 : Nat) : Int) = (r : Int) - 1 by omega], by omega, hc6.more (by omega), ⟨q0, q1, q2, f0, f1, f2⟩, ZZ, by omega, by omega, by omega, GG⟩, by simp only [intOf]; omega⟩
        · go_wp2_with fail
          refine (c_spec_SyncLog d p5 m5 _ (by omega) (by omega)).mono ?_
          rintro e w7 ⟨rfl, hb7⟩
          obtain ⟨q0, q1, q2, f0, f1, f2⟩ := LogAt.ext ⟨q0, q1, q2, f0, f1, f2⟩ hb7
          have ZZ7 := ZZ.ext hb7
          have hds := syncD_size d p5 m5
          have hns := syncN_rng d p5 m5 (by omega)
          generalize syncD d p5 m5 = d7 at hds ⊢
          generalize syncN d p5 m5 = m7 at hns ⊢
          go_wp2_with fail
          have LL := LogAt.stored ⟨q0, q1, q2, f0, f1, f2⟩ d7 ⟨#[]⟩ m7
          have ZZ8 := ((ZZ7.other (b := w.heap.size + 1) (o := 0) (u := .string d7) (by omega)).other (b := w.heap.size + 1) (o := 1) (u := .string ⟨#[]⟩) (by omega)).other (b := w.heap.size + 1) (o := 2) (u := .int .i64 m7) (by omega)
          have CC8 := (((hc6.ext hb7).far hB hg (w.heap.size + 1) 0 (.string d7) (by omega)).far hB hg (w.heap.size + 1) 1 (.string ⟨#[]⟩) (by omega)).far hB hg (w.heap.size + 1) 2 (.int .i64 m7) (by omega)
          have GG8 := grown_far (grown_far (grown_far (grownBy_trans GG (grownBy_ext hb7)) (w.heap.size + 1) 0 (.string d7) (by omega)) (w.heap.size + 1) 1 (.string ⟨#[]⟩) (by omega)) (w.heap.size + 1) 2 (.int .i64 m7) (by omega)
          have e0 : (⟨#[]⟩ : ByteArray).size = 0 := rfl
          exact ⟨⟨r - 1, d7, ⟨#[]⟩, m7, by rw [show ((r - 1 : Nat) : Int) = (r : Int) - 1 by omega], by omega, CC8.more (by omega), LL, ZZ8, by omega, by omega, by omega, GG8⟩, by simp only [intOf]; omega⟩
    · obtain ⟨q0, q1, q2, f0, f1, f2⟩ := hL
      obtain ⟨z0, z1, z2, y0, y1, y2⟩ := hZ
      go_wp2_with fail
      refine bodyPost_ret (v := .agg #[.string d, .string p, .int .i64 m]) ?_ rfl ⟨d, p, m, rfl, by omega, by omega, by omega, ?_, ?_⟩
      · simp [results, Tryd.results64, go_sem, z0, z1, z2]
      · exact (((hcr.more (by omega)).far hB hg _ _ _ (by omega)).far hB hg _ _ _ (by omega)).far hB hg _ _ _ (by omega)
      · exact grown_far (grown_far (grown_far hG _ _ _ (by omega)) _ _ _ (by omega)) _ _ _ (by omega)
end Go.Proofs.YteapfbfoegphkaaDoor
