/-
  Walks: drawn logs.
-/
import Derived.Test.YteapfbfoegphkaaDoorW17
namespace Go.Proofs.YteapfbfoegphkaaDoor
open Go.RowKit
set_option linter.unusedVariables false
set_option linter.unusedSimpArgs false
attribute [local irreducible] decS sumL sumB sealB textB lineB encOk encStr acOk acStr pieces mkB piecesB splitB upL behL cutA cutZ verOk verStr rcI rrI okI aheadS preS restS atS rcS rrS okS inR okByte printed hasByte fits someB cmdB recB
attribute [local irreducible] validB endsB logAt appP appN appK syncD syncN

theorem LogAt.new (w : World) (t : TypeId) (d p : ByteArray) (m : Int) (b : Nat) (hb : b = w.heap.size) : LogAt (w.alloc (.cells #[.string d, .string p, .int .i64 m] t)) b d p m := by
  subst hb
  refine ⟨?_, ?_, ?_, ?_, ?_, ?_⟩ <;> simp [go_sem]
set_option maxRecDepth 100000 in
set_option maxHeartbeats 1600000 in
theorem c_spec_l1Cur_anyLog (g n k lim : Nat) (a : Option Addr) (w : World) (hc : Cur w g a n k lim) (hlim : lim ≤ 1000) :
    Calls Tryd.prog 59 #[.pointer (some ⟨g, 0, none⟩)] w fun e w' => ∃ (d p : ByteArray) (m : Int), e = .returned (.agg #[.string d, .string p, .int .i64 m]) ∧ d.size ≤ 3600 ∧ p.size ≤ 3601 ∧ 0 ≤ m ∧ m ≤ 7 ∧ Cur w' g a n k (lim + 70) ∧ w.grownBy w' (some g) := by
  have hg := hc.lt
  have hB := hc.blk
  go_enter Tryd.func59, Tryd.ntmps59
  go_wp2_with fail
  refine (c_spec_l1Cur_log13 g n k lim a _ (hc.ext (by (repeat (first | with_reducible assumption | with_reducible exact Ext.refl _ | with_reducible refine Ext.alloc ?_ _ | with_reducible refine Ext.drew ?_ | with_reducible refine Ext.drewN ?_ _ | refine Ext.setCell ?_ (by first | (simp only [World.size_alloc, World.size_setCell]; omega) | omega) _ | with_reducible refine Ext.trans ?_ (by with_reducible assumption))))) (by omega)).mono ?_
  rintro e w1 ⟨d, p, m, rfl, hs, m0, m1, hc1, hg1⟩
  have Z1 := (LogAt.new w 31 ⟨#[]⟩ ⟨#[]⟩ 0 w.heap.size rfl).grown hg1 (by omega)
  have G1 : w.grownBy w1 (some g) := grownBy_trans (grownBy_ext (by (repeat (first | with_reducible assumption | with_reducible exact Ext.refl _ | with_reducible refine Ext.alloc ?_ _ | with_reducible refine Ext.drew ?_ | with_reducible refine Ext.drewN ?_ _ | refine Ext.setCell ?_ (by first | (simp only [World.size_alloc, World.size_setCell]; omega) | omega) _ | with_reducible refine Ext.trans ?_ (by with_reducible assumption))))) hg1
  have hz1 := Z1.lt
  clear hg1 hc
  go_wp2_with fail
  refine (c_spec_l1Cur_pick g n k (lim + 62) 24 a _ (hc1.ext (by (repeat (first | with_reducible assumption | with_reducible exact Ext.refl _ | with_reducible refine Ext.alloc ?_ _ | with_reducible refine Ext.drew ?_ | with_reducible refine Ext.drewN ?_ _ | refine Ext.setCell ?_ (by first | (simp only [World.size_alloc, World.size_setCell]; omega) | omega) _ | with_reducible refine Ext.trans ?_ (by with_reducible assumption))))) (by omega) (by decide)).mono ?_
  rintro e w2 ⟨y, rfl, y0, _, y1, hc2, hg2⟩
  obtain ⟨q0, q1, q2, f0, f1, f2⟩ := (LogAt.new w1 31 d p m w1.heap.size rfl).grown hg2 (by omega)
  obtain ⟨z0, z1, z2, t0, t1, t2⟩ := (Z1.ext ((Ext.refl w1).alloc _)).grown hg2 (by omega)
  have G2 : w.grownBy w2 (some g) := grownBy_trans (grownBy_trans G1 (grownBy_ext ((Ext.refl w1).alloc _))) hg2
  clear hg2 G1 hc1 Z1
  have m2 := IntWalk.i64_in (m + 1) (by omega)
  by_cases h0 : y = 0
  · subst h0
    go_wp2_with fail
    refine bodyPost_ret (v := .agg #[.string d, .string p, .int .i64 (m + 1)]) ?_ rfl ⟨d, p, m + 1, rfl, by omega, by omega, by omega, by omega, ?_, ?_⟩
    · simp [results, Tryd.results59, go_sem, z0, z1, z2]
    · exact ((((hc2.more (by omega)).far hB hg _ _ _ (by omega)).far hB hg _ _ _ (by omega)).far hB hg _ _ _ (by omega)).far hB hg _ _ _ (by omega)
    · exact grown_far (grown_far (grown_far (grown_far G2 _ _ _ (by omega)) _ _ _ (by omega)) _ _ _ (by omega)) _ _ _ (by omega)
  · by_cases h1 : y = 1
    · subst h1
      go_wp2_with fail
      refine (c_spec_l1Cur_spoilt g n k (lim + 64) p ⟨#[35, 64, 10, 48, 49]⟩ a _ hc2 (by omega) (by omega) (by decide) (by decide)).mono ?_
      rintro e w3 ⟨x, rfl, hx, hc3, hg3⟩
      obtain ⟨q0, q1, q2, f0, f1, f2⟩ := LogAt.grown ⟨q0, q1, q2, f0, f1, f2⟩ hg3 (by omega)
      obtain ⟨z0, z1, z2, t0, t1, t2⟩ := LogAt.grown ⟨z0, z1, z2, t0, t1, t2⟩ hg3 (by omega)
      have G3 := grownBy_trans G2 hg3
      go_wp2_with fail
      refine bodyPost_ret (v := .agg #[.string d, .string x, .int .i64 m]) ?_ rfl ⟨d, x, m, rfl, by omega, by omega, by omega, by omega, ?_, ?_⟩
      · simp [results, Tryd.results59, go_sem, z0, z1, z2]
      · exact ((((hc3.more (by omega)).far hB hg _ _ _ (by omega)).far hB hg _ _ _ (by omega)).far hB hg _ _ _ (by omega)).far hB hg _ _ _ (by omega)
      · exact grown_far (grown_far (grown_far (grown_far G3 _ _ _ (by omega)) _ _ _ (by omega)) _ _ _ (by omega)) _ _ _ (by omega)
    · by_cases h2 : y = 2
      · subst h2
        have na : ¬ 9223372036854775807 < d.size + p.size := by omega
        have dp : (d ++ p).size ≤ 3600 := by rw [ByteArray.size_append]; exact hs
        go_wp2_with fail
        refine bodyPost_ret (v := .agg #[.string (d ++ p), .string p, .int .i64 m]) ?_ rfl ⟨d ++ p, p, m, rfl, dp, by omega, by omega, by omega, ?_, ?_⟩
        · simp [results, Tryd.results59, go_sem, z0, z1, z2]
        · exact ((((hc2.more (by omega)).far hB hg _ _ _ (by omega)).far hB hg _ _ _ (by omega)).far hB hg _ _ _ (by omega)).far hB hg _ _ _ (by omega)
        · exact grown_far (grown_far (grown_far (grown_far G2 _ _ _ (by omega)) _ _ _ (by omega)) _ _ _ (by omega)) _ _ _ (by omega)
      · go_wp2_with fail
        refine bodyPost_ret (v := .agg #[.string d, .string p, .int .i64 m]) ?_ rfl ⟨d, p, m, rfl, by omega, by omega, by omega, by omega, ?_, ?_⟩
        · simp [results, Tryd.results59, go_sem, z0, z1, z2]
        · exact (((hc2.more (by omega)).far hB hg _ _ _ (by omega)).far hB hg _ _ _ (by omega)).far hB hg _ _ _ (by omega)
        · exact grown_far (grown_far (grown_far G2 _ _ _ (by omega)) _ _ _ (by omega)) _ _ _ (by omega)
theorem BytesV.lt {w : World} {a : Option Addr} {n : Nat} (h : BytesV w a n) : ∀ b o, a = some ⟨b, o, none⟩ → 0 < n → b < w.heap.size := by
  intro b o ha hn
  rcases h with h | ⟨b', o', ha', h⟩
  · omega
  · rw [ha] at ha'
    simp at ha'
    obtain ⟨rfl, rfl⟩ := ha'
    obtain ⟨x, hx, _⟩ := h 0 hn
    exact World.block_lt_of_cell? w ⟨b, o + 0, none⟩ hx
theorem BytesV.ext {w w' : World} {a : Option Addr} {n : Nat} (h : BytesV w a n) (hx : Ext w w') : BytesV w' a n :=
  h.kept (r := none) ⟨hx.os, hx.tape, hx.output, Below.size hx, fun k hk _ => hx.block k hk⟩ (fun _ _ _ _ => by simp)
theorem Cur.new {w : World} {a : Option Addr} {n : Nat} (k : Nat) (t : TypeId) (h : BytesV w a n) (hn : n ≤ maxLen) (g : Nat) (hg : g = w.heap.size) : Cur (w.alloc (.cells #[.slice a n k, .int .i64 0, .int .u64 0] t)) g a n k 0 := by
  subst hg
  refine ⟨hn, h.ext ((Ext.refl w).alloc _), fun b o ha h0 => ?_, ⟨0, 0, by simp [go_sem], by simp [go_sem], by simp [go_sem], by decide, by decide, by decide, by decide⟩, fun o => by simp [go_sem]⟩
  have := h.lt b o ha h0
  omega
theorem grown_fresh {w W w' : World} {g : Nat} (h : W.grownBy w' (some g)) (hx : Ext w W) (hg : w.heap.size ≤ g) : Ext w w' :=
  ⟨h.os.trans hx.os, h.tape.trans hx.tape, h.output.trans hx.output, Nat.le_trans (Below.size hx) h.size, fun k hk => (h.block k (Nat.lt_of_lt_of_le hk (Below.size hx)) (by simp; omega)).trans (hx.block k hk)⟩
/-- A record lies in a block. -/
def RecAt (w : World) (D : Nat) (c r : ByteArray) : Prop := w.cell? ⟨D, 0, none⟩ = some (.string c) ∧ w.cell? ⟨D, 1, none⟩ = some (.string r) ∧ w.frozen? ⟨D, 0, none⟩ = false ∧ w.frozen? ⟨D, 1, none⟩ = false
theorem RecAt.ext {w w' : World} {D : Nat} {c r : ByteArray} (h : RecAt w D c r) (hx : Ext w w') : RecAt w' D c r := by
  obtain ⟨q0, q1, f0, f1⟩ := h
  exact ⟨hx.keep q0, hx.keep q1, hx.mark q0 f0, hx.mark q1 f1⟩
theorem RecAt.grown {w w' : World} {g D : Nat} {c r : ByteArray} (h : RecAt w D c r) (hg : w.grownBy w' (some g)) (hne : D ≠ g) : RecAt w' D c r := by
  obtain ⟨q0, q1, f0, f1⟩ := h
  exact ⟨hg.cell q0 (by simpa using hne), hg.cell q1 (by simpa using hne), grown_mark hg q0 f0 hne, grown_mark hg q1 f1 hne⟩
theorem RecAt.other {w : World} {D b o : Nat} {c r : ByteArray} {u : Value} (h : RecAt w D c r) (hne : b ≠ D) : RecAt (w.setCell ⟨b, o, none⟩ u) D c r := by
  obtain ⟨q0, q1, f0, f1⟩ := h
  refine ⟨store_keep q0 hne, store_keep q1 hne, ?_, ?_⟩ <;> simpa [World.frozen?_setCell]
theorem RecAt.new (w : World) (t : TypeId) (c r : ByteArray) (b : Nat) (hb : b = w.heap.size) : RecAt (w.alloc (.cells #[.string c, .string r] t)) b c r := by
  subst hb
  refine ⟨?_, ?_, ?_, ?_⟩ <;> simp [go_sem]
set_option maxHeartbeats 800000 in
theorem c_spec_DrawIsValidRecord (a : Option Addr) (n k : Nat) (w : World) (hb : BytesV w a n) (hn : n ≤ maxLen) :
    Calls Tryd.prog 35 #[.slice a n k] w fun e w' => ∃ c r : ByteArray, e = .returned (.agg #[.string c, .string r]) ∧ c.size ≤ 8 ∧ r.size ≤ 8 ∧ Ext w w' := by
  go_enter Tryd.func35, Tryd.ntmps35
  go_wp2_with fail
  refine (c_spec_l1Cur_logRecord _ n k 0 a _ (Cur.new k 78 (hb.ext (by (repeat (first | with_reducible assumption | with_reducible exact Ext.refl _ | with_reducible refine Ext.alloc ?_ _ | with_reducible refine Ext.drew ?_ | with_reducible refine Ext.drewN ?_ _ | refine Ext.setCell ?_ (by first | (simp only [World.size_alloc, World.size_setCell]; omega) | omega) _ | with_reducible refine Ext.trans ?_ (by with_reducible assumption))))) hn _ (by simp)) (by omega)).mono ?_
  rintro e w1 ⟨c, r, rfl, hc8, hr8, hc1, hg1⟩
  obtain ⟨z0, z1, t0, t1⟩ := ((RecAt.new w 27 ⟨#[]⟩ ⟨#[]⟩ w.heap.size rfl).ext ((Ext.refl _).alloc _)).grown hg1 (by omega)
  have hx := grown_fresh hg1 (w := w) (by (repeat (first | with_reducible assumption | with_reducible exact Ext.refl _ | with_reducible refine Ext.alloc ?_ _ | with_reducible refine Ext.drew ?_ | with_reducible refine Ext.drewN ?_ _ | refine Ext.setCell ?_ (by first | (simp only [World.size_alloc, World.size_setCell]; omega) | omega) _ | with_reducible refine Ext.trans ?_ (by with_reducible assumption)))) (by omega)
  go_wp2_with fail
  refine bodyPost_ret (v := .agg #[.string c, .string r]) ?_ rfl ⟨c, r, rfl, hc8, hr8, by (repeat (first | with_reducible assumption | with_reducible exact Ext.refl _ | with_reducible refine Ext.alloc ?_ _ | with_reducible refine Ext.drew ?_ | with_reducible refine Ext.drewN ?_ _ | refine Ext.setCell ?_ (by first | (simp only [World.size_alloc, World.size_setCell]; omega) | omega) _ | with_reducible refine Ext.trans ?_ (by with_reducible assumption)))⟩
  simp [results, Tryd.results35, go_sem, z0, z1]
set_option maxHeartbeats 800000 in
theorem c_spec_DrawIsValidLog (a : Option Addr) (n k : Nat) (w : World) (hb : BytesV w a n) (hn : n ≤ maxLen) :
    Calls Tryd.prog 38 #[.slice a n k] w fun e w' => ∃ (d p : ByteArray) (m : Int), e = .returned (.agg #[.string d, .string p, .int .i64 m]) ∧ d.size ≤ 3600 ∧ p.size ≤ 3601 ∧ 0 ≤ m ∧ m ≤ 7 ∧ Ext w w' := by
  go_enter Tryd.func38, Tryd.ntmps38
  go_wp2_with fail
  refine (c_spec_l1Cur_anyLog _ n k 0 a _ (Cur.new k 78 (hb.ext (by (repeat (first | with_reducible assumption | with_reducible exact Ext.refl _ | with_reducible refine Ext.alloc ?_ _ | with_reducible refine Ext.drew ?_ | with_reducible refine Ext.drewN ?_ _ | refine Ext.setCell ?_ (by first | (simp only [World.size_alloc, World.size_setCell]; omega) | omega) _ | with_reducible refine Ext.trans ?_ (by with_reducible assumption))))) hn _ (by simp)) (by omega)).mono ?_
  rintro e w1 ⟨d, p, m, rfl, hd, hp, m0, m1, hc1, hg1⟩
  obtain ⟨z0, z1, z2, t0, t1, t2⟩ := ((LogAt.new w 31 ⟨#[]⟩ ⟨#[]⟩ 0 w.heap.size rfl).ext ((Ext.refl _).alloc _)).grown hg1 (by omega)
  have hx := grown_fresh hg1 (w := w) (by (repeat (first | with_reducible assumption | with_reducible exact Ext.refl _ | with_reducible refine Ext.alloc ?_ _ | with_reducible refine Ext.drew ?_ | with_reducible refine Ext.drewN ?_ _ | refine Ext.setCell ?_ (by first | (simp only [World.size_alloc, World.size_setCell]; omega) | omega) _ | with_reducible refine Ext.trans ?_ (by with_reducible assumption)))) (by omega)
  go_wp2_with fail
  refine bodyPost_ret (v := .agg #[.string d, .string p, .int .i64 m]) ?_ rfl ⟨d, p, m, rfl, hd, hp, m0, m1, by (repeat (first | with_reducible assumption | with_reducible exact Ext.refl _ | with_reducible refine Ext.alloc ?_ _ | with_reducible refine Ext.drew ?_ | with_reducible refine Ext.drewN ?_ _ | refine Ext.setCell ?_ (by first | (simp only [World.size_alloc, World.size_setCell]; omega) | omega) _ | with_reducible refine Ext.trans ?_ (by with_reducible assumption)))⟩
  simp [results, Tryd.results38, go_sem, z0, z1, z2]
theorem ints_at (w : World) (t : TypeId) (b : Nat) (l : List Int) (P : Int → Prop) (h : ∀ s ∈ l, P s) (hb : b = w.heap.size) : ∀ i, i < l.length → ∃ x : Int, (w.alloc (.cells (l.map (Value.int .i64)).toArray t)).cell? ⟨b, i, none⟩ = some (.int .i64 x) ∧ P x := by
  intro i hi
  refine ⟨l[i], ?_, h _ (List.getElem_mem _)⟩
  rw [World.cell?_alloc_at _ t b i hb]
  simp [hi]
set_option maxHeartbeats 800000 in
theorem c_spec_DrawEncodeRecord (a : Option Addr) (n k : Nat) (w : World) (hb : BytesV w a n) (hn : n ≤ maxLen) :
    Calls Tryd.prog 36 #[.slice a n k] w fun e w' => ∃ (m : Int) (c r : ByteArray), e = .returned (.tuple #[.int .i64 m, .agg #[.string c, .string r]]) ∧ -1 ≤ m ∧ m ≤ 60 ∧ c.size ≤ 8 ∧ r.size ≤ 8 ∧ Ext w w' := by
  go_enter Tryd.func36, Tryd.ntmps36
  go_wp2_with fail
  refine (c_spec_l1Cur_among (fun x => -1 ≤ x ∧ x ≤ 60) _ n k 0 _ 6 6 a _ ((Cur.new k 78 (hb.ext (by (repeat (first | with_reducible assumption | with_reducible exact Ext.refl _ | with_reducible refine Ext.alloc ?_ _ | with_reducible refine Ext.drew ?_ | with_reducible refine Ext.drewN ?_ _ | refine Ext.setCell ?_ (by first | (simp only [World.size_alloc, World.size_setCell]; omega) | omega) _ | with_reducible refine Ext.trans ?_ (by with_reducible assumption))))) hn _ (by simp)).ext ((Ext.refl _).alloc _)) (by omega) (by decide) (by decide) (by omega) (ints_at _ _ _ [0, 1, 12, 59, 60, -1] _ (by decide) (by simp))).mono ?_
  rintro e w1 ⟨m, rfl, ⟨m0, m1⟩, hc1, hg1⟩
  have Z1 := (((RecAt.new w 27 ⟨#[]⟩ ⟨#[]⟩ w.heap.size rfl).ext ((Ext.refl _).alloc _)).ext ((Ext.refl _).alloc _)).grown hg1 (by omega)
  have hx := grown_fresh hg1 (w := w) (by (repeat (first | with_reducible assumption | with_reducible exact Ext.refl _ | with_reducible refine Ext.alloc ?_ _ | with_reducible refine Ext.drew ?_ | with_reducible refine Ext.drewN ?_ _ | refine Ext.setCell ?_ (by first | (simp only [World.size_alloc, World.size_setCell]; omega) | omega) _ | with_reducible refine Ext.trans ?_ (by with_reducible assumption)))) (by omega)
  clear hg1
  go_wp2_with fail
  refine (c_spec_l1Cur_logRecord _ n k 2 a _ hc1 (by omega)).mono ?_
  rintro e w2 ⟨c, r, rfl, hc8, hr8, hc2, hg2⟩
  obtain ⟨z0, z1, t0, t1⟩ := Z1.grown hg2 (by omega)
  have hx2 := grown_fresh hg2 hx (by omega)
  go_wp2_with fail
  refine bodyPost_ret (v := .tuple #[.int .i64 m, .agg #[.string c, .string r]]) ?_ rfl ⟨m, c, r, rfl, m0, m1, hc8, hr8, by (repeat (first | with_reducible assumption | with_reducible exact Ext.refl _ | with_reducible refine Ext.alloc ?_ _ | with_reducible refine Ext.drew ?_ | with_reducible refine Ext.drewN ?_ _ | refine Ext.setCell ?_ (by first | (simp only [World.size_alloc, World.size_setCell]; omega) | omega) _ | with_reducible refine Ext.trans ?_ (by with_reducible assumption)))⟩
  simp [results, Tryd.results36, go_sem, z0, z1]
set_option maxRecDepth 100000 in
set_option maxHeartbeats 1600000 in
theorem c_spec_DrawAppendRecord (a : Option Addr) (n k : Nat) (w : World) (hb : BytesV w a n) (hn : n ≤ maxLen) :
    Calls Tryd.prog 39 #[.slice a n k] w fun e w' => ∃ (d p : ByteArray) (m : Int) (c r : ByteArray), e = .returned (.tuple #[.agg #[.string d, .string p, .int .i64 m], .agg #[.string c, .string r]]) ∧ d.size ≤ 40000 ∧ p.size ≤ 40000 ∧ 0 ≤ m ∧ m ≤ 60 ∧ c.size ≤ 8 ∧ r.size ≤ 8 ∧ Ext w w' := by
  go_enter Tryd.func39, Tryd.ntmps39
  go_wp2_with fail
  refine (c_spec_l1Cur_anyLog _ n k 0 a _ (Cur.new k 78 (hb.ext (by (repeat (first | with_reducible assumption | with_reducible exact Ext.refl _ | with_reducible refine Ext.alloc ?_ _ | with_reducible refine Ext.drew ?_ | with_reducible refine Ext.drewN ?_ _ | refine Ext.setCell ?_ (by first | (simp only [World.size_alloc, World.size_setCell]; omega) | omega) _ | with_reducible refine Ext.trans ?_ (by with_reducible assumption))))) hn _ (by simp)) (by omega)).mono ?_
  rintro e w1 ⟨d, p, m, rfl, hd, hp, m0, m1, hc1, hg1⟩
  have Z1 := (((LogAt.new w 31 ⟨#[]⟩ ⟨#[]⟩ 0 w.heap.size rfl).ext ((Ext.refl _).alloc _)).ext ((Ext.refl _).alloc _)).grown hg1 (by omega)
  have Y1 := ((RecAt.new _ 27 ⟨#[]⟩ ⟨#[]⟩ (w.heap.size + 1) (by simp)).ext ((Ext.refl _).alloc _)).grown hg1 (by omega)
  have hx := grown_fresh hg1 (w := w) (by (repeat (first | with_reducible assumption | with_reducible exact Ext.refl _ | with_reducible refine Ext.alloc ?_ _ | with_reducible refine Ext.drew ?_ | with_reducible refine Ext.drewN ?_ _ | refine Ext.setCell ?_ (by first | (simp only [World.size_alloc, World.size_setCell]; omega) | omega) _ | with_reducible refine Ext.trans ?_ (by with_reducible assumption)))) (by omega)
  have hz1 := hg1.size
  simp only [World.size_alloc] at hz1
  clear hg1
  go_wp2_with fail
  refine (c_spec_l1Cur_one _ n k 70 40 a _ (hc1.ext ((Ext.refl _).alloc _)) (by omega) (by decide)).mono ?_
  rintro e w2 ⟨b2, rfl, hc2, hg2⟩
  have L2 := (LogAt.new w1 31 d p m w1.heap.size rfl).grown hg2 (by omega)
  have Z2 := (Z1.ext ((Ext.refl _).alloc _)).grown hg2 (by omega)
  have Y2 := (Y1.ext ((Ext.refl _).alloc _)).grown hg2 (by omega)
  have hx2 := grown_fresh hg2 (w := w) (by (repeat (first | with_reducible assumption | with_reducible exact Ext.refl _ | with_reducible refine Ext.alloc ?_ _ | with_reducible refine Ext.drew ?_ | with_reducible refine Ext.drewN ?_ _ | refine Ext.setCell ?_ (by first | (simp only [World.size_alloc, World.size_setCell]; omega) | omega) _ | with_reducible refine Ext.trans ?_ (by with_reducible assumption)))) (by omega)
  clear hg2 Z1 Y1 hc1 hx
  cases b2
  · obtain ⟨q0, q1, q2, f0, f1, f2⟩ := L2
    obtain ⟨z0, z1, z2, t0, t1, t2⟩ := Z2
    obtain ⟨y0, y1, x0, x1⟩ := Y2
    go_wp2_with fail
    refine wp_region_held_drew (S := (fun w' => True)) (by kernel_rfl) ?_ (fun hHeld => ?_)
    · trivial
    refine wpAnyH_take (i := 1) (v := ?_) rfl (by kernel_rfl) (by kernel_rfl) (by kernel_rfl) (fun _ _ _ h => h) (Or.inl ⟨by rfl, ?_⟩) (by assumption) ?_
    rotate_left
    · (intro w hSw; (try dsimp only at hSw); go_simp; (try with_reducible rfl))
    try simp only [Act.put, List.getElem_toArray, List.getElem_cons_zero, List.getElem_cons_succ, List.setIfInBounds_toArray, List.set_cons_zero, List.set_cons_succ]
    refine wpAnyH_ready (rs := [0, 2]) (by kernel_rfl) (by simp) ?_
    refine AllReadyH.cons rfl (fun K hK => ?_) (AllReadyH.cons rfl (fun K hK => ?_) (AllReadyH.nil))
    focus
      go_simp
      refine hK.out _ _ (by trivial) (fun hHeld => ?_)
      clear hK K
      try simp only [Act.put, List.getElem_toArray, List.getElem_cons_zero, List.getElem_cons_succ, List.setIfInBounds_toArray, List.set_cons_zero, List.set_cons_succ]
      refine wpAnyH_ready (rs := [2]) (by kernel_rfl) (by simp) ?_
      refine AllReadyH.cons rfl (fun K hK => ?_) AllReadyH.nil
      go_simp
      (go_at_call 57; refine (c_spec_l1Cur_logRecord _ n k _ a _ (hc2.ext (by (repeat (first | with_reducible assumption | with_reducible exact Ext.refl _ | with_reducible refine Ext.alloc ?_ _ | with_reducible refine Ext.drew ?_ | with_reducible refine Ext.drewN ?_ _ | refine Ext.setCell ?_ (by first | (simp only [World.size_alloc, World.size_setCell]; omega) | omega) _ | with_reducible refine Ext.trans ?_ (by with_reducible assumption))))) (by omega)).mono ?_; rintro e w8 ⟨c, r, rfl, hc8, hr8, hc8', hg8⟩; replace hg8 := grownBy_trans (grownBy_ext (w := w2) (by (repeat (first | with_reducible assumption | with_reducible exact Ext.refl _ | with_reducible refine Ext.alloc ?_ _ | with_reducible refine Ext.drew ?_ | with_reducible refine Ext.drewN ?_ _ | refine Ext.setCell ?_ (by first | (simp only [World.size_alloc, World.size_setCell]; omega) | omega) _ | with_reducible refine Ext.trans ?_ (by with_reducible assumption))))) hg8; obtain ⟨q0, q1, q2, f0, f1, f2⟩ := LogAt.grown ⟨q0, q1, q2, f0, f1, f2⟩ hg8 (by omega); obtain ⟨z0, z1, z2, t0, t1, t2⟩ := LogAt.grown ⟨z0, z1, z2, t0, t1, t2⟩ hg8 (by omega); obtain ⟨y0, y1, x0, x1⟩ := RecAt.grown ⟨y0, y1, x0, x1⟩ hg8 (by omega); have hx8 := grown_fresh hg8 hx2 (by omega))
      show K _ _
      refine hK.out _ _ (by trivial) (fun hHeld => ?_)
      clear hK K
      try simp only [Act.put, List.getElem_toArray, List.getElem_cons_zero, List.getElem_cons_succ, List.setIfInBounds_toArray, List.set_cons_zero, List.set_cons_succ]
      refine wpAnyH_ready (rs := [3]) (by kernel_rfl) (by simp) ?_
      refine AllReadyH.cons rfl (fun K hK => ?_) AllReadyH.nil
      go_simp
      refine hK.out _ _ (by trivial) (fun hHeld => ?_)
      clear hK K
      try simp only [Act.put, List.getElem_toArray, List.getElem_cons_zero, List.getElem_cons_succ, List.setIfInBounds_toArray, List.set_cons_zero, List.set_cons_succ]
      refine wpAnyH_ready (rs := [4]) (by kernel_rfl) (by simp) ?_
      refine AllReadyH.cons rfl (fun K hK => ?_) AllReadyH.nil
      go_simp
      refine hK.out _ _ (by trivial) (fun hHeld => ?_)
      clear hK K
      try simp only [Act.put, List.getElem_toArray, List.getElem_cons_zero, List.getElem_cons_succ, List.setIfInBounds_toArray, List.set_cons_zero, List.set_cons_succ]
      refine wpAnyH_done (by kernel_rfl) ?_ _
    rotate_left 1
    focus
      go_simp
      (go_at_call 57; refine (c_spec_l1Cur_logRecord _ n k _ a _ (hc2.ext (by (repeat (first | with_reducible assumption | with_reducible exact Ext.refl _ | with_reducible refine Ext.alloc ?_ _ | with_reducible refine Ext.drew ?_ | with_reducible refine Ext.drewN ?_ _ | refine Ext.setCell ?_ (by first | (simp only [World.size_alloc, World.size_setCell]; omega) | omega) _ | with_reducible refine Ext.trans ?_ (by with_reducible assumption))))) (by omega)).mono ?_; rintro e w8 ⟨c, r, rfl, hc8, hr8, hc8', hg8⟩; replace hg8 := grownBy_trans (grownBy_ext (w := w2) (by (repeat (first | with_reducible assumption | with_reducible exact Ext.refl _ | with_reducible refine Ext.alloc ?_ _ | with_reducible refine Ext.drew ?_ | with_reducible refine Ext.drewN ?_ _ | refine Ext.setCell ?_ (by first | (simp only [World.size_alloc, World.size_setCell]; omega) | omega) _ | with_reducible refine Ext.trans ?_ (by with_reducible assumption))))) hg8; obtain ⟨q0, q1, q2, f0, f1, f2⟩ := LogAt.grown ⟨q0, q1, q2, f0, f1, f2⟩ hg8 (by omega); obtain ⟨z0, z1, z2, t0, t1, t2⟩ := LogAt.grown ⟨z0, z1, z2, t0, t1, t2⟩ hg8 (by omega); obtain ⟨y0, y1, x0, x1⟩ := RecAt.grown ⟨y0, y1, x0, x1⟩ hg8 (by omega); have hx8 := grown_fresh hg8 hx2 (by omega))
      show K _ _
      refine hK.out _ _ (by trivial) (fun hHeld => ?_)
      clear hK K
      try simp only [Act.put, List.getElem_toArray, List.getElem_cons_zero, List.getElem_cons_succ, List.setIfInBounds_toArray, List.set_cons_zero, List.set_cons_succ]
      refine wpAnyH_ready (rs := [0]) (by kernel_rfl) (by simp) ?_
      refine AllReadyH.cons rfl (fun K hK => ?_) AllReadyH.nil
      go_simp
      refine hK.out _ _ (by trivial) (fun hHeld => ?_)
      clear hK K
      try simp only [Act.put, List.getElem_toArray, List.getElem_cons_zero, List.getElem_cons_succ, List.setIfInBounds_toArray, List.set_cons_zero, List.set_cons_succ]
      refine wpAnyH_ready (rs := [3]) (by kernel_rfl) (by simp) ?_
      refine AllReadyH.cons rfl (fun K hK => ?_) AllReadyH.nil
      go_simp
      refine hK.out _ _ (by trivial) (fun hHeld => ?_)
      clear hK K
      try simp only [Act.put, List.getElem_toArray, List.getElem_cons_zero, List.getElem_cons_succ, List.setIfInBounds_toArray, List.set_cons_zero, List.set_cons_succ]
      refine wpAnyH_ready (rs := [4]) (by kernel_rfl) (by simp) ?_
      refine AllReadyH.cons rfl (fun K hK => ?_) AllReadyH.nil
      go_simp
      refine hK.out _ _ (by trivial) (fun hHeld => ?_)
      clear hK K
      try simp only [Act.put, List.getElem_toArray, List.getElem_cons_zero, List.getElem_cons_succ, List.setIfInBounds_toArray, List.set_cons_zero, List.set_cons_succ]
      refine wpAnyH_done (by kernel_rfl) ?_ _
    rotate_left 1
    all_goals
      go_wp2_with fail
      refine bodyPost_ret (v := .tuple #[.agg #[.string d, .string p, .int .i64 m], .agg #[.string c, .string r]]) ?_ rfl ⟨d, p, m, c, r, rfl, by omega, by omega, by omega, by omega, hc8, hr8, by (repeat (first | with_reducible assumption | with_reducible exact Ext.refl _ | with_reducible refine Ext.alloc ?_ _ | with_reducible refine Ext.drew ?_ | with_reducible refine Ext.drewN ?_ _ | refine Ext.setCell ?_ (by first | (simp only [World.size_alloc, World.size_setCell]; omega) | omega) _ | with_reducible refine Ext.trans ?_ (by with_reducible assumption)))⟩
      simp [results, Tryd.results39, go_sem, z0, z1, z2, y0, y1]
  · obtain ⟨q0, q1, q2, f0, f1, f2⟩ := L2
    go_wp2_with fail
    have LL := LogAt.stored ⟨q0, q1, q2, f0, f1, f2⟩ ⟨#[]⟩ ⟨#[]⟩ 0
    have ZZ := ((Z2.other (b := w1.heap.size) (o := 0) (u := .string ⟨#[]⟩) (by omega)).other (b := w1.heap.size) (o := 1) (u := .string ⟨#[]⟩) (by omega)).other (b := w1.heap.size) (o := 2) (u := .int .i64 0) (by omega)
    have YY := ((Y2.other (b := w1.heap.size) (o := 0) (u := .string ⟨#[]⟩) (by omega)).other (b := w1.heap.size) (o := 1) (u := .string ⟨#[]⟩) (by omega)).other (b := w1.heap.size) (o := 2) (u := .int .i64 0) (by omega)
    have hB : ∀ b o, a = some ⟨b, o, none⟩ → 0 < n → b < w.heap.size := hb.lt
    have hB' : ∀ b o, a = some ⟨b, o, none⟩ → 0 < n → b < w.heap.size + 1 + 1 + 1 := fun b o h h0 => by have := hB b o h h0; omega
    have CC := ((hc2.far hB' (by omega) w1.heap.size 0 (.string ⟨#[]⟩) (by omega)).far hB' (by omega) w1.heap.size 1 (.string ⟨#[]⟩) (by omega)).far hB' (by omega) w1.heap.size 2 (.int .i64 0) (by omega)
    have GG : Ext w (((w2.setCell ⟨w1.heap.size, 0, none⟩ (.string ⟨#[]⟩)).setCell ⟨w1.heap.size, 1, none⟩ (.string ⟨#[]⟩)).setCell ⟨w1.heap.size, 2, none⟩ (.int .i64 0)) := by (repeat (first | with_reducible assumption | with_reducible exact Ext.refl _ | with_reducible refine Ext.alloc ?_ _ | with_reducible refine Ext.drew ?_ | with_reducible refine Ext.drewN ?_ _ | refine Ext.setCell ?_ (by first | (simp only [World.size_alloc, World.size_setCell]; omega) | omega) _ | with_reducible refine Ext.trans ?_ (by with_reducible assumption)))
    generalize (((w2.setCell ⟨w1.heap.size, 0, none⟩ (.string ⟨#[]⟩)).setCell ⟨w1.heap.size, 1, none⟩ (.string ⟨#[]⟩)).setCell ⟨w1.heap.size, 2, none⟩ (.int .i64 0)) = w3 at LL ZZ YY CC GG ⊢
    clear q0 q1 q2 f0 f1 f2 Z2 Y2 hc2 hx2 hd hp m0 m1
    refine (c_spec_l1Cur_pick _ n k 72 2 a _ CC (by omega) (by decide)).mono ?_
    rintro e w4 ⟨x, rfl, x0, _, x1, hc4, hg4⟩
    obtain ⟨j, rfl⟩ := Int.eq_ofNat_of_zero_le x0
    have hj : j < 2 := by have := x1 (by decide); omega
    clear x1
    have L4 := LL.grown hg4 (by omega)
    have Z4 := ZZ.grown hg4 (by omega)
    have Y4 := YY.grown hg4 (by omega)
    have hx4 := grown_fresh hg4 GG (by omega)
    have hw := IntWalk.i64_in (59 + (j : Int)) (by omega)
    clear hg4 LL ZZ YY CC GG
    go_wp2_with fail
    go_loopw [6] (fun c wr => ∃ (r : Nat) (d p : ByteArray) (m : Int), c = .int .i64 r ∧ r ≤ 60 ∧ Cur wr (w.heap.size + 1 + 1) a n k 74 ∧ LogAt wr w1.heap.size d p m ∧ LogAt wr w.heap.size ⟨#[]⟩ ⟨#[]⟩ 0 ∧ RecAt wr (w.heap.size + 1) ⟨#[]⟩ ⟨#[]⟩ ∧ d.size = 0 ∧ p.size ≤ 501 * (60 - r) ∧ 0 ≤ m ∧ m ≤ 60 - r ∧ Ext w wr) (fun c _ => (intOf c).toNat)
    case atStart => exact ⟨59 + j, ⟨#[]⟩, ⟨#[]⟩, 0, by rw [show ((59 + j : Nat) : Int) = 59 + (j : Int) by omega], by omega, hc4, L4, Z4, Y4, rfl, Nat.zero_le _, by omega, by omega, hx4⟩
    case round =>
      obtain ⟨r, d, p, m, rfl, hr, hcr, hL, hZ, hY, hd0, hs, m0, m1, hG⟩ := hrel
      have ml : 8 ≤ maxLen := by decide
      by_cases hp : 0 < r
      · obtain ⟨q0, q1, q2, f0, f1, f2⟩ := hL
        go_wp2_with fail
        refine (c_spec_AppendRecord d p m ⟨#[120]⟩ ⟨#[]⟩ _ (by omega) (by omega) (by decide) (by decide)).mono ?_
        rintro e w5 ⟨rfl, hb5⟩
        obtain ⟨q0, q1, q2, f0, f1, f2⟩ := LogAt.ext ⟨q0, q1, q2, f0, f1, f2⟩ hb5
        have hsz := appP_size d p m ⟨#[120]⟩ ⟨#[]⟩ m0 (by omega) (by decide) (by decide)
        have hsn := appN_rng d p m ⟨#[120]⟩ ⟨#[]⟩
        generalize appP d p m ⟨#[120]⟩ ⟨#[]⟩ = p5 at hsz ⊢
        generalize appN d p m ⟨#[120]⟩ ⟨#[]⟩ = m5 at hsn ⊢
        generalize appK d p m ⟨#[120]⟩ ⟨#[]⟩ = k5
        go_wp2_with fail
        have LL := LogAt.stored ⟨q0, q1, q2, f0, f1, f2⟩ d p5 m5
        have ZZ := (((hZ.ext hb5).other (b := w1.heap.size) (o := 0) (u := .string d) (by omega)).other (b := w1.heap.size) (o := 1) (u := .string p5) (by omega)).other (b := w1.heap.size) (o := 2) (u := .int .i64 m5) (by omega)
        have YY := (((hY.ext hb5).other (b := w1.heap.size) (o := 0) (u := .string d) (by omega)).other (b := w1.heap.size) (o := 1) (u := .string p5) (by omega)).other (b := w1.heap.size) (o := 2) (u := .int .i64 m5) (by omega)
        have CC := (((hcr.ext hb5).far hB' (by omega) w1.heap.size 0 (.string d) (by omega)).far hB' (by omega) w1.heap.size 1 (.string p5) (by omega)).far hB' (by omega) w1.heap.size 2 (.int .i64 m5) (by omega)
        exact ⟨⟨r - 1, d, p5, m5, by rw [show ((r - 1 : Nat) : Int) = (r : Int) - 1 by omega], by omega, CC, LL, ZZ, YY, hd0, by omega, by omega, by omega, by (repeat (first | with_reducible assumption | with_reducible exact Ext.refl _ | with_reducible refine Ext.alloc ?_ _ | with_reducible refine Ext.drew ?_ | with_reducible refine Ext.drewN ?_ _ | refine Ext.setCell ?_ (by first | (simp only [World.size_alloc, World.size_setCell]; omega) | omega) _ | with_reducible refine Ext.trans ?_ (by with_reducible assumption)))⟩, by simp only [intOf]; omega⟩
      · obtain ⟨q0, q1, q2, f0, f1, f2⟩ := hL
        obtain ⟨z0, z1, z2, t0, t1, t2⟩ := hZ
        obtain ⟨y0, y1, x0, x1⟩ := hY
        go_wp2_with fail
        refine wp_region_held_drew (S := (fun w' => True)) (by kernel_rfl) ?_ (fun hHeld => ?_)
        · trivial
        refine wpAnyH_take (i := 1) (v := ?_) rfl (by kernel_rfl) (by kernel_rfl) (by kernel_rfl) (fun _ _ _ h => h) (Or.inl ⟨by rfl, ?_⟩) (by assumption) ?_
        rotate_left
        · (intro w hSw; (try dsimp only at hSw); go_simp; (try with_reducible rfl))
        try simp only [Act.put, List.getElem_toArray, List.getElem_cons_zero, List.getElem_cons_succ, List.setIfInBounds_toArray, List.set_cons_zero, List.set_cons_succ]
        refine wpAnyH_ready (rs := [0, 2]) (by kernel_rfl) (by simp) ?_
        refine AllReadyH.cons rfl (fun K hK => ?_) (AllReadyH.cons rfl (fun K hK => ?_) (AllReadyH.nil))
        focus
          go_simp
          refine hK.out _ _ (by trivial) (fun hHeld => ?_)
          clear hK K
          try simp only [Act.put, List.getElem_toArray, List.getElem_cons_zero, List.getElem_cons_succ, List.setIfInBounds_toArray, List.set_cons_zero, List.set_cons_succ]
          refine wpAnyH_ready (rs := [2]) (by kernel_rfl) (by simp) ?_
          refine AllReadyH.cons rfl (fun K hK => ?_) AllReadyH.nil
          go_simp
          (go_at_call 57; refine (c_spec_l1Cur_logRecord _ n k _ a _ (hcr.ext (by (repeat (first | with_reducible assumption | with_reducible exact Ext.refl _ | with_reducible refine Ext.alloc ?_ _ | with_reducible refine Ext.drew ?_ | with_reducible refine Ext.drewN ?_ _ | refine Ext.setCell ?_ (by first | (simp only [World.size_alloc, World.size_setCell]; omega) | omega) _ | with_reducible refine Ext.trans ?_ (by with_reducible assumption))))) (by omega)).mono ?_; rintro e w8 ⟨c, r, rfl, hc8, hr8, hc8', hg8⟩; replace hg8 := grownBy_trans (grownBy_ext (w := wr) (by (repeat (first | with_reducible assumption | with_reducible exact Ext.refl _ | with_reducible refine Ext.alloc ?_ _ | with_reducible refine Ext.drew ?_ | with_reducible refine Ext.drewN ?_ _ | refine Ext.setCell ?_ (by first | (simp only [World.size_alloc, World.size_setCell]; omega) | omega) _ | with_reducible refine Ext.trans ?_ (by with_reducible assumption))))) hg8; obtain ⟨q0, q1, q2, f0, f1, f2⟩ := LogAt.grown ⟨q0, q1, q2, f0, f1, f2⟩ hg8 (by omega); obtain ⟨z0, z1, z2, t0, t1, t2⟩ := LogAt.grown ⟨z0, z1, z2, t0, t1, t2⟩ hg8 (by omega); obtain ⟨y0, y1, x0, x1⟩ := RecAt.grown ⟨y0, y1, x0, x1⟩ hg8 (by omega); have hx8 := grown_fresh hg8 hG (by omega))
          show K _ _
          refine hK.out _ _ (by trivial) (fun hHeld => ?_)
          clear hK K
          try simp only [Act.put, List.getElem_toArray, List.getElem_cons_zero, List.getElem_cons_succ, List.setIfInBounds_toArray, List.set_cons_zero, List.set_cons_succ]
          refine wpAnyH_ready (rs := [3]) (by kernel_rfl) (by simp) ?_
          refine AllReadyH.cons rfl (fun K hK => ?_) AllReadyH.nil
          go_simp
          refine hK.out _ _ (by trivial) (fun hHeld => ?_)
          clear hK K
          try simp only [Act.put, List.getElem_toArray, List.getElem_cons_zero, List.getElem_cons_succ, List.setIfInBounds_toArray, List.set_cons_zero, List.set_cons_succ]
          refine wpAnyH_ready (rs := [4]) (by kernel_rfl) (by simp) ?_
          refine AllReadyH.cons rfl (fun K hK => ?_) AllReadyH.nil
          go_simp
          refine hK.out _ _ (by trivial) (fun hHeld => ?_)
          clear hK K
          try simp only [Act.put, List.getElem_toArray, List.getElem_cons_zero, List.getElem_cons_succ, List.setIfInBounds_toArray, List.set_cons_zero, List.set_cons_succ]
          refine wpAnyH_done (by kernel_rfl) ?_ _
        rotate_left 1
        focus
          go_simp
          (go_at_call 57; refine (c_spec_l1Cur_logRecord _ n k _ a _ (hcr.ext (by (repeat (first | with_reducible assumption | with_reducible exact Ext.refl _ | with_reducible refine Ext.alloc ?_ _ | with_reducible refine Ext.drew ?_ | with_reducible refine Ext.drewN ?_ _ | refine Ext.setCell ?_ (by first | (simp only [World.size_alloc, World.size_setCell]; omega) | omega) _ | with_reducible refine Ext.trans ?_ (by with_reducible assumption))))) (by omega)).mono ?_; rintro e w8 ⟨c, r, rfl, hc8, hr8, hc8', hg8⟩; replace hg8 := grownBy_trans (grownBy_ext (w := wr) (by (repeat (first | with_reducible assumption | with_reducible exact Ext.refl _ | with_reducible refine Ext.alloc ?_ _ | with_reducible refine Ext.drew ?_ | with_reducible refine Ext.drewN ?_ _ | refine Ext.setCell ?_ (by first | (simp only [World.size_alloc, World.size_setCell]; omega) | omega) _ | with_reducible refine Ext.trans ?_ (by with_reducible assumption))))) hg8; obtain ⟨q0, q1, q2, f0, f1, f2⟩ := LogAt.grown ⟨q0, q1, q2, f0, f1, f2⟩ hg8 (by omega); obtain ⟨z0, z1, z2, t0, t1, t2⟩ := LogAt.grown ⟨z0, z1, z2, t0, t1, t2⟩ hg8 (by omega); obtain ⟨y0, y1, x0, x1⟩ := RecAt.grown ⟨y0, y1, x0, x1⟩ hg8 (by omega); have hx8 := grown_fresh hg8 hG (by omega))
          show K _ _
          refine hK.out _ _ (by trivial) (fun hHeld => ?_)
          clear hK K
          try simp only [Act.put, List.getElem_toArray, List.getElem_cons_zero, List.getElem_cons_succ, List.setIfInBounds_toArray, List.set_cons_zero, List.set_cons_succ]
          refine wpAnyH_ready (rs := [0]) (by kernel_rfl) (by simp) ?_
          refine AllReadyH.cons rfl (fun K hK => ?_) AllReadyH.nil
          go_simp
          refine hK.out _ _ (by trivial) (fun hHeld => ?_)
          clear hK K
          try simp only [Act.put, List.getElem_toArray, List.getElem_cons_zero, List.getElem_cons_succ, List.setIfInBounds_toArray, List.set_cons_zero, List.set_cons_succ]
          refine wpAnyH_ready (rs := [3]) (by kernel_rfl) (by simp) ?_
          refine AllReadyH.cons rfl (fun K hK => ?_) AllReadyH.nil
          go_simp
          refine hK.out _ _ (by trivial) (fun hHeld => ?_)
          clear hK K
          try simp only [Act.put, List.getElem_toArray, List.getElem_cons_zero, List.getElem_cons_succ, List.setIfInBounds_toArray, List.set_cons_zero, List.set_cons_succ]
          refine wpAnyH_ready (rs := [4]) (by kernel_rfl) (by simp) ?_
          refine AllReadyH.cons rfl (fun K hK => ?_) AllReadyH.nil
          go_simp
          refine hK.out _ _ (by trivial) (fun hHeld => ?_)
          clear hK K
          try simp only [Act.put, List.getElem_toArray, List.getElem_cons_zero, List.getElem_cons_succ, List.setIfInBounds_toArray, List.set_cons_zero, List.set_cons_succ]
          refine wpAnyH_done (by kernel_rfl) ?_ _
        rotate_left 1
        all_goals
          go_wp2_with fail
          refine bodyPost_ret (v := .tuple #[.agg #[.string d, .string p, .int .i64 m], .agg #[.string c, .string r]]) ?_ rfl ⟨d, p, m, c, r, rfl, by omega, by omega, by omega, by omega, hc8, hr8, by (repeat (first | with_reducible assumption | with_reducible exact Ext.refl _ | with_reducible refine Ext.alloc ?_ _ | with_reducible refine Ext.drew ?_ | with_reducible refine Ext.drewN ?_ _ | refine Ext.setCell ?_ (by first | (simp only [World.size_alloc, World.size_setCell]; omega) | omega) _ | with_reducible refine Ext.trans ?_ (by with_reducible assumption)))⟩
          simp [results, Tryd.results39, go_sem, z0, z1, z2, y0, y1]
end Go.Proofs.YteapfbfoegphkaaDoor
