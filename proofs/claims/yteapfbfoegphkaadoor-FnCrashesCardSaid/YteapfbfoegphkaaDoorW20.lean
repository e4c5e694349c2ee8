/-
  Walks: the laws' small helpers on codes and rows.
-/
import Derived.Test.YteapfbfoegphkaaDoorW19
import Derived.Deep.AppendLies
import Derived.Deep.DeepMust
namespace Go.Proofs.YteapfbfoegphkaaDoor
open Go.RowKit
set_option linter.unusedVariables false
set_option linter.unusedSimpArgs false
attribute [local irreducible] decS sumL sumB sealB textB lineB encOk encStr acOk acStr pieces mkB piecesB splitB upL behL cutA cutZ verOk verStr rcI rrI okI aheadS preS restS atS rcS rrS okS inR okByte printed hasByte fits someB cmdB recB
attribute [local irreducible] validB endsB logAt

theorem c_laws_vBig (a : Option Addr) (n k : Nat) (w : World) :
    Calls Tryd.prog 34 #[.slice a n k] w fun e w' => e = .returned (.bool (decide (65536 < (n : Int)))) ∧ Ext w w' := by
  go_enter Tryd.func34, Tryd.ntmps34
  go_wp2
  go_ret
  exact ⟨rfl, by (repeat (first | with_reducible assumption | with_reducible exact Ext.refl _ | with_reducible refine Ext.alloc ?_ _ | with_reducible refine Ext.drew ?_ | with_reducible refine Ext.drewN ?_ _ | refine Ext.setCell ?_ (by first | (simp only [World.size_alloc, World.size_setCell]; omega) | omega) _ | with_reducible refine Ext.trans ?_ (by with_reducible assumption)))⟩
theorem wpList_append_nil {P : Program} {w : World} {ops : Array Oper} {rest : List Oper} {o : Oper} {a : Act} {Q : Exit → Act → World → Prop} (hgd : o.guard = none) (s x : Operand) (t : TypeId)
    (ho : o.op = .call { callee := .builtin .append, args := #[s, x], argTypes := #[t, t] })
    (base : Nat) (e : TypeId) (i : TypeInfo) (size : Nat) (ht : P.underlying t = some (.slice e)) (hi : P.info? e = some i)
    (v : Value) (n : Nat) (xs : List Value) (hs : a.eval s = v) (hown : w.ownsRow base e size v n xs) (hx : a.eval x = .slice none 0 0)
    (h : wpList P ops Q rest (a.put o.dst v) w) : wpList P ops Q (o :: rest) a w := by
  have hr := run_append_owned_none (P := P) w base t o.type e i size ht hi v n xs hown
  refine wpList_plain hgd fun K hK => ?_
  unfold Oper.wp execOp
  simp only [ho, resolve, invoke, builtin, Sem.run_bind, Sem.run_pure, Result.andThen_ok, List.map_toArray, List.map_cons, List.map_nil, hs, hx, hr]
  exact hK _ _ h
theorem addp (b o i : Nat) : (⟨b, o, none⟩ : Addr).add i = ⟨b, o + i, none⟩ := by
  unfold Addr.add
  split <;> simp_all
theorem BytesV.news {w : World} {A : Addr} {n : Nat} (h : BytesV w (some A) n) (t : Nat) (ht : t ≤ n) : ∃ news : List Value, news.length = (n - t) * 1 ∧ ∀ j u, news[j]? = some u → (w.cell? ((A.add t).add j) = some u ∧ (t = 0 → w.cell? (A.add j) = some u)) ∧ u.oneCell' = true ∧ ∃ x : Int, u = .int .u8 x ∧ 0 ≤ x ∧ x ≤ 255 := by
  by_cases h0 : n - t = 0
  · exact ⟨[], by simp [h0], fun j u hj => by simp at hj⟩
  · rcases h with h | ⟨b, o, ha, h⟩
    · omega
    · cases ha
      refine ⟨(List.range (n - t)).map (fun j => (w.cell? ⟨b, o + (t + j), none⟩).getD undef), by simp, fun j u hj => ?_⟩
      have hjl : j < n - t := by
        by_cases hh : j < n - t
        · exact hh
        · rw [List.getElem?_eq_none (by simp; omega)] at hj; cases hj
      obtain ⟨x, hx, hx0⟩ := h (t + j) (by omega)
      simp [hjl, hx] at hj
      subst hj
      refine ⟨⟨?_, fun ht0 => ?_⟩, rfl, x, rfl, hx0⟩
      · rw [addp, addp, Nat.add_assoc]; exact hx
      · subst ht0; rw [addp]; simpa using hx
theorem BytesV.own {w : World} {base g cap n : Nat} {xs : List Value} (h : w.ownsRow base 5 1 (.slice (some ⟨g, 0, none⟩) n cap) n xs) (hx : ∀ u ∈ xs, ∃ x : Int, u = .int .u8 x ∧ 0 ≤ x ∧ x ≤ 255) : BytesV w (some ⟨g, 0, none⟩) n := by
  refine .inr ⟨g, 0, rfl, fun i hi => ?_⟩
  have hl : xs.length = n * 1 := h.1
  have hil : i < xs.length := by omega
  obtain ⟨x, hx, hb⟩ := hx xs[i] (List.getElem_mem hil)
  refine ⟨x, ?_, hb⟩
  rw [Nat.zero_add]
  exact own_cell h i _ (by rw [← hx]; simp [hil])
set_option maxRecDepth 100000 in
set_option maxHeartbeats 1600000 in
theorem c_laws_vCut (a : Option Addr) (n k : Nat) (m : Nat) (w : World) (hb : BytesV w a n) (hn : n ≤ 65536) (hk : n ≤ k) (hkm : k ≤ maxLen) (ha : a = none → k = 0) (hm : m ≤ 3) :
    Calls Tryd.prog 37 #[.slice a n k, .int .i64 m] w fun e w' => ∃ g n' k', e = .returned (.slice (some ⟨g, 0, none⟩) n' k') ∧ n' ≤ 65537 ∧ BytesV w' (some ⟨g, 0, none⟩) n' ∧ Ext w w' := by
  obtain ⟨j0, hj, hy0, hy1, hy2⟩ := info_parts infoU8
  cases a with
  | none =>
    obtain rfl := ha rfl
    obtain rfl : n = 0 := by omega
    by_cases hm0 : m = 0
    · subst hm0
      go_enter Tryd.func37, Tryd.ntmps37
      go_wp2_with (first | (at_builtin; refine wpList_append_nil rfl (.tmp 11) (.tmp 14) 53 rfl w.heap.size 5 j0 1 Tryd.underlying53 hj (.slice (some ⟨w.heap.size, 0, none⟩) 0 0) 0 [] rfl (World.ownsRow_lit w #[] 0 (Nat.le_refl _) (by decide) rfl) rfl ?_) | (at_builtin; go_must (refine wpList_append_lies _ rfl (.tmp 15) (.tmp 18) 53 rfl w.heap.size 5 j0 _ 1 1 Tryd.underlying53 hj hy0 hy1 hy2 rfl (by decide) (.slice (some ⟨w.heap.size, 0, none⟩) 0 0) 0 [] rfl ((World.ownsRow_lit (base := w.heap.size) (e := 5) (size := 1) w #[] 0 (Nat.le_refl _) (by decide) rfl).alloc _) ⟨w.heap.size + 1, 0, none⟩ 1 1 [.int .u8 0] rfl rfl (one_cell (by simp)) (by intro u hu; simp at hu; subst hu; rfl) (by decide) (by unfold maxLen; omega) (by omega) (by simp; omega) _ rfl ?_); intro g2 cap2 w2 own2 grow2 hat2 hlt2; have hx2 : Ext w w2 := Ext.grown (Ext.alloc ((Ext.refl w).alloc _) _) grow2 ((World.ownsRow_lit (base := w.heap.size) (e := 5) (size := 1) w #[] 0 (Nat.le_refl _) (by decide) rfl).alloc (.cells #[.int .u8 0] 5)) (Nat.le_refl _); have by2 := BytesV.own own2 (by intro u hu; simp at hu; subst hu; exact ⟨0, rfl, by decide, by decide⟩)))
      go_ret
      first | exact ⟨_, _, ⟨_, rfl⟩, by omega, by2, hx2⟩ | exact ⟨_, _, _, rfl, by omega, (by rw [Nat.zero_add] at by2; exact by2), hx2⟩
    · have hm1 : 0 < m := by omega
      go_enter Tryd.func37, Tryd.ntmps37
      go_wp2_with (first | (at_builtin; refine wpList_append_nil rfl (.tmp 11) (.tmp 14) 53 rfl w.heap.size 5 j0 1 Tryd.underlying53 hj (.slice (some ⟨w.heap.size, 0, none⟩) 0 0) 0 [] rfl (World.ownsRow_lit w #[] 0 (Nat.le_refl _) (by decide) rfl) rfl ?_) | (at_builtin; go_must (refine wpList_append_lies _ rfl (.tmp 15) (.tmp 18) 53 rfl w.heap.size 5 j0 _ 1 1 Tryd.underlying53 hj hy0 hy1 hy2 rfl (by decide) (.slice (some ⟨w.heap.size, 0, none⟩) 0 0) 0 [] rfl ((World.ownsRow_lit (base := w.heap.size) (e := 5) (size := 1) w #[] 0 (Nat.le_refl _) (by decide) rfl).alloc _) ⟨w.heap.size + 1, 0, none⟩ 1 1 [.int .u8 0] rfl rfl (one_cell (by simp)) (by intro u hu; simp at hu; subst hu; rfl) (by decide) (by unfold maxLen; omega) (by omega) (by simp; omega) _ rfl ?_); intro g2 cap2 w2 own2 grow2 hat2 hlt2; have hx2 : Ext w w2 := Ext.grown (Ext.alloc ((Ext.refl w).alloc _) _) grow2 ((World.ownsRow_lit (base := w.heap.size) (e := 5) (size := 1) w #[] 0 (Nat.le_refl _) (by decide) rfl).alloc (.cells #[.int .u8 0] 5)) (Nat.le_refl _); have by2 := BytesV.own own2 (by intro u hu; simp at hu; subst hu; exact ⟨0, rfl, by decide, by decide⟩)))
      go_ret
      first | exact ⟨_, _, ⟨_, rfl⟩, by omega, by2, hx2⟩ | exact ⟨_, _, _, rfl, by omega, (by rw [Nat.zero_add] at by2; exact by2), hx2⟩
  | some A =>
    have hwu : ∀ t : Nat, t ≤ 3 → IntKind.u8.wrap (t : Int) = t := by
      intro t ht
      have : t = 0 ∨ t = 1 ∨ t = 2 ∨ t = 3 := by omega
      rcases this with rfl | rfl | rfl | rfl <;> rfl
    by_cases hmn : n < m
    · have hw := hwu n (by omega)
      obtain ⟨news, hnl, hN⟩ := hb.news n (Nat.le_refl _)
      rw [Nat.sub_self] at hnl
      by_cases hkn : k = n
      · subst hkn
        have hnw : news = [] := List.eq_nil_of_length_eq_zero hnl
        go_enter Tryd.func37, Tryd.ntmps37
        go_wp2_with (first | (at_builtin; (refine wpList_append_own_at _ rfl (.tmp 11) (.tmp 14) 53 rfl w.heap.size 5 j0 _ 1 1 Tryd.underlying53 hj hy0 hy1 hy2 rfl (by decide) (.slice (some ⟨w.heap.size, 0, none⟩) 0 0) 0 [] rfl (World.ownsRow_lit w #[] 0 (Nat.le_refl _) (by decide) rfl) A 0 _ news rfl hnl (fun j u hu => by rw [hnw] at hu; simp at hu) (fun u hu => by obtain ⟨j, hj⟩ := List.getElem?_of_mem hu; exact (hN j u hj).2.1) (by unfold maxLen; omega) (by omega) (by simp) ?_); intro v1 w1 own1 grow1 hnil1 hat1; have hx1 : Ext w w1 := Ext.grown (Ext.alloc (Ext.refl w) _) grow1 (World.ownsRow_lit (base := w.heap.size) (e := 5) (size := 1) w #[] 0 (Nat.le_refl _) (by decide) rfl) (Nat.le_refl _); (try simp only [List.nil_append] at own1)) | (at_builtin; go_must (refine wpList_append_lies _ rfl (.tmp 15) (.tmp 18) 53 rfl w.heap.size 5 j0 _ 1 1 Tryd.underlying53 hj hy0 hy1 hy2 rfl (by decide) v1 (0 + 0) news rfl (own1.alloc _) ⟨w1.heap.size, 0, none⟩ 1 1 [.int .u8 (k : Int)] rfl rfl (one_cell (by simp)) (by intro u hu; simp at hu; subst hu; rfl) (by decide) (by unfold maxLen; omega) (by omega) (by have := Below.size hx1; simp; omega) _ rfl ?_); intro g2 cap2 w2 own2 grow2 hat2 hlt2; have hx2 : Ext w w2 := Ext.grown (Ext.alloc hx1 _) grow2 (own1.alloc (.cells #[.int .u8 (k : Int)] 5)) (Nat.le_refl _); have by2 := BytesV.own own2 (by intro u hu; rcases List.mem_append.1 hu with hu | hu; exact (let ⟨j, hj⟩ := List.getElem?_of_mem hu; (hN j u hj).2.2); (simp at hu; subst hu; exact ⟨_, rfl, by omega, by omega⟩))))
        all_goals go_ret
        all_goals first | exact ⟨_, _, ⟨_, rfl⟩, by omega, by2, hx2⟩ | exact ⟨_, _, _, rfl, by omega, (by rw [Nat.zero_add] at by2; exact by2), hx2⟩
      · have hkn' : ¬ n = k := fun h => hkn h.symm
        go_enter Tryd.func37, Tryd.ntmps37
        go_wp2_with (first | (at_builtin; (refine wpList_append_own_at _ rfl (.tmp 11) (.tmp 14) 53 rfl w.heap.size 5 j0 _ 1 1 Tryd.underlying53 hj hy0 hy1 hy2 rfl (by decide) (.slice (some ⟨w.heap.size, 0, none⟩) 0 0) 0 [] rfl (World.ownsRow_lit w #[] 0 (Nat.le_refl _) (by decide) rfl) (A.add n) 0 _ news rfl hnl (fun j u hu => ((Ext.refl w).alloc _).keep (hN j u hu).1.1) (fun u hu => by obtain ⟨j, hj⟩ := List.getElem?_of_mem hu; exact (hN j u hj).2.1) (by unfold maxLen; omega) (by omega) (by simp) ?_); intro v1 w1 own1 grow1 hnil1 hat1; have hx1 : Ext w w1 := Ext.grown (Ext.alloc (Ext.refl w) _) grow1 (World.ownsRow_lit (base := w.heap.size) (e := 5) (size := 1) w #[] 0 (Nat.le_refl _) (by decide) rfl) (Nat.le_refl _); (try simp only [List.nil_append] at own1)) | (at_builtin; go_must (refine wpList_append_lies _ rfl (.tmp 15) (.tmp 18) 53 rfl w.heap.size 5 j0 _ 1 1 Tryd.underlying53 hj hy0 hy1 hy2 rfl (by decide) v1 (0 + 0) news rfl (own1.alloc _) ⟨w1.heap.size, 0, none⟩ 1 1 [.int .u8 (n : Int)] rfl rfl (one_cell (by simp)) (by intro u hu; simp at hu; subst hu; rfl) (by decide) (by unfold maxLen; omega) (by omega) (by have := Below.size hx1; simp; omega) _ rfl ?_); intro g2 cap2 w2 own2 grow2 hat2 hlt2; have hx2 : Ext w w2 := Ext.grown (Ext.alloc hx1 _) grow2 (own1.alloc (.cells #[.int .u8 (n : Int)] 5)) (Nat.le_refl _); have by2 := BytesV.own own2 (by intro u hu; rcases List.mem_append.1 hu with hu | hu; exact (let ⟨j, hj⟩ := List.getElem?_of_mem hu; (hN j u hj).2.2); (simp at hu; subst hu; exact ⟨_, rfl, by omega, by omega⟩))))
        all_goals go_ret
        all_goals first | exact ⟨_, _, ⟨_, rfl⟩, by omega, by2, hx2⟩ | exact ⟨_, _, _, rfl, by omega, (by rw [Nat.zero_add] at by2; exact by2), hx2⟩
    · have hw := hwu m (by omega)
      obtain ⟨news, hnl, hN⟩ := hb.news m (by omega)
      by_cases hkn : k = m
      · subst hkn
        obtain rfl : n = k := by omega
        have hnw : news = [] := List.eq_nil_of_length_eq_zero (by rw [hnl]; omega)
        rw [Nat.sub_self] at hnl
        go_enter Tryd.func37, Tryd.ntmps37
        go_wp2_with (first | (at_builtin; (refine wpList_append_own_at _ rfl (.tmp 11) (.tmp 14) 53 rfl w.heap.size 5 j0 _ 1 1 Tryd.underlying53 hj hy0 hy1 hy2 rfl (by decide) (.slice (some ⟨w.heap.size, 0, none⟩) 0 0) 0 [] rfl (World.ownsRow_lit w #[] 0 (Nat.le_refl _) (by decide) rfl) A 0 _ news rfl hnl (fun j u hu => by rw [hnw] at hu; simp at hu) (fun u hu => by obtain ⟨j, hj⟩ := List.getElem?_of_mem hu; exact (hN j u hj).2.1) (by unfold maxLen; omega) (by omega) (by simp) ?_); intro v1 w1 own1 grow1 hnil1 hat1; have hx1 : Ext w w1 := Ext.grown (Ext.alloc (Ext.refl w) _) grow1 (World.ownsRow_lit (base := w.heap.size) (e := 5) (size := 1) w #[] 0 (Nat.le_refl _) (by decide) rfl) (Nat.le_refl _); (try simp only [List.nil_append] at own1)) | (at_builtin; go_must (refine wpList_append_lies _ rfl (.tmp 15) (.tmp 18) 53 rfl w.heap.size 5 j0 _ 1 1 Tryd.underlying53 hj hy0 hy1 hy2 rfl (by decide) v1 (0 + 0) news rfl (own1.alloc _) ⟨w1.heap.size, 0, none⟩ 1 1 [.int .u8 (n : Int)] rfl rfl (one_cell (by simp)) (by intro u hu; simp at hu; subst hu; rfl) (by decide) (by unfold maxLen; omega) (by omega) (by have := Below.size hx1; simp; omega) _ rfl ?_); intro g2 cap2 w2 own2 grow2 hat2 hlt2; have hx2 : Ext w w2 := Ext.grown (Ext.alloc hx1 _) grow2 (own1.alloc (.cells #[.int .u8 (n : Int)] 5)) (Nat.le_refl _); have by2 := BytesV.own own2 (by intro u hu; rcases List.mem_append.1 hu with hu | hu; exact (let ⟨j, hj⟩ := List.getElem?_of_mem hu; (hN j u hj).2.2); (simp at hu; subst hu; exact ⟨_, rfl, by omega, by omega⟩))))
        all_goals go_ret
        all_goals first | exact ⟨_, _, ⟨_, rfl⟩, by omega, by2, hx2⟩ | exact ⟨_, _, _, rfl, by omega, (by rw [Nat.zero_add] at by2; exact by2), hx2⟩
      · have hkn' : ¬ m = k := fun h => hkn h.symm
        go_enter Tryd.func37, Tryd.ntmps37
        go_wp2_with (first | (at_builtin; (refine wpList_append_own_at _ rfl (.tmp 11) (.tmp 14) 53 rfl w.heap.size 5 j0 _ 1 1 Tryd.underlying53 hj hy0 hy1 hy2 rfl (by decide) (.slice (some ⟨w.heap.size, 0, none⟩) 0 0) 0 [] rfl (World.ownsRow_lit w #[] 0 (Nat.le_refl _) (by decide) rfl) (A.add m) (n - m) _ news rfl hnl (fun j u hu => ((Ext.refl w).alloc _).keep (hN j u hu).1.1) (fun u hu => by obtain ⟨j, hj⟩ := List.getElem?_of_mem hu; exact (hN j u hj).2.1) (by unfold maxLen; omega) (by omega) (by simp) ?_); intro v1 w1 own1 grow1 hnil1 hat1; have hx1 : Ext w w1 := Ext.grown (Ext.alloc (Ext.refl w) _) grow1 (World.ownsRow_lit (base := w.heap.size) (e := 5) (size := 1) w #[] 0 (Nat.le_refl _) (by decide) rfl) (Nat.le_refl _); (try simp only [List.nil_append] at own1)) | (at_builtin; go_must (refine wpList_append_lies _ rfl (.tmp 15) (.tmp 18) 53 rfl w.heap.size 5 j0 _ 1 1 Tryd.underlying53 hj hy0 hy1 hy2 rfl (by decide) v1 (0 + (n - m)) news rfl (own1.alloc _) ⟨w1.heap.size, 0, none⟩ 1 1 [.int .u8 (m : Int)] rfl rfl (one_cell (by simp)) (by intro u hu; simp at hu; subst hu; rfl) (by decide) (by unfold maxLen; omega) (by omega) (by have := Below.size hx1; simp; omega) _ rfl ?_); intro g2 cap2 w2 own2 grow2 hat2 hlt2; have hx2 : Ext w w2 := Ext.grown (Ext.alloc hx1 _) grow2 (own1.alloc (.cells #[.int .u8 (m : Int)] 5)) (Nat.le_refl _); have by2 := BytesV.own own2 (by intro u hu; rcases List.mem_append.1 hu with hu | hu; exact (let ⟨j, hj⟩ := List.getElem?_of_mem hu; (hN j u hj).2.2); (simp at hu; subst hu; exact ⟨_, rfl, by omega, by omega⟩))))
        all_goals go_ret
        all_goals first | exact ⟨_, _, ⟨_, rfl⟩, by omega, by2, hx2⟩ | exact ⟨_, _, _, rfl, by omega, (by rw [Nat.zero_add] at by2; exact by2), hx2⟩
theorem vRecords_none (a1 a2 : Option Addr) (k1 k2 : Nat) (w : World) :
    Calls Tryd.prog 42 #[.slice a1 0 k1, .slice a2 0 k2] w fun e w' => e = .returned (.bool true) ∧ Ext w w' := by
  go_enter Tryd.func42, Tryd.ntmps42
  go_wp2
  go_loopw [5] (fun a wr => a = .int .i64 0 ∧ Ext w wr) (fun a _ => 0)
  case atStart => exact ⟨rfl, by (repeat (first | with_reducible assumption | with_reducible exact Ext.refl _ | with_reducible refine Ext.alloc ?_ _ | with_reducible refine Ext.drew ?_ | with_reducible refine Ext.drewN ?_ _ | refine Ext.setCell ?_ (by first | (simp only [World.size_alloc, World.size_setCell]; omega) | omega) _ | with_reducible refine Ext.trans ?_ (by with_reducible assumption)))⟩
  case round =>
    obtain ⟨rfl, hx⟩ := hrel
    go_wp2
    go_ret
    exact ⟨rfl, by (repeat (first | with_reducible assumption | with_reducible exact Ext.refl _ | with_reducible refine Ext.alloc ?_ _ | with_reducible refine Ext.drew ?_ | with_reducible refine Ext.drewN ?_ _ | refine Ext.setCell ?_ (by first | (simp only [World.size_alloc, World.size_setCell]; omega) | omega) _ | with_reducible refine Ext.trans ?_ (by with_reducible assumption)))⟩
theorem vRecords_ne (a1 a2 : Option Addr) (n1 n2 k1 k2 : Nat) (w : World) (hne : n1 ≠ n2) (h1 : n1 ≤ 1000) (h2 : n2 ≤ 1000) :
    Calls Tryd.prog 42 #[.slice a1 n1 k1, .slice a2 n2 k2] w fun e w' => e = .returned (.bool false) ∧ Ext w w' := by
  go_enter Tryd.func42, Tryd.ntmps42
  go_wp2
  go_ret
  exact ⟨rfl, by (repeat (first | with_reducible assumption | with_reducible exact Ext.refl _ | with_reducible refine Ext.alloc ?_ _ | with_reducible refine Ext.drew ?_ | with_reducible refine Ext.drewN ?_ _ | refine Ext.setCell ?_ (by first | (simp only [World.size_alloc, World.size_setCell]; omega) | omega) _ | with_reducible refine Ext.trans ?_ (by with_reducible assumption)))⟩
set_option maxRecDepth 100000 in
set_option maxHeartbeats 1600000 in
theorem vRecords_own (b1 b2 g1 g2 n1 n2 m k1 k2 k1' k2' : Nat) (L1 L2 : List (ByteArray × ByteArray × Nat)) (w : World) (own1 : w.ownsRow b1 27 2 (.slice (some ⟨g1, 0, none⟩) n1 k1) n1 (recCells L1)) (own2 : w.ownsRow b2 27 2 (.slice (some ⟨g2, 0, none⟩) n2 k2) n2 (recCells L2)) (hm : m ≤ 60) (hm1 : m ≤ L1.length) (hm2 : m ≤ L2.length) (hL : ∀ i (h1 : i < L1.length) (h2 : i < L2.length), i < m → L1[i].1 = L2[i].1 ∧ L1[i].2.1 = L2[i].2.1) :
    Calls Tryd.prog 42 #[.slice (some ⟨g1, 0, none⟩) m k1', .slice (some ⟨g2, 0, none⟩) m k2'] w fun e w' => e = .returned (.bool true) ∧ Ext w w' := by
  go_enter Tryd.func42, Tryd.ntmps42
  go_wp2
  go_loopw [5] (fun a wr => ∃ i : Nat, a = .int .i64 i ∧ i ≤ m ∧ Ext w wr) (fun a _ => m - (intOf a).toNat)
  case atStart => exact ⟨0, rfl, Nat.zero_le _, by (repeat (first | with_reducible assumption | with_reducible exact Ext.refl _ | with_reducible refine Ext.alloc ?_ _ | with_reducible refine Ext.drew ?_ | with_reducible refine Ext.drewN ?_ _ | refine Ext.setCell ?_ (by first | (simp only [World.size_alloc, World.size_setCell]; omega) | omega) _ | with_reducible refine Ext.trans ?_ (by with_reducible assumption)))⟩
  case round =>
    obtain ⟨i, rfl, hi, hx⟩ := hrel
    by_cases hlt : i < m
    · have c1 := recCells_get L1 i (by omega)
      have c2 := recCells_get L2 i (by omega)
      obtain ⟨e1, e2⟩ := hL i (by omega) (by omega) hlt
      have q0 := hx.keep (own_cell own1 (i * 2) _ c1.1)
      have q1 := hx.keep (own_cell own1 (i * 2 + 1) _ c1.2)
      have q2 := hx.keep (own_cell own2 (i * 2) _ c2.1)
      have q3 := hx.keep (own_cell own2 (i * 2 + 1) _ c2.2)
      rw [e1] at q0
      rw [e2] at q1
      clear c1 c2 e1 e2 hL
      go_wp2_with (go_quiet (fail))
      go_roundw
      case rel => exact ⟨i + 1, rfl, by omega, by (repeat (first | with_reducible assumption | with_reducible exact Ext.refl _ | with_reducible refine Ext.alloc ?_ _ | with_reducible refine Ext.drew ?_ | with_reducible refine Ext.drewN ?_ _ | refine Ext.setCell ?_ (by first | (simp only [World.size_alloc, World.size_setCell]; omega) | omega) _ | with_reducible refine Ext.trans ?_ (by with_reducible assumption)))⟩
      · simp only [intOf]; omega
    · go_wp2
      go_ret
      exact ⟨rfl, by (repeat (first | with_reducible assumption | with_reducible exact Ext.refl _ | with_reducible refine Ext.alloc ?_ _ | with_reducible refine Ext.drew ?_ | with_reducible refine Ext.drewN ?_ _ | refine Ext.setCell ?_ (by first | (simp only [World.size_alloc, World.size_setCell]; omega) | omega) _ | with_reducible refine Ext.trans ?_ (by with_reducible assumption)))⟩
end Go.Proofs.YteapfbfoegphkaaDoor
