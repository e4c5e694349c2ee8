/-
  Walks: appending a record to a log.
-/
import Derived.Test.YteapfbfoegphkaaDoorW10
import Derived.Test.YteapfbfoegphkaaDoorP11
import Derived.Deep.DeepMust
namespace Go.Proofs.YteapfbfoegphkaaDoor
open Go.RowKit
set_option linter.unusedVariables false
set_option linter.unusedSimpArgs false
attribute [local irreducible] decS sumL sumB sealB textB lineB encOk encStr acOk acStr pieces mkB piecesB splitB upL behL cutA cutZ verOk verStr rcI rrI okI aheadS preS restS atS rcS rrS okS inR okByte printed hasByte fits someB cmdB recB
attribute [local irreducible] validB endsB logAt

set_option maxRecDepth 100000 in
set_option maxHeartbeats 1600000 in
theorem c_spec_AppendRecord (d p : ByteArray) (n : Int) (c r : ByteArray) (w : World) (hd : d.size ≤ 1048576) (hp : p.size ≤ 1048576) (hc : c.size ≤ maxLen) (hr : r.size ≤ maxLen) :
    Calls Tryd.prog 27 #[.agg #[.string d, .string p, .int .i64 n], .agg #[.string c, .string r]] w fun e w' => e = .returned (.tuple #[.agg #[.string d, .string (appP d p n c r), .int .i64 (appN d p n c r)], .int .i64 (appK d p n c r)]) ∧ Ext w w' := by
  cases hv : validB d p n
  · obtain ⟨a1, a2, a3⟩ := app_bad (show appOk d p n c r = false by unfold appOk; rw [hv]; rfl)
    have H1 := Lib.hid a1
    have H2 := Lib.hid a2
    have H3 := Lib.hid a3
    have HV := Lib.hid hv
    clear hv a1 a2 a3
    go_enter Tryd.func27, Tryd.ntmps27
    go_wp2_with (go_at_call 53; refine (c_spec_l13Valid _ _ _ _ hd hp).mono ?_; rintro e w1 ⟨rfl, hb1⟩; rw [HV.out]; obtain ⟨hc1, hf1, hz1⟩ := hb1.cells; (try simp only [World.size_alloc] at hc1 hf1 hz1))
    refine bodyPost_ret (v := .tuple #[.agg #[.string d, .string (appP d p n c r), .int .i64 (appN d p n c r)], .int .i64 (appK d p n c r)]) ?_ rfl ⟨rfl, by (repeat (first | with_reducible assumption | with_reducible exact Ext.refl _ | with_reducible refine Ext.alloc ?_ _ | with_reducible refine Ext.drew ?_ | with_reducible refine Ext.drewN ?_ _ | refine Ext.setCell ?_ (by first | (simp only [World.size_alloc, World.size_setCell]; omega) | omega) _ | with_reducible refine Ext.trans ?_ (by with_reducible assumption)))⟩
    rw [H1.out, H2.out, H3.out]
    simp [results, Tryd.results27, go_sem, hc1, hf1]
  · cases hq : recB c r
    · obtain ⟨a1, a2, a3⟩ := app_bad (show appOk d p n c r = false by unfold appOk; rw [hv, hq]; rfl)
      have H1 := Lib.hid a1
      have H2 := Lib.hid a2
      have H3 := Lib.hid a3
      have HV := Lib.hid hv
      have HQ := Lib.hid hq
      clear hv hq a1 a2 a3
      go_enter Tryd.func27, Tryd.ntmps27
      go_wp2_with (first | (go_at_call 53; refine (c_spec_l13Valid _ _ _ _ hd hp).mono ?_; rintro e w1 ⟨rfl, hb1⟩; rw [HV.out]; obtain ⟨hc1, hf1, hz1⟩ := hb1.cells; (try simp only [World.size_alloc] at hc1 hf1 hz1)) | (go_at_call 46; refine (c_spec_l13Record _ _ _ hc hr).mono ?_; rintro e w2 ⟨rfl, hb2⟩; rw [HQ.out]; have hx2 := hb1.trans hb2; obtain ⟨hc2, hf2, hz2⟩ := hx2.cells; clear hc1 hf1; (try simp only [World.size_alloc] at hc2 hf2 hz2)))
      refine bodyPost_ret (v := .tuple #[.agg #[.string d, .string (appP d p n c r), .int .i64 (appN d p n c r)], .int .i64 (appK d p n c r)]) ?_ rfl ⟨rfl, by (repeat (first | with_reducible assumption | with_reducible exact Ext.refl _ | with_reducible refine Ext.alloc ?_ _ | with_reducible refine Ext.drew ?_ | with_reducible refine Ext.drewN ?_ _ | refine Ext.setCell ?_ (by first | (simp only [World.size_alloc, World.size_setCell]; omega) | omega) _ | with_reducible refine Ext.trans ?_ (by with_reducible assumption)))⟩
      rw [H1.out, H2.out, H3.out]
      simp [results, Tryd.results27, go_sem, hc2, hf2]
    · have hok : appOk d p n c r = true := by unfold appOk; rw [hv, hq]; rfl
      have hn := (validB_le hv).2
      have hl := (validB_le hv).1
      have hll := logAt_len (d ++ p)
      have n60 : 0 ≤ n ∧ n ≤ 60 := by omega
      clear hn hll
      obtain ⟨y1, y2, _, _, _, _⟩ := recB_parts hq
      have HV := Lib.hid hv
      have HQ := Lib.hid hq
      clear hv hq
      by_cases h60 : n = 60
      · obtain ⟨a1, a2, a3⟩ := app_full hok h60
        subst h60
        have H1 := Lib.hid a1
        have H2 := Lib.hid a2
        have H3 := Lib.hid a3
        clear a1 a2 a3
        go_enter Tryd.func27, Tryd.ntmps27
        go_wp2_with (first | (go_at_call 53; refine (c_spec_l13Valid _ _ _ _ hd hp).mono ?_; rintro e w1 ⟨rfl, hb1⟩; rw [HV.out]; obtain ⟨hc1, hf1, hz1⟩ := hb1.cells; (try simp only [World.size_alloc] at hc1 hf1 hz1)) | (go_at_call 46; refine (c_spec_l13Record _ _ _ hc hr).mono ?_; rintro e w2 ⟨rfl, hb2⟩; rw [HQ.out]; have hx2 := hb1.trans hb2; obtain ⟨hc2, hf2, hz2⟩ := hx2.cells; clear hc1 hf1; (try simp only [World.size_alloc] at hc2 hf2 hz2)))
        refine bodyPost_ret (v := .tuple #[.agg #[.string d, .string (appP d p 60 c r), .int .i64 (appN d p 60 c r)], .int .i64 (appK d p 60 c r)]) ?_ rfl ⟨rfl, by (repeat (first | with_reducible assumption | with_reducible exact Ext.refl _ | with_reducible refine Ext.alloc ?_ _ | with_reducible refine Ext.drew ?_ | with_reducible refine Ext.drewN ?_ _ | refine Ext.setCell ?_ (by first | (simp only [World.size_alloc, World.size_setCell]; omega) | omega) _ | with_reducible refine Ext.trans ?_ (by with_reducible assumption)))⟩
        rw [H1.out, H2.out, H3.out]
        simp [results, Tryd.results27, go_sem, hc2, hf2]
      · obtain ⟨a1, a2, a3⟩ := app_go hok h60
        have H1 := Lib.hid a1
        have H2 := Lib.hid a2
        have H3 := Lib.hid a3
        have n0 : 0 ≤ n := by omega
        have n59 : n ≤ 59 := by omega
        have hls := lineB_size n c r n0 (by omega) y1 y2
        have nb : ¬ 9223372036854775807 < p.size + (lineB n c r).size := by omega
        have nw := IntWalk.i64_in (n + 1) (by omega)
        clear a1 a2 a3
        go_enter Tryd.func27, Tryd.ntmps27
        go_wp2_with (first | (go_at_call 53; refine (c_spec_l13Valid _ _ _ _ hd hp).mono ?_; rintro e w1 ⟨rfl, hb1⟩; rw [HV.out]; obtain ⟨hc1, hf1, hz1⟩ := hb1.cells; (try simp only [World.size_alloc] at hc1 hf1 hz1)))
        refine (c_spec_l13Record _ _ _ hc hr).mono ?_
        rintro e w2 ⟨rfl, hb2⟩
        rw [HQ.out]
        have hx2 := hb1.trans hb2
        obtain ⟨hc2, hf2, _⟩ := hx2.cells
        clear hc1 hf1
        try simp only [World.size_alloc] at hc2 hf2
        have q0 := (show w2.cell? ⟨w.heap.size, 0, none⟩ = some (.string d) by rw [hc2, if_pos (by omega)]; simp [go_sem])
        have q1 := (show w2.cell? ⟨w.heap.size, 1, none⟩ = some (.string p) by rw [hc2, if_pos (by omega)]; simp [go_sem])
        have q2 := (show w2.cell? ⟨w.heap.size, 2, none⟩ = some (.int .i64 n) by rw [hc2, if_pos (by omega)]; simp [go_sem])
        have e0 := (show w2.cell? ⟨w.heap.size + 1, 0, none⟩ = some (.string c) by rw [hc2, if_pos (by omega)]; simp [go_sem])
        have e1 := (show w2.cell? ⟨w.heap.size + 1, 1, none⟩ = some (.string r) by rw [hc2, if_pos (by omega)]; simp [go_sem])
        have f1 : w2.frozen? ⟨w.heap.size, 1, none⟩ = false := by rw [hf2, if_pos (by omega)]; simp [go_sem]
        have f2 : w2.frozen? ⟨w.heap.size, 2, none⟩ = false := by rw [hf2, if_pos (by omega)]; simp [go_sem]
        have t0 : w2.frozen? ⟨w.heap.size + 1 + 1, 0, none⟩ = false := by rw [hf2, if_pos (by omega)]; simp [go_sem]
        have t1 : w2.frozen? ⟨w.heap.size + 1 + 1, 1, none⟩ = false := by rw [hf2, if_pos (by omega)]; simp [go_sem]
        have t2 : w2.frozen? ⟨w.heap.size + 1 + 1, 2, none⟩ = false := by rw [hf2, if_pos (by omega)]; simp [go_sem]
        have u0 : w2.cell? ⟨w.heap.size + 1 + 1, 0, none⟩ = some (.string ⟨#[]⟩) := by rw [hc2, if_pos (by omega)]; simp [go_sem]
        have u1 : w2.cell? ⟨w.heap.size + 1 + 1, 1, none⟩ = some (.string ⟨#[]⟩) := by rw [hc2, if_pos (by omega)]; simp [go_sem]
        have u2 : w2.cell? ⟨w.heap.size + 1 + 1, 2, none⟩ = some (.int .i64 0) := by rw [hc2, if_pos (by omega)]; simp [go_sem]
        clear hc2 hf2
        have hz2 := Below.size hx2
        try simp only [World.size_alloc] at hz2
        go_wp2_with fail
        have hS0 : w2.cell? ⟨w.heap.size, 2, none⟩ = some (.int .i64 n) ∧ w2.cell? ⟨w.heap.size + 1, 0, none⟩ = some (.string c) ∧ w2.cell? ⟨w.heap.size + 1, 1, none⟩ = some (.string r) := ⟨q2, e0, e1⟩
        refine wp_region_held_drew (S := (fun w' => w'.cell? ⟨w.heap.size, 2, none⟩ = some (.int .i64 n) ∧ w'.cell? ⟨w.heap.size + 1, 0, none⟩ = some (.string c) ∧ w'.cell? ⟨w.heap.size + 1, 1, none⟩ = some (.string r))) (by kernel_rfl) ?_ (fun hHeld => ?_)
        · exact hS0
        refine wpAnyH_take (i := 0) (v := ?_) rfl (by kernel_rfl) (by kernel_rfl) (by kernel_rfl) (fun _ _ _ h => h) (Or.inl ⟨by rfl, ?_⟩) (by assumption) ?_
        rotate_left
        · (intro w hSw; (try dsimp only at hSw); go_simp; (try with_reducible rfl))
        try simp only [Act.put, List.getElem_toArray, List.getElem_cons_zero, List.getElem_cons_succ, List.setIfInBounds_toArray, List.set_cons_zero, List.set_cons_succ]
        refine wpAnyH_take (i := 2) (v := ?_) rfl (by kernel_rfl) (by kernel_rfl) (by kernel_rfl) (fun _ _ _ h => h) (Or.inl ⟨by rfl, ?_⟩) (by assumption) ?_
        rotate_left
        · (intro w hSw; (try dsimp only at hSw); go_simp; (try with_reducible rfl))
        try simp only [Act.put, List.getElem_toArray, List.getElem_cons_zero, List.getElem_cons_succ, List.setIfInBounds_toArray, List.set_cons_zero, List.set_cons_succ]
        refine wpAnyH_take (i := 3) (v := ?_) rfl (by kernel_rfl) (by kernel_rfl) (by kernel_rfl) (fun _ _ _ h => h) (Or.inl ⟨by rfl, ?_⟩) (by assumption) ?_
        rotate_left
        · (intro w hSw; (try dsimp only at hSw); go_simp; (try with_reducible rfl))
        try simp only [Act.put, List.getElem_toArray, List.getElem_cons_zero, List.getElem_cons_succ, List.setIfInBounds_toArray, List.set_cons_zero, List.set_cons_succ]
        refine wpAnyH_take (i := 4) (v := ?_) rfl (by kernel_rfl) (by kernel_rfl) (by kernel_rfl) (fun _ _ _ h => h) (Or.inl ⟨by rfl, ?_⟩) (by assumption) ?_
        rotate_left
        · (intro w hSw; (try dsimp only at hSw); go_simp; (try with_reducible rfl))
        try simp only [Act.put, List.getElem_toArray, List.getElem_cons_zero, List.getElem_cons_succ, List.setIfInBounds_toArray, List.set_cons_zero, List.set_cons_succ]
        refine wpAnyH_ready (rs := [1, 5]) (by kernel_rfl) (by simp) ?_
        refine AllReadyH.cons rfl (fun K hK => ?_) (AllReadyH.cons rfl (fun K hK => ?_) (AllReadyH.nil))
        focus
          go_simp
          refine hK.out _ _ (by exact hHeld) (fun hHeld => ?_)
          clear hK K
          try simp only [Act.put, List.getElem_toArray, List.getElem_cons_zero, List.getElem_cons_succ, List.setIfInBounds_toArray, List.set_cons_zero, List.set_cons_succ]
          refine wpAnyH_ready (rs := [5]) (by kernel_rfl) (by simp) ?_
          refine AllReadyH.cons rfl (fun K hK => ?_) AllReadyH.nil
          go_simp
          (go_at_call 47; refine (c_spec_l13Line n c r _ n0 (by omega) y1 y2).mono ?_; rintro e w3 ⟨rfl, hb3⟩; have hk3 := (Ext.refl w2).drew.trans hb3; have q0' := hk3.keep q0; have q1' := hk3.keep q1; have q2' := hk3.keep q2; have u0' := hk3.keep u0; have u1' := hk3.keep u1; have u2' := hk3.keep u2; have f1' := hk3.mark (b := w.heap.size) (o := 1) q1 f1; have f2' := hk3.mark (b := w.heap.size) (o := 2) q2 f2; have t0' := hk3.mark (b := w.heap.size + 1 + 1) (o := 0) u0 t0; have t1' := hk3.mark (b := w.heap.size + 1 + 1) (o := 1) u1 t1; have t2' := hk3.mark (b := w.heap.size + 1 + 1) (o := 2) u2 t2)
          show K _ _
          refine hK.out _ _ (by exact ⟨hk3.keep q2, hk3.keep e0, hk3.keep e1⟩) (fun hHeld => ?_)
          clear hK K
          try simp only [Act.put, List.getElem_toArray, List.getElem_cons_zero, List.getElem_cons_succ, List.setIfInBounds_toArray, List.set_cons_zero, List.set_cons_succ]
          refine wpAnyH_take (i := 6) (v := ?_) rfl (by kernel_rfl) (by kernel_rfl) (by kernel_rfl) (fun _ _ _ h => h) (Or.inl ⟨by rfl, ?_⟩) (by assumption) ?_
          rotate_left
          · (intro w hSw; (try dsimp only at hSw); go_simp; (try with_reducible rfl))
          try simp only [Act.put, List.getElem_toArray, List.getElem_cons_zero, List.getElem_cons_succ, List.setIfInBounds_toArray, List.set_cons_zero, List.set_cons_succ]
          refine wpAnyH_take (i := 7) (v := ?_) rfl (by kernel_rfl) (by kernel_rfl) (by kernel_rfl) (fun _ _ _ h => h) (Or.inl ⟨by rfl, ?_⟩) (by assumption) ?_
          rotate_left
          · (intro w hSw; (try dsimp only at hSw); go_simp; (try with_reducible rfl))
          try simp only [Act.put, List.getElem_toArray, List.getElem_cons_zero, List.getElem_cons_succ, List.setIfInBounds_toArray, List.set_cons_zero, List.set_cons_succ]
          refine wpAnyH_ready (rs := [8]) (by kernel_rfl) (by simp) ?_
          refine AllReadyH.cons rfl (fun K hK => ?_) AllReadyH.nil
          go_simp
          refine hK.out _ _ (by exact ⟨cell_other (hk3.keep q2) (by simp), cell_other (hk3.keep e0) (by simp), cell_other (hk3.keep e1) (by simp)⟩) (fun hHeld => ?_)
          clear hK K
          try simp only [Act.put, List.getElem_toArray, List.getElem_cons_zero, List.getElem_cons_succ, List.setIfInBounds_toArray, List.set_cons_zero, List.set_cons_succ]
          refine wpAnyH_done (by kernel_rfl) ?_ _
        rotate_left 1
        focus
          go_simp
          (go_at_call 47; refine (c_spec_l13Line n c r _ n0 (by omega) y1 y2).mono ?_; rintro e w3 ⟨rfl, hb3⟩; have hk3 := (Ext.refl w2).drew.trans hb3; have q0' := hk3.keep q0; have q1' := hk3.keep q1; have q2' := hk3.keep q2; have u0' := hk3.keep u0; have u1' := hk3.keep u1; have u2' := hk3.keep u2; have f1' := hk3.mark (b := w.heap.size) (o := 1) q1 f1; have f2' := hk3.mark (b := w.heap.size) (o := 2) q2 f2; have t0' := hk3.mark (b := w.heap.size + 1 + 1) (o := 0) u0 t0; have t1' := hk3.mark (b := w.heap.size + 1 + 1) (o := 1) u1 t1; have t2' := hk3.mark (b := w.heap.size + 1 + 1) (o := 2) u2 t2)
          show K _ _
          refine hK.out _ _ (by exact ⟨hk3.keep q2, hk3.keep e0, hk3.keep e1⟩) (fun hHeld => ?_)
          clear hK K
          try simp only [Act.put, List.getElem_toArray, List.getElem_cons_zero, List.getElem_cons_succ, List.setIfInBounds_toArray, List.set_cons_zero, List.set_cons_succ]
          refine wpAnyH_ready (rs := [1]) (by kernel_rfl) (by simp) ?_
          refine AllReadyH.cons rfl (fun K hK => ?_) AllReadyH.nil
          go_simp
          refine hK.out _ _ (by exact hHeld) (fun hHeld => ?_)
          clear hK K
          try simp only [Act.put, List.getElem_toArray, List.getElem_cons_zero, List.getElem_cons_succ, List.setIfInBounds_toArray, List.set_cons_zero, List.set_cons_succ]
          refine wpAnyH_take (i := 6) (v := ?_) rfl (by kernel_rfl) (by kernel_rfl) (by kernel_rfl) (fun _ _ _ h => h) (Or.inl ⟨by rfl, ?_⟩) (by assumption) ?_
          rotate_left
          · (intro w hSw; (try dsimp only at hSw); go_simp; (try with_reducible rfl))
          try simp only [Act.put, List.getElem_toArray, List.getElem_cons_zero, List.getElem_cons_succ, List.setIfInBounds_toArray, List.set_cons_zero, List.set_cons_succ]
          refine wpAnyH_take (i := 7) (v := ?_) rfl (by kernel_rfl) (by kernel_rfl) (by kernel_rfl) (fun _ _ _ h => h) (Or.inl ⟨by rfl, ?_⟩) (by assumption) ?_
          rotate_left
          · (intro w hSw; (try dsimp only at hSw); go_simp; (try with_reducible rfl))
          try simp only [Act.put, List.getElem_toArray, List.getElem_cons_zero, List.getElem_cons_succ, List.setIfInBounds_toArray, List.set_cons_zero, List.set_cons_succ]
          refine wpAnyH_ready (rs := [8]) (by kernel_rfl) (by simp) ?_
          refine AllReadyH.cons rfl (fun K hK => ?_) AllReadyH.nil
          go_simp
          refine hK.out _ _ (by exact ⟨cell_other (hk3.keep q2) (by simp), cell_other (hk3.keep e0) (by simp), cell_other (hk3.keep e1) (by simp)⟩) (fun hHeld => ?_)
          clear hK K
          try simp only [Act.put, List.getElem_toArray, List.getElem_cons_zero, List.getElem_cons_succ, List.setIfInBounds_toArray, List.set_cons_zero, List.set_cons_succ]
          refine wpAnyH_done (by kernel_rfl) ?_ _
        rotate_left 1
        all_goals go_wp2
        all_goals
          refine bodyPost_ret (v := .tuple #[.agg #[.string d, .string (appP d p n c r), .int .i64 (appN d p n c r)], .int .i64 (appK d p n c r)]) ?_ rfl ⟨rfl, by (repeat (first | with_reducible assumption | with_reducible exact Ext.refl _ | with_reducible refine Ext.alloc ?_ _ | with_reducible refine Ext.drew ?_ | with_reducible refine Ext.drewN ?_ _ | refine Ext.setCell ?_ (by first | (simp only [World.size_alloc, World.size_setCell]; omega) | omega) _ | with_reducible refine Ext.trans ?_ (by with_reducible assumption)))⟩
          rw [H1.out, H2.out, H3.out]
          simp [results, Tryd.results27, go_sem, q0', q1', q2', u0', u1', u2']
set_option maxRecDepth 100000 in
set_option maxHeartbeats 1600000 in
theorem c_impl_AppendRecord (d p : ByteArray) (n : Int) (c r : ByteArray) (w : World) (hE : Env w) (hd : d.size ≤ 1048576) (hp : p.size ≤ 1048576) (hc : c.size ≤ maxLen) (hr : r.size ≤ maxLen) :
    Calls Tryd.prog 28 #[.agg #[.string d, .string p, .int .i64 n], .agg #[.string c, .string r]] w fun e w' => e = .returned (.tuple #[.agg #[.string d, .string (appP d p n c r), .int .i64 (appN d p n c r)], .int .i64 (appK d p n c r)]) ∧ Ext w w' := by
  cases hv : validB d p n
  · obtain ⟨a1, a2, a3⟩ := app_bad (show appOk d p n c r = false by unfold appOk; rw [hv]; rfl)
    have H1 := Lib.hid a1
    have H2 := Lib.hid a2
    have H3 := Lib.hid a3
    have HV := Lib.hid hv
    clear hv a1 a2 a3
    go_enter Tryd.func28, Tryd.ntmps28
    go_wp2_with (go_at_call 22; refine (c_impl_IsValidLog _ _ _ _ (by (repeat (first | with_reducible assumption | with_reducible refine Env.alloc ?_ _ | with_reducible refine Env.drew ?_ | with_reducible refine Env.ext ?_ (by with_reducible assumption)))) hd hp).mono ?_; rintro e w1 ⟨rfl, hb1⟩; rw [HV.out]; obtain ⟨hc1, hf1, hz1⟩ := hb1.cells; (try simp only [World.size_alloc] at hc1 hf1 hz1))
    refine bodyPost_ret (v := .tuple #[.agg #[.string d, .string (appP d p n c r), .int .i64 (appN d p n c r)], .int .i64 (appK d p n c r)]) ?_ rfl ⟨rfl, by (repeat (first | with_reducible assumption | with_reducible exact Ext.refl _ | with_reducible refine Ext.alloc ?_ _ | with_reducible refine Ext.drew ?_ | with_reducible refine Ext.drewN ?_ _ | refine Ext.setCell ?_ (by first | (simp only [World.size_alloc, World.size_setCell]; omega) | omega) _ | with_reducible refine Ext.trans ?_ (by with_reducible assumption)))⟩
    rw [H1.out, H2.out, H3.out]
    simp [results, Tryd.results28, go_sem, hc1, hf1]
  · cases hq : recB c r
    · obtain ⟨a1, a2, a3⟩ := app_bad (show appOk d p n c r = false by unfold appOk; rw [hv, hq]; rfl)
      have H1 := Lib.hid a1
      have H2 := Lib.hid a2
      have H3 := Lib.hid a3
      have HV := Lib.hid hv
      have HQ := Lib.hid hq
      clear hv hq a1 a2 a3
      go_enter Tryd.func28, Tryd.ntmps28
      go_wp2_with (first | (go_at_call 22; refine (c_impl_IsValidLog _ _ _ _ (by (repeat (first | with_reducible assumption | with_reducible refine Env.alloc ?_ _ | with_reducible refine Env.drew ?_ | with_reducible refine Env.ext ?_ (by with_reducible assumption)))) hd hp).mono ?_; rintro e w1 ⟨rfl, hb1⟩; rw [HV.out]; obtain ⟨hc1, hf1, hz1⟩ := hb1.cells; (try simp only [World.size_alloc] at hc1 hf1 hz1)) | (go_at_call 40; refine (c_impl_IsValidRecord _ _ _ hc hr).mono ?_; rintro e w2 ⟨rfl, hb2⟩; rw [HQ.out]; have hx2 := hb1.trans hb2; obtain ⟨hc2, hf2, hz2⟩ := hx2.cells; clear hc1 hf1; (try simp only [World.size_alloc] at hc2 hf2 hz2)))
      refine bodyPost_ret (v := .tuple #[.agg #[.string d, .string (appP d p n c r), .int .i64 (appN d p n c r)], .int .i64 (appK d p n c r)]) ?_ rfl ⟨rfl, by (repeat (first | with_reducible assumption | with_reducible exact Ext.refl _ | with_reducible refine Ext.alloc ?_ _ | with_reducible refine Ext.drew ?_ | with_reducible refine Ext.drewN ?_ _ | refine Ext.setCell ?_ (by first | (simp only [World.size_alloc, World.size_setCell]; omega) | omega) _ | with_reducible refine Ext.trans ?_ (by with_reducible assumption)))⟩
      rw [H1.out, H2.out, H3.out]
      simp [results, Tryd.results28, go_sem, hc2, hf2]
    · have hok : appOk d p n c r = true := by unfold appOk; rw [hv, hq]; rfl
      have hn := (validB_le hv).2
      have hl := (validB_le hv).1
      have hll := logAt_len (d ++ p)
      have n60 : 0 ≤ n ∧ n ≤ 60 := by omega
      clear hn hll
      obtain ⟨y1, y2, _, _, _, _⟩ := recB_parts hq
      have HV := Lib.hid hv
      have HQ := Lib.hid hq
      clear hv hq
      by_cases h60 : n = 60
      · obtain ⟨a1, a2, a3⟩ := app_full hok h60
        subst h60
        have H1 := Lib.hid a1
        have H2 := Lib.hid a2
        have H3 := Lib.hid a3
        clear a1 a2 a3
        go_enter Tryd.func28, Tryd.ntmps28
        go_wp2_with (first | (go_at_call 22; refine (c_impl_IsValidLog _ _ _ _ (by (repeat (first | with_reducible assumption | with_reducible refine Env.alloc ?_ _ | with_reducible refine Env.drew ?_ | with_reducible refine Env.ext ?_ (by with_reducible assumption)))) hd hp).mono ?_; rintro e w1 ⟨rfl, hb1⟩; rw [HV.out]; obtain ⟨hc1, hf1, hz1⟩ := hb1.cells; (try simp only [World.size_alloc] at hc1 hf1 hz1)) | (go_at_call 40; refine (c_impl_IsValidRecord _ _ _ hc hr).mono ?_; rintro e w2 ⟨rfl, hb2⟩; rw [HQ.out]; have hx2 := hb1.trans hb2; obtain ⟨hc2, hf2, hz2⟩ := hx2.cells; clear hc1 hf1; (try simp only [World.size_alloc] at hc2 hf2 hz2)))
        refine bodyPost_ret (v := .tuple #[.agg #[.string d, .string (appP d p 60 c r), .int .i64 (appN d p 60 c r)], .int .i64 (appK d p 60 c r)]) ?_ rfl ⟨rfl, by (repeat (first | with_reducible assumption | with_reducible exact Ext.refl _ | with_reducible refine Ext.alloc ?_ _ | with_reducible refine Ext.drew ?_ | with_reducible refine Ext.drewN ?_ _ | refine Ext.setCell ?_ (by first | (simp only [World.size_alloc, World.size_setCell]; omega) | omega) _ | with_reducible refine Ext.trans ?_ (by with_reducible assumption)))⟩
        rw [H1.out, H2.out, H3.out]
        simp [results, Tryd.results28, go_sem, hc2, hf2]
      · obtain ⟨a1, a2, a3⟩ := app_go hok h60
        have H1 := Lib.hid a1
        have H2 := Lib.hid a2
        have H3 := Lib.hid a3
        have n0 : 0 ≤ n := by omega
        have n59 : n ≤ 59 := by omega
        have hls := lineB_size n c r n0 (by omega) y1 y2
        have nb : ¬ 9223372036854775807 < p.size + (lineB n c r).size := by omega
        have nw := IntWalk.i64_in (n + 1) (by omega)
        clear a1 a2 a3
        go_enter Tryd.func28, Tryd.ntmps28
        go_wp2_with (first | (go_at_call 22; refine (c_impl_IsValidLog _ _ _ _ (by (repeat (first | with_reducible assumption | with_reducible refine Env.alloc ?_ _ | with_reducible refine Env.drew ?_ | with_reducible refine Env.ext ?_ (by with_reducible assumption)))) hd hp).mono ?_; rintro e w1 ⟨rfl, hb1⟩; rw [HV.out]; obtain ⟨hc1, hf1, hz1⟩ := hb1.cells; (try simp only [World.size_alloc] at hc1 hf1 hz1)))
        refine (c_impl_IsValidRecord _ _ _ hc hr).mono ?_
        rintro e w2 ⟨rfl, hb2⟩
        rw [HQ.out]
        have hx2 := hb1.trans hb2
        obtain ⟨hc2, hf2, _⟩ := hx2.cells
        clear hc1 hf1
        try simp only [World.size_alloc] at hc2 hf2
        have q0 := (show w2.cell? ⟨w.heap.size, 0, none⟩ = some (.string d) by rw [hc2, if_pos (by omega)]; simp [go_sem])
        have q1 := (show w2.cell? ⟨w.heap.size, 1, none⟩ = some (.string p) by rw [hc2, if_pos (by omega)]; simp [go_sem])
        have q2 := (show w2.cell? ⟨w.heap.size, 2, none⟩ = some (.int .i64 n) by rw [hc2, if_pos (by omega)]; simp [go_sem])
        have e0 := (show w2.cell? ⟨w.heap.size + 1, 0, none⟩ = some (.string c) by rw [hc2, if_pos (by omega)]; simp [go_sem])
        have e1 := (show w2.cell? ⟨w.heap.size + 1, 1, none⟩ = some (.string r) by rw [hc2, if_pos (by omega)]; simp [go_sem])
        have f1 : w2.frozen? ⟨w.heap.size, 1, none⟩ = false := by rw [hf2, if_pos (by omega)]; simp [go_sem]
        have f2 : w2.frozen? ⟨w.heap.size, 2, none⟩ = false := by rw [hf2, if_pos (by omega)]; simp [go_sem]
        have t0 : w2.frozen? ⟨w.heap.size + 1 + 1, 0, none⟩ = false := by rw [hf2, if_pos (by omega)]; simp [go_sem]
        have t1 : w2.frozen? ⟨w.heap.size + 1 + 1, 1, none⟩ = false := by rw [hf2, if_pos (by omega)]; simp [go_sem]
        have t2 : w2.frozen? ⟨w.heap.size + 1 + 1, 2, none⟩ = false := by rw [hf2, if_pos (by omega)]; simp [go_sem]
        have u0 : w2.cell? ⟨w.heap.size + 1 + 1, 0, none⟩ = some (.string ⟨#[]⟩) := by rw [hc2, if_pos (by omega)]; simp [go_sem]
        have u1 : w2.cell? ⟨w.heap.size + 1 + 1, 1, none⟩ = some (.string ⟨#[]⟩) := by rw [hc2, if_pos (by omega)]; simp [go_sem]
        have u2 : w2.cell? ⟨w.heap.size + 1 + 1, 2, none⟩ = some (.int .i64 0) := by rw [hc2, if_pos (by omega)]; simp [go_sem]
        clear hc2 hf2
        have hz2 := Below.size hx2
        try simp only [World.size_alloc] at hz2
        go_wp2_with fail
        refine (c_impl_EncodeRecord n c r _ (by (repeat (first | with_reducible assumption | with_reducible refine Env.alloc ?_ _ | with_reducible refine Env.drew ?_ | with_reducible refine Env.ext ?_ (by with_reducible assumption)))) hc hr).mono ?_
        rintro e w3 ⟨rfl, hb3⟩
        have hk3 := hb3
        have E1 : encOk n c r = true := by unfold encOk; rw [HQ.out]; simp [inR]; omega
        have E2 : encStr n c r = lineB n c r := by unfold encStr; rw [E1]; rfl
        rw [E1, E2]
        clear E1 E2
        have q0' := hk3.keep q0
        have q1' := hk3.keep q1
        have q2' := hk3.keep q2
        have u0' := hk3.keep u0
        have u1' := hk3.keep u1
        have u2' := hk3.keep u2
        have f1' := hk3.mark (b := w.heap.size) (o := 1) q1 f1
        have f2' := hk3.mark (b := w.heap.size) (o := 2) q2 f2
        have t0' := hk3.mark (b := w.heap.size + 1 + 1) (o := 0) u0 t0
        have t1' := hk3.mark (b := w.heap.size + 1 + 1) (o := 1) u1 t1
        have t2' := hk3.mark (b := w.heap.size + 1 + 1) (o := 2) u2 t2
        all_goals go_wp2
        all_goals
          refine bodyPost_ret (v := .tuple #[.agg #[.string d, .string (appP d p n c r), .int .i64 (appN d p n c r)], .int .i64 (appK d p n c r)]) ?_ rfl ⟨rfl, by (repeat (first | with_reducible assumption | with_reducible exact Ext.refl _ | with_reducible refine Ext.alloc ?_ _ | with_reducible refine Ext.drew ?_ | with_reducible refine Ext.drewN ?_ _ | refine Ext.setCell ?_ (by first | (simp only [World.size_alloc, World.size_setCell]; omega) | omega) _ | with_reducible refine Ext.trans ?_ (by with_reducible assumption)))⟩
          rw [H1.out, H2.out, H3.out]
          simp [results, Tryd.results28, go_sem, q0', q1', q2', u0', u1', u2']
end Go.Proofs.YteapfbfoegphkaaDoor
