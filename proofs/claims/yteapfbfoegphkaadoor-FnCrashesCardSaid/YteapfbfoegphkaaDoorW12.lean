/-
  Walks: crashing a log.
-/
import Derived.Test.YteapfbfoegphkaaDoorW10
import Derived.Test.YteapfbfoegphkaaDoorP10
import Derived.Deep.DeepMust
namespace Go.Proofs.YteapfbfoegphkaaDoor
open Go.RowKit
set_option linter.unusedVariables false
set_option linter.unusedSimpArgs false
attribute [local irreducible] decS sumL sumB sealB textB lineB encOk encStr acOk acStr pieces mkB piecesB splitB upL behL cutA cutZ verOk verStr rcI rrI okI aheadS preS restS atS rcS rrS okS inR okByte printed hasByte fits someB cmdB recB
attribute [local irreducible] validB endsB logAt byteAt setB spoil

set_option maxRecDepth 100000 in
set_option maxHeartbeats 800000 in
theorem c_spec_CrashLog (d p : ByteArray) (n k : Int) (b : Bool) (w : World) (hd : d.size ≤ 1048576) (hp : p.size ≤ 1048576) :
    Calls Tryd.prog 23 #[.agg #[.string d, .string p, .int .i64 n], .int .i64 k, .bool b] w fun e w' => e = .returned (.tuple #[.string (crashS d p n k b), .bool (crashOk d p n k)]) ∧ Ext w w' := by
  cases hv : validB d p n
  · have h1 := Lib.hid (show crashOk d p n k = false by unfold crashOk; rw [hv]; rfl)
    have h2 := Lib.hid (show crashS d p n k b = ⟨#[]⟩ by unfold crashS; rw [h1.out]; rfl)
    have HV := Lib.hid hv
    clear hv
    go_enter Tryd.func23, Tryd.ntmps23
    go_wp2_with (go_at_call 53; refine (c_spec_l13Valid _ _ _ _ hd hp).mono ?_; rintro e w1 ⟨rfl, hb1⟩; rw [HV.out]; obtain ⟨hc1, hf1, hz1⟩ := hb1.cells; (try simp only [World.size_alloc] at hc1 hf1 hz1))
    go_ret2
    refine ⟨ret_sb ?_ ?_, by (repeat (first | with_reducible assumption | with_reducible exact Ext.refl _ | with_reducible refine Ext.alloc ?_ _ | with_reducible refine Ext.drew ?_ | with_reducible refine Ext.drewN ?_ _ | refine Ext.setCell ?_ (by simp) _ | with_reducible refine Ext.trans ?_ (by with_reducible assumption)))⟩
    · rw [h2.out]
    · rw [h1.out]
  · cases hr : inR k 0 p.size
    · have h1 := Lib.hid (show crashOk d p n k = false by unfold crashOk; rw [hv]; simpa [inR] using hr)
      have h2 := Lib.hid (show crashS d p n k b = ⟨#[]⟩ by unfold crashS; rw [h1.out]; rfl)
      have HV := Lib.hid hv
      have HR := Lib.hid hr
      clear hv hr
      go_enter Tryd.func23, Tryd.ntmps23
      go_wp2_with (first | (go_at_call 53; refine (c_spec_l13Valid _ _ _ _ hd hp).mono ?_; rintro e w1 ⟨rfl, hb1⟩; rw [HV.out]; obtain ⟨hc1, hf1, hz1⟩ := hb1.cells; (try simp only [World.size_alloc] at hc1 hf1 hz1)) | (go_at_call 45; refine (c_spec_l1In _ _ _ _).mono ?_; rintro e w' ⟨rfl, rfl⟩; rw [HR.out]))
      go_ret2
      refine ⟨ret_sb ?_ ?_, by (repeat (first | with_reducible assumption | with_reducible exact Ext.refl _ | with_reducible refine Ext.alloc ?_ _ | with_reducible refine Ext.drew ?_ | with_reducible refine Ext.drewN ?_ _ | refine Ext.setCell ?_ (by simp) _ | with_reducible refine Ext.trans ?_ (by with_reducible assumption)))⟩
      · rw [h2.out]
      · rw [h1.out]
    · have h1 := Lib.hid (show crashOk d p n k = true by unfold crashOk; rw [hv]; simpa [inR] using hr)
      obtain ⟨k0, k1⟩ : 0 ≤ k ∧ k ≤ p.size := by simpa [inR] using hr
      have HV := Lib.hid hv
      have HR := Lib.hid hr
      clear hv hr
      have zs : (p.extract 0 k.toNat).size = k.toNat := by rw [ByteArray.size_extract]; omega
      have hcr : Hid (crashS d p n k b = d ++ (if b && decide (0 < k) then spoil (p.extract 0 k.toNat) else p.extract 0 k.toNat)) := Lib.hid (by unfold crashS; rw [h1.out, if_pos rfl])
      rw [hcr.out]
      generalize hps : p.extract 0 k.toNat = ps at *
      have HP := Lib.hid hps
      clear hps hcr
      by_cases hbk : b = true ∧ 0 < k
      · obtain ⟨rfl, hk⟩ := hbk
        have hj : k.toNat - 1 < ps.size := by omega
        have hsp : Hid (spoil ps = setB ps (k.toNat - 1) (255 - byteAt ps (k.toNat - 1))) := Lib.hid (by unfold spoil; rw [zs])
        have hsz := setB_size ps (k.toNat - 1) (255 - byteAt ps (k.toNat - 1))
        rw [if_pos (by simp [hk])]
        obtain ⟨g1, g2, g3⟩ := flip_byte (byteAt ps (k.toNat - 1))
        have hw : IntKind.u8.wrap (255 - ((byteAt ps (k.toNat - 1)).toNat : Int)) = ((255 - byteAt ps (k.toNat - 1) : UInt8).toNat : Int) := by rw [IntWalk.u8_in _ (by omega), g1]
        clear g1 g2 g3
        go_enter Tryd.func23, Tryd.ntmps23
        go_wp2_with (first | (go_at_call 53; refine (c_spec_l13Valid _ _ _ _ hd hp).mono ?_; rintro e w1 ⟨rfl, hb1⟩; rw [HV.out]; have q0 := hb1.keep (p := ⟨w.heap.size, 0, none⟩) (v := .string d) (by simp); have q1 := hb1.keep (p := ⟨w.heap.size, 1, none⟩) (v := .string p) (by simp); have hz1 := Below.size hb1; simp only [World.size_alloc] at hz1) | (go_at_call 45; refine (c_spec_l1In _ _ _ _).mono ?_; rintro e w' ⟨rfl, rfl⟩; rw [HR.out]) | (rw [HP.out]; refine wpList_bytes rfl 9 53 5 (.tmp 23) rfl ps rfl Tryd.underlying9 Tryd.underlying53 Tryd.underlying5 _ rfl ?_; intro cap w2 hb2 hz2 hl2 hf2; have q2 := hb2.keep q0; have hcell := lies_at hl2 (k.toNat - 1) hj; have hfz := hf2 (k.toNat - 1) hj) | (refine wpList_back rfl 53 9 5 (.tmp 42) rfl (lies_set hl2 (k.toNat - 1) hj (255 - byteAt ps (k.toNat - 1))) k.toNat cap (by rw [setB_size]; exact zs) rfl Tryd.underlying53 Tryd.underlying5 Tryd.underlying9 ?_))
        go_ret2
        refine ⟨ret_sb (by rw [hsp.out]) h1.out.symm, Ext.setCell (by (repeat (first | with_reducible assumption | with_reducible exact Ext.refl _ | with_reducible refine Ext.alloc ?_ _ | with_reducible refine Ext.drew ?_ | with_reducible refine Ext.drewN ?_ _ | refine Ext.setCell ?_ (by simp) _ | with_reducible refine Ext.trans ?_ (by with_reducible assumption)))) (by show w.heap.size ≤ w1.heap.size; omega) _⟩
      · rw [if_neg (by simpa using hbk)]
        go_enter Tryd.func23, Tryd.ntmps23
        go_wp2_with (first | (go_at_call 53; refine (c_spec_l13Valid _ _ _ _ hd hp).mono ?_; rintro e w1 ⟨rfl, hb1⟩; rw [HV.out]; have q0 := hb1.keep (p := ⟨w.heap.size, 0, none⟩) (v := .string d) (by simp); have q1 := hb1.keep (p := ⟨w.heap.size, 1, none⟩) (v := .string p) (by simp); have hz1 := Below.size hb1; simp only [World.size_alloc] at hz1) | (go_at_call 45; refine (c_spec_l1In _ _ _ _).mono ?_; rintro e w' ⟨rfl, rfl⟩; rw [HR.out]) | (rw [HP.out]; refine wpList_bytes rfl 9 53 5 (.tmp 23) rfl ps rfl Tryd.underlying9 Tryd.underlying53 Tryd.underlying5 _ rfl ?_; intro cap w2 hb2 hz2 hl2 hf2; have q2 := hb2.keep q0) | (refine wpList_back rfl 53 9 5 (.tmp 42) rfl hl2 k.toNat cap zs rfl Tryd.underlying53 Tryd.underlying5 Tryd.underlying9 ?_))
        all_goals first | (exfalso; exact hbk ⟨by assumption, by assumption⟩) | (go_ret2; exact ⟨ret_sb rfl h1.out.symm, by (repeat (first | with_reducible assumption | with_reducible exact Ext.refl _ | with_reducible refine Ext.alloc ?_ _ | with_reducible refine Ext.drew ?_ | with_reducible refine Ext.drewN ?_ _ | refine Ext.setCell ?_ (by simp) _ | with_reducible refine Ext.trans ?_ (by with_reducible assumption)))⟩)
set_option maxRecDepth 100000 in
set_option maxHeartbeats 800000 in
theorem c_impl_CrashLog (d p : ByteArray) (n k : Int) (b : Bool) (w : World) (hE : Env w) (hd : d.size ≤ 1048576) (hp : p.size ≤ 1048576) :
    Calls Tryd.prog 24 #[.agg #[.string d, .string p, .int .i64 n], .int .i64 k, .bool b] w fun e w' => e = .returned (.tuple #[.string (crashS d p n k b), .bool (crashOk d p n k)]) ∧ Ext w w' := by
  cases hv : validB d p n
  · have h1 := Lib.hid (show crashOk d p n k = false by unfold crashOk; rw [hv]; rfl)
    have h2 := Lib.hid (show crashS d p n k b = ⟨#[]⟩ by unfold crashS; rw [h1.out]; rfl)
    have HV := Lib.hid hv
    clear hv
    go_enter Tryd.func24, Tryd.ntmps24
    go_wp2_with (go_at_call 22; refine (c_impl_IsValidLog _ _ _ _ (by (repeat (first | with_reducible assumption | with_reducible refine Env.alloc ?_ _ | with_reducible refine Env.drew ?_ | with_reducible refine Env.ext ?_ (by with_reducible assumption)))) hd hp).mono ?_; rintro e w1 ⟨rfl, hb1⟩; rw [HV.out]; obtain ⟨hc1, hf1, hz1⟩ := hb1.cells; (try simp only [World.size_alloc] at hc1 hf1 hz1))
    go_ret2
    refine ⟨ret_sb ?_ ?_, by (repeat (first | with_reducible assumption | with_reducible exact Ext.refl _ | with_reducible refine Ext.alloc ?_ _ | with_reducible refine Ext.drew ?_ | with_reducible refine Ext.drewN ?_ _ | refine Ext.setCell ?_ (by simp) _ | with_reducible refine Ext.trans ?_ (by with_reducible assumption)))⟩
    · rw [h2.out]
    · rw [h1.out]
  · cases hr : inR k 0 p.size
    · have h1 := Lib.hid (show crashOk d p n k = false by unfold crashOk; rw [hv]; simpa [inR] using hr)
      have h2 := Lib.hid (show crashS d p n k b = ⟨#[]⟩ by unfold crashS; rw [h1.out]; rfl)
      have HV := Lib.hid hv
      have HR := Lib.hid hr
      clear hv hr
      go_enter Tryd.func24, Tryd.ntmps24
      go_wp2_with (first | (go_at_call 22; refine (c_impl_IsValidLog _ _ _ _ (by (repeat (first | with_reducible assumption | with_reducible refine Env.alloc ?_ _ | with_reducible refine Env.drew ?_ | with_reducible refine Env.ext ?_ (by with_reducible assumption)))) hd hp).mono ?_; rintro e w1 ⟨rfl, hb1⟩; rw [HV.out]; obtain ⟨hc1, hf1, hz1⟩ := hb1.cells; (try simp only [World.size_alloc] at hc1 hf1 hz1)) | (go_at_call 48; refine (c_impl_within _ _ _ _).mono ?_; rintro e w' ⟨rfl, rfl⟩; rw [HR.out]))
      go_ret2
      refine ⟨ret_sb ?_ ?_, by (repeat (first | with_reducible assumption | with_reducible exact Ext.refl _ | with_reducible refine Ext.alloc ?_ _ | with_reducible refine Ext.drew ?_ | with_reducible refine Ext.drewN ?_ _ | refine Ext.setCell ?_ (by simp) _ | with_reducible refine Ext.trans ?_ (by with_reducible assumption)))⟩
      · rw [h2.out]
      · rw [h1.out]
    · have h1 := Lib.hid (show crashOk d p n k = true by unfold crashOk; rw [hv]; simpa [inR] using hr)
      obtain ⟨k0, k1⟩ : 0 ≤ k ∧ k ≤ p.size := by simpa [inR] using hr
      have HV := Lib.hid hv
      have HR := Lib.hid hr
      clear hv hr
      have zs : (p.extract 0 k.toNat).size = k.toNat := by rw [ByteArray.size_extract]; omega
      have zd : (d ++ p.extract 0 k.toNat).size = d.size + k.toNat := by rw [ByteArray.size_append, zs]
      have hcr : Hid (crashS d p n k b = if b && decide (0 < k) then spoil (d ++ p.extract 0 k.toNat) else d ++ p.extract 0 k.toNat) := Lib.hid (by
        unfold crashS
        rw [h1.out, if_pos rfl]
        split
        · rename_i h
          rw [Bool.and_eq_true, decide_eq_true_eq] at h
          rw [spoil_app _ _ (by omega)]
        · rfl)
      have nb : ¬ 9223372036854775807 < d.size + (p.extract 0 k.toNat).size := by omega
      have nb' : ¬ 9223372036854775807 < d.size + k.toNat := by omega
      have hsl : ∀ wx, (Instr.slice 9 (.string p) none (some (.int .i64 k)) none).run Tryd.prog wx = .ok (.string (p.extract 0 k.toNat)) wx := by
        intro wx
        rw [run_slice_string_to_if wx 9 p .i64 k Tryd.underlying9, if_pos ⟨k0, k1⟩]
      go_enter Tryd.func24, Tryd.ntmps24
      go_wp2_with (first | (go_at_call 22; refine (c_impl_IsValidLog _ _ _ _ (by (repeat (first | with_reducible assumption | with_reducible refine Env.alloc ?_ _ | with_reducible refine Env.drew ?_ | with_reducible refine Env.ext ?_ (by with_reducible assumption)))) hd hp).mono ?_; rintro e w1 ⟨rfl, hb1⟩; rw [HV.out]; have q0 := hb1.keep (p := ⟨w.heap.size, 0, none⟩) (v := .string d) (by simp); have q1 := hb1.keep (p := ⟨w.heap.size, 1, none⟩) (v := .string p) (by simp); have f0 := hb1.mark (b := w.heap.size) (o := 0) (v := .string d) (x := false) (by simp) (by simp); have f1 := hb1.mark (b := w.heap.size) (o := 1) (v := .string p) (x := false) (by simp) (by simp); have hz1 := Below.size hb1; simp only [World.size_alloc] at hz1) | (go_at_call 48; refine (c_impl_within _ _ _ _).mono ?_; rintro e w' ⟨rfl, rfl⟩; rw [HR.out]))
      refine wp_region_held_drew (S := (fun w' => w'.cell? ⟨w.heap.size, 0, none⟩ = some (.string d) ∧ w'.cell? ⟨w.heap.size, 1, none⟩ = some (.string p))) (by kernel_rfl) ?_ (fun hHeld => ?_)
      · exact ⟨q0, q1⟩
      refine wpAnyH_take (i := 0) (v := ?_) rfl (by kernel_rfl) (by kernel_rfl) (by kernel_rfl) (fun _ _ _ h => h) (Or.inl ⟨by rfl, ?_⟩) (by assumption) ?_
      rotate_left
      · (intro w hSw; (try dsimp only at hSw); go_simp; (try with_reducible rfl))
      try simp only [Act.put, List.getElem_toArray, List.getElem_cons_zero, List.getElem_cons_succ, List.setIfInBounds_toArray, List.set_cons_zero, List.set_cons_succ]
      refine wpAnyH_take (i := 1) (v := ?_) rfl (by kernel_rfl) (by kernel_rfl) (by kernel_rfl) (fun _ _ _ h => h) (Or.inl ⟨by rfl, ?_⟩) (by assumption) ?_
      rotate_left
      · (intro w hSw; (try dsimp only at hSw); go_simp; (try with_reducible rfl))
      try simp only [Act.put, List.getElem_toArray, List.getElem_cons_zero, List.getElem_cons_succ, List.setIfInBounds_toArray, List.set_cons_zero, List.set_cons_succ]
      refine wpAnyH_take (i := 2) (v := ?_) rfl (by kernel_rfl) (by kernel_rfl) (by kernel_rfl) (fun _ _ _ h => h) (Or.inl ⟨by rfl, ?_⟩) (by assumption) ?_
      rotate_left
      · (intro w hSw; (try dsimp only at hSw); go_simp; (try with_reducible rfl))
      try simp only [Act.put, List.getElem_toArray, List.getElem_cons_zero, List.getElem_cons_succ, List.setIfInBounds_toArray, List.set_cons_zero, List.set_cons_succ]
      refine wpAnyH_take (i := 3) (v := ?_) rfl (by kernel_rfl) (by kernel_rfl) (by kernel_rfl) (fun _ _ _ h => h) (Or.inl ⟨by rfl, ?_⟩) (by assumption) ?_
      rotate_left
      · (intro w hSw; (try dsimp only at hSw); go_simp; (try with_reducible rfl))
      try simp only [Act.put, List.getElem_toArray, List.getElem_cons_zero, List.getElem_cons_succ, List.setIfInBounds_toArray, List.set_cons_zero, List.set_cons_succ]
      refine wpAnyH_take (i := 4) (v := ?_) rfl (by kernel_rfl) (by kernel_rfl) (by kernel_rfl) (fun _ _ _ h => h) (Or.inl ⟨by rfl, ?_⟩) (by assumption) ?_
      rotate_left
      · (intro w hSw; (try dsimp only at hSw); go_simp; (try with_reducible rfl))
      try simp only [Act.put, List.getElem_toArray, List.getElem_cons_zero, List.getElem_cons_succ, List.setIfInBounds_toArray, List.set_cons_zero, List.set_cons_succ]
      refine wpAnyH_take (i := 5) (v := ?_) rfl (by kernel_rfl) (by kernel_rfl) (by kernel_rfl) (fun _ _ _ h => h) (Or.inl ⟨by rfl, ?_⟩) (by assumption) ?_
      rotate_left
      · (intro w hSw; (try dsimp only at hSw); go_simp; (try with_reducible rfl))
      try simp only [Act.put, List.getElem_toArray, List.getElem_cons_zero, List.getElem_cons_succ, List.setIfInBounds_toArray, List.set_cons_zero, List.set_cons_succ]
      refine wpAnyH_take (i := 6) (v := ?_) rfl (by kernel_rfl) (by kernel_rfl) (by kernel_rfl) (fun _ _ _ h => h) (Or.inl ⟨by rfl, ?_⟩) (by assumption) ?_
      rotate_left
      · (intro w hSw; (try dsimp only at hSw); go_simp; (try with_reducible rfl))
      try simp only [Act.put, List.getElem_toArray, List.getElem_cons_zero, List.getElem_cons_succ, List.setIfInBounds_toArray, List.set_cons_zero, List.set_cons_succ]
      refine wpAnyH_ready (rs := [7]) (by kernel_rfl) (by simp) ?_
      refine AllReadyH.cons rfl (fun K hK => ?_) AllReadyH.nil
      go_simp
      (obtain ⟨cap, w2, hrun, hb2, hz2, hl2, hf2⟩ := bytes_run (P := Tryd.prog) w1.drew 9 53 5 (d ++ p.extract 0 k.toNat) Tryd.underlying9 Tryd.underlying53 Tryd.underlying5; rw [hrun]; simp only [Result.andThen_ok])
      show K _ _
      refine hK.out _ _ (by exact ⟨hb2.keep q0, hb2.keep q1⟩) (fun hHeld => ?_)
      clear hK K
      try simp only [Act.put, List.getElem_toArray, List.getElem_cons_zero, List.getElem_cons_succ, List.setIfInBounds_toArray, List.set_cons_zero, List.set_cons_succ]
      refine wpAnyH_take (i := 8) (v := ?_) rfl (by kernel_rfl) (by kernel_rfl) (by kernel_rfl) (fun _ _ _ h => h) (Or.inl ⟨by rfl, ?_⟩) (by assumption) ?_
      rotate_left
      · (intro w hSw; (try dsimp only at hSw); go_simp; (try with_reducible rfl))
      try simp only [Act.put, List.getElem_toArray, List.getElem_cons_zero, List.getElem_cons_succ, List.setIfInBounds_toArray, List.set_cons_zero, List.set_cons_succ]
      refine wpAnyH_done (by kernel_rfl) ?_ _
      change w2.heap.size = w1.heap.size + 1 at hz2
      change Lies w2 w1.heap.size _ at hl2
      change ∀ j, j < (d ++ p.extract 0 k.toNat).data.size → w2.frozen? ⟨w1.heap.size, j, none⟩ = false at hf2
      have hb2 : Ext w1 w2 := (Ext.refl w1).drew.trans hb2
      clear hHeld hrun hsl nb
      generalize d ++ p.extract 0 k.toNat = ps at *
      have zm : d.size + k.toNat ≤ 2097152 := by omega
      have zk : k.toNat ≤ d.size + k.toNat := by omega
      generalize d.size + k.toNat = m at *
      by_cases hbk : b = true ∧ 0 < k
      · obtain ⟨rfl, hk⟩ := hbk
        have hj : m - 1 < ps.size := by omega
        have hsp : Hid (spoil ps = setB ps (m - 1) (255 - byteAt ps (m - 1))) := Lib.hid (by unfold spoil; rw [zd])
        have hsz := setB_size ps (m - 1) (255 - byteAt ps (m - 1))
        obtain ⟨g1, g2, g3⟩ := flip_byte (byteAt ps (m - 1))
        have hw : IntKind.u8.wrap (255 - ((byteAt ps (m - 1)).toNat : Int)) = ((255 - byteAt ps (m - 1) : UInt8).toNat : Int) := by rw [IntWalk.u8_in _ (by omega), g1]
        clear g1 g2 g3
        have hcell := lies_at hl2 (m - 1) hj
        have hfz := hf2 (m - 1) hj
        go_wp2_with (refine wpList_back rfl 53 9 5 (.tmp 45) rfl (lies_set hl2 (m - 1) hj (255 - byteAt ps (m - 1))) m cap (by rw [setB_size]; exact zd) rfl Tryd.underlying53 Tryd.underlying5 Tryd.underlying9 ?_)
        go_ret2
        refine ⟨ret_sb (by rw [hcr.out, if_pos (by simp [hk]), hsp.out]) h1.out.symm, Ext.setCell (by (repeat (first | with_reducible assumption | with_reducible exact Ext.refl _ | with_reducible refine Ext.alloc ?_ _ | with_reducible refine Ext.drew ?_ | with_reducible refine Ext.drewN ?_ _ | refine Ext.setCell ?_ (by simp) _ | with_reducible refine Ext.trans ?_ (by with_reducible assumption)))) (by show w.heap.size ≤ w1.heap.size; omega) _⟩
      · go_wp2_with (refine wpList_back rfl 53 9 5 (.tmp 45) rfl hl2 m cap zd rfl Tryd.underlying53 Tryd.underlying5 Tryd.underlying9 ?_)
        all_goals first | (exfalso; exact hbk ⟨by assumption, by assumption⟩) | (go_ret2; exact ⟨ret_sb (by rw [hcr.out, if_neg (by simpa using hbk)]) h1.out.symm, by (repeat (first | with_reducible assumption | with_reducible exact Ext.refl _ | with_reducible refine Ext.alloc ?_ _ | with_reducible refine Ext.drew ?_ | with_reducible refine Ext.drewN ?_ _ | refine Ext.setCell ?_ (by simp) _ | with_reducible refine Ext.trans ?_ (by with_reducible assumption)))⟩)
end Go.Proofs.YteapfbfoegphkaaDoor
