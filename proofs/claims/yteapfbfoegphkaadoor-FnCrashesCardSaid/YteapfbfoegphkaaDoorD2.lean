/-
  The door for laws over a slice of bytes: an argument is opened.
-/
import Derived.Test.YteapfbfoegphkaaDoorD1
import Derived.Test.YteapfbfoegphkaaDoorW16
namespace Go.Proofs.YteapfbfoegphkaaDoor
open Go.ChangeShapes Go.WideShapes Go.ChangeAt Go.RowKit Go.Joins
set_option linter.unusedVariables false
set_option linter.unusedSimpArgs false

theorem u8Cells : Tryd.prog.cellsOf 5 = 1 := by kernel_rfl
/-- An argument of bytes, nil or not. -/
theorem opened_code {H : Type} {enc : TypeId × Value → H} {W : World} {a0 : Option Addr} {len cap : Nat} {d0 : DataW H} {p : List MemPlace}
    (h0 : DataW.Trod enc Tryd.prog W 0 (fun _ => true) true 53 (.slice a0 len cap) d0 p) : len ≤ cap ∧ cap ≤ maxLen ∧ BytesV W a0 len ∧ (a0 = none → cap = 0) := by
  obtain ⟨fuel, hf⟩ := h0
  rcases open_ints Tryd.underlying53 Tryd.underlying5 u8Cells hf with ⟨hcs, hx⟩ | ⟨a, len', cap', zs, hcs, _, hl, hm, hz, hx, hcell, hwz⟩
  · simp [Value.cells] at hcs
    obtain ⟨rfl, rfl, rfl⟩ := hcs
    exact ⟨Nat.le_refl _, Nat.zero_le _, .inl rfl, fun _ => rfl⟩
  · simp [Value.cells] at hcs
    obtain ⟨rfl, rfl, rfl⟩ := hcs
    simp only [if_true] at hz
    refine ⟨hl, hm, ?_, fun h => by cases h⟩
    by_cases h0 : len = 0
    · exact .inl h0
    · obtain ⟨b, off, s⟩ := a
      have hpos : 0 < zs.length := by omega
      obtain rfl : s = none := by simpa [Addr.add] using World.cell?_spot (hcell 0 hpos)
      refine .inr ⟨b, off, rfl, fun i hi => ?_⟩
      have hiz : i < zs.length := by omega
      have hc := hcell i hiz
      have e : ((⟨b, off, none⟩ : Addr).add i) = ⟨b, off + i, none⟩ := by unfold Addr.add; split <;> simp_all
      rw [e] at hc
      have hw := hwz (zs.getD i 0) (by rw [List.getD_eq_getElem?_getD, List.getElem?_eq_getElem hiz]; exact List.getElem_mem hiz)
      refine ⟨_, hc, ?_⟩
      have h1 : IntKind.u8.min = 0 := rfl
      have h2 : IntKind.u8.max = 255 := rfl
      simp only [Lit.wf, Bool.and_eq_true, decide_eq_true_eq] at hw
      omega
end Go.Proofs.YteapfbfoegphkaaDoor
