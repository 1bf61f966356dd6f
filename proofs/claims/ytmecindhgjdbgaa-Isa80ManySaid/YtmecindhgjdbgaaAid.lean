/- Own words beside the print: a cut with a capacity. -/
import Derived.Test.YtmecindhgjdbgaaWWords
namespace Go.Proofs.YtmecindhgjdbgaaW.PrintWords
open Go Go.RowKit
theorem cut_to3 {P : Program} (t e : TypeId) (kh : IntKind) {i : TypeInfo} (ht : P.underlying t = some (.slice e)) (hi : P.info? e = some i) (A : Option Addr) (n c : Nat) (j : Int) (h0 : 0 ≤ j) (hm : j ≤ n) (hc : n ≤ c) :
    ∀ W : World, (Instr.slice t (.slice A n c) none (some (.int kh j)) (some (.int kh j))).run P W = .ok (.slice A j.toNat j.toNat) W := by
  intro W
  have hel : P.elem t = e := by simp [Program.elem, ht]
  have hu : P.underlying t = some (.slice (P.elem t)) := by rw [hel]; exact ht
  have ha : (A.map fun x => x.add 0) = A := by cases A <;> simp [Addr.add]
  have e1 : (j.toNat : Int) = j := Int.toNat_of_nonneg h0
  rw [run_slice_any W t A n c hu, hel]
  simp [Instr.sliceBounds, run_sliceBound, sizeOf, typeInfo, hi, sliced, Result.andThen, ha, h0, e1, (by omega : j ≤ (c : Int))]
end Go.Proofs.YtmecindhgjdbgaaW.PrintWords
