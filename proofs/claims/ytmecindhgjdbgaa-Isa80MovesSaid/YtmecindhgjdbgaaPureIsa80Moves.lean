/- Isa80Moves: of 40 to 7F all but one are MOV, by three bits for each register, and of 80 to BF eight names, each for all registers; pure part (all 64 pairs are worked out by the kernel). No condition. -/
import Derived.Test.YtmecindhgjdbgaaPMovx4
namespace Go.Proofs.Ytmecindhgjdbgaa.Pure
open Go Go.RowKit Go.Proofs.Ytmecindhgjdbgaa.PMov Go.Proofs.YtmecindhgjdbgaaW.PrintWords Go.Proofs.YtmecindhgjdbgaaW.PrintLast

theorem moves_all : (List.range 8).all (fun d => (List.range 8).all (fun s => decide (pidginlaw06_Isa80Moves.f 500 (d : Int) (s : Int) = some true))) = true := by decide +kernel
theorem moves_alive : pidginlaw06_alive.f 499 = some true := by decide +kernel

theorem Isa80Moves : pidginlaw06_Isa80Moves.Pure := by
  intro d s hd hs
  refine ⟨500, ?_⟩
  have d0 : 0 ≤ d := by simp [Lit.wf] at hd; exact hd.1
  have s0 : 0 ≤ s := by simp [Lit.wf] at hs; exact hs.1
  by_cases h : d ≤ 7 ∧ s ≤ 7
  · have h1 := List.all_eq_true.mp moves_all d.toNat (List.mem_range.mpr (by omega))
    have h2 := List.all_eq_true.mp h1 s.toNat (List.mem_range.mpr (by omega))
    rw [Int.toNat_of_nonneg d0, Int.toNat_of_nonneg s0] at h2
    exact of_decide_eq_true h2
  · unfold pidginlaw06_Isa80Moves.f
    by_cases h1 : d > 7
    · rw [if_pos h1, pidginlaw06_Isa80Moves.j0, if_pos rfl, moves_alive]; rfl
    · rw [if_neg h1, show decide (s > 7) = true from decide_eq_true (by omega), pidginlaw06_Isa80Moves.j0, if_pos rfl, moves_alive]; rfl

end Go.Proofs.Ytmecindhgjdbgaa.Pure
