/- Isa80Kinds: for every opcode, whether it jumps, ends, and its condition are the reference's; pure part (all 256 opcodes are worked out by the kernel). No condition. -/
import Derived.Test.YtmecindhgjdbgaaIsaAid
import Derived.Test.YtmecindhgjdbgaaPIsax8
namespace Go.Proofs.Ytmecindhgjdbgaa.Pure
open Go Go.RowKit Go.Proofs.Ytmecindhgjdbgaa.PIsa Go.Proofs.YtmecindhgjdbgaaW.PrintWords Go.Proofs.YtmecindhgjdbgaaW.PrintLast

theorem Isa80Kinds : pidginlaw06_Isa80Kinds.Pure := by
  intro a ha
  refine ⟨500, ?_⟩
  exact of_decide_eq_true (byte_all (P := fun a => decide (pidginlaw06_Isa80Kinds.f 500 a = some true)) (by decide +kernel) ha)

end Go.Proofs.Ytmecindhgjdbgaa.Pure
