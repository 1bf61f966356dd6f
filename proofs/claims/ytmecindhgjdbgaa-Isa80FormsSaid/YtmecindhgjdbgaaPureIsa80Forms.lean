/- Isa80Forms: for every opcode, its name, operands and size are the reference's; pure part (all 256 opcodes are worked out by the kernel). No condition. -/
import Derived.Test.YtmecindhgjdbgaaIsaAid
import Derived.Test.YtmecindhgjdbgaaPIsax5
namespace Go.Proofs.Ytmecindhgjdbgaa.Pure
open Go Go.RowKit Go.Proofs.Ytmecindhgjdbgaa.PIsa Go.Proofs.YtmecindhgjdbgaaW.PrintWords Go.Proofs.YtmecindhgjdbgaaW.PrintLast

theorem Isa80Forms : pidginlaw06_Isa80Forms.Pure := by
  intro a ha
  refine ⟨500, ?_⟩
  exact of_decide_eq_true (byte_all (P := fun a => decide (pidginlaw06_Isa80Forms.f 500 a = some true)) (by decide +kernel) ha)

end Go.Proofs.Ytmecindhgjdbgaa.Pure
