/- Isa80Bytes: the bytes of any instruction, and the instruction of any bytes, are the reference's; pure part. No condition. -/
import Derived.Test.YtmecindhgjdbgaaIsaAid
import Derived.Test.YtmecindhgjdbgaaPIsax6
namespace Go.Proofs.Ytmecindhgjdbgaa.Pure
open Go Go.RowKit Go.Proofs.Ytmecindhgjdbgaa.PIsa Go.Proofs.YtmecindhgjdbgaaW.PrintWords Go.Proofs.YtmecindhgjdbgaaW.PrintLast

theorem Isa80Bytes : pidginlaw06_Isa80Bytes.Pure := by
  intro a n l ha hn _ _ hl
  refine ⟨500, ?_⟩
  obtain ⟨a0, a1⟩ := u8_bd ha
  obtain ⟨n0, n1⟩ := u16_bd hn
  unfold pidginlaw06_Isa80Bytes.f
  by_cases h : (l.length : Int) > 1000
  · rw [if_pos h, alive_ok]; rfl
  rw [if_neg h, isaBytes_spec a0 a1, refBytes_spec a0 a1 n0 n1, isaRead_spec hl, refRead_spec hl]
  simp only [Option.bind_some]
  have hlen : (specBytes a n).1.length ≤ 3 := by
    unfold specBytes
    (repeat' split) <;> simp
    omega
  rw [same_bytes _ (by omega) _ (by omega), alive_ok]
  simp

end Go.Proofs.Ytmecindhgjdbgaa.Pure
