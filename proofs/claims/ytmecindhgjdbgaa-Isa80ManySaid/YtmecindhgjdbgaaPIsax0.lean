-- Printed by a program of this claim's own, out of the translation. Not trusted: Lean checks it.
import Derived.Test.YtmecindhgjdbgaaProg
import Derived.Below
import Derived.Deep.Draws
import Derived.Deep.AppendLies
import Derived.Maps.AppendAt
import Derived.OwnWalk
import Derived.Laws.BytesArg
import Derived.Laws.MakeOwn
import Derived.Laws.OwnMore
import Derived.Deep.OwnRows
import Derived.Tactics
import Derived.Lib.ConvBytes
import Derived.Laws.Slices
import Derived.WalkKit
import Derived.KernelRfl
import Derived.RowKit3
import Derived.Deep.LoopGhost
import Derived.Deep.QuietTactic
import Derived.BigQuiet
import Derived.WideLaws
import Derived.Deep.DeepCutAuto
import Derived.Deep.CutBlock
import Derived.Deep.RegionHeld3
import Derived.Laws.Rows
import Derived.Lib.AppendStr
import Derived.ArgAppend
import Derived.Laws.IdiomCopy
import Derived.OrdersHeld
import Derived.Laws.BitsLemmas
import Derived.RowKit
import Derived.Test.YtmecindhgjdbgaaAid
import Derived.Test.YtmecindhgjdbgaaWWords
import Derived.Test.YtmecindhgjdbgaaWLast
import Derived.Test.YtmecindhgjdbgaaWTab
import Derived.Test.YtmecindhgjdbgaaWFour
import Derived.Test.YtmecindhgjdbgaaWQPut
import Derived.Test.YtmecindhgjdbgaaWApart
import Derived.Test.YtmecindhgjdbgaaWArr
import Derived.Test.YtmecindhgjdbgaaWZeros
import Derived.Test.YtmecindhgjdbgaaWFoot
import Derived.Test.YtmecindhgjdbgaaWKept
import Derived.Test.YtmecindhgjdbgaaWShare
import Derived.Test.YtmecindhgjdbgaaWN
import Derived.Test.YtmecindhgjdbgaaWFootNe
import Derived.Test.YtmecindhgjdbgaaWAt
import Derived.Test.YtmecindhgjdbgaaWEqStruct
import Derived.Test.YtmecindhgjdbgaaWRepsOne
import Derived.Test.YtmecindhgjdbgaaWInv
import Derived.Test.YtmecindhgjdbgaaWInvWords
import Derived.Test.YtmecindhgjdbgaaWGuard
import Derived.Test.YtmecindhgjdbgaaWNEv
import Derived.Test.YtmecindhgjdbgaaWMore
namespace Go.Proofs.Ytmecindhgjdbgaa.PIsa
open Go.RowKit Go.Proofs.YtmecindhgjdbgaaW.PrintWords Go.Proofs.YtmecindhgjdbgaaW.PrintLast Go.Proofs.YtmecindhgjdbgaaW.PrintMore
attribute [local go_sem] max2_int min2_int max_two min_two max_three min_three max_four min_four   -- for this text's walks alone
set_option linter.unusedVariables false
set_option linter.unusedSimpArgs false



def errW : Option Int → Value
  | none => .nilIface
  | some c => .iface 0 (.int .i64 c)
theorem errW_none : errW none = .nilIface := rfl
theorem errW_some (c : Int) : errW (some c) = .iface 0 (.int .i64 c) := rfl

theorem info5 : (Try.prog.info? 5).map (fun i => (i.zero, i.size, i.bytes)) = some (some (.int .u8 0), 1, 1) := by kernel_rfl
theorem info9 : (Try.prog.info? 9).map (fun i => (i.zero, i.size, i.bytes)) = some (some (.string ⟨#[]⟩), 1, 16) := by kernel_rfl
-- the values' own types

end Go.Proofs.Ytmecindhgjdbgaa.PIsa
