/- Contracts of the functions of this seat (each: the call of the function does what the plain Lean function of the same name tells; the conditions stand in each statement). Written by a program of this session and by hand; checked by Lean. -/
import Derived.Test.YtahkaekiandchaaProg
import Derived.Below
import Derived.Deep.Draws
import Derived.Deep.AppendLies
import Derived.Maps.AppendAt
import Derived.OwnWalk
import Derived.Laws.BytesArg
import Derived.Laws.MakeOwn
import Derived.Laws.OwnMore
import Derived.Deep.OwnRows
import Derived.Tactics
import Derived.Lib.ConvBytes
import Derived.Laws.Slices
import Derived.WalkKit
import Derived.KernelRfl
import Derived.RowKit3
import Derived.Deep.LoopGhost
import Derived.Deep.QuietTactic
import Derived.BigQuiet
import Derived.WideLaws
import Derived.Deep.DeepCutAuto
import Derived.Deep.CutBlock
import Derived.Deep.RegionHeld3
import Derived.Laws.Rows
import Derived.Lib.AppendStr
import Derived.ArgAppend
import Derived.Laws.IdiomCopy
import Derived.OrdersHeld
import Derived.Laws.BitsLemmas
import Derived.RowKit
import Derived.WalkSpells
import Derived.Defers
import Derived.Recover
import Derived.Laws.Pointers
import Derived.RegionTactic
import Derived.BigRegion
import Derived.Test.YtahkaekiandchaaWWords
import Derived.Test.YtahkaekiandchaaWLast
import Derived.Test.YtahkaekiandchaaWTab
import Derived.Test.YtahkaekiandchaaWFour
import Derived.Test.YtahkaekiandchaaWQPut
import Derived.Test.YtahkaekiandchaaWApart
import Derived.Test.YtahkaekiandchaaWArr
import Derived.Test.YtahkaekiandchaaWZeros
import Derived.Test.YtahkaekiandchaaWFoot
import Derived.Test.YtahkaekiandchaaWKept
import Derived.Test.YtahkaekiandchaaWShare
import Derived.Test.YtahkaekiandchaaWN
import Derived.Test.YtahkaekiandchaaWFootNe
import Derived.Test.YtahkaekiandchaaWAt
import Derived.Test.YtahkaekiandchaaWEqStruct
import Derived.Test.YtahkaekiandchaaWRepsOne
import Derived.Test.YtahkaekiandchaaWInv
import Derived.Test.YtahkaekiandchaaWInvWords
import Derived.Test.YtahkaekiandchaaWGuard
import Derived.Test.YtahkaekiandchaaWNEv
import Derived.Test.YtahkaekiandchaaWMore
namespace Go.Proofs.Ytahkaekiandchaa.R
open Go.RowKit Go.Proofs.YtahkaekiandchaaW.PrintWords Go.Proofs.YtahkaekiandchaaW.PrintLast Go.Proofs.YtahkaekiandchaaW.PrintMore
attribute [local go_sem] max2_int min2_int max_two min_two max_three min_three max_four min_four   -- for this text's walks alone
set_option linter.unusedVariables false
set_option linter.unusedSimpArgs false



def errW : Option Int → Value
  | none => .nilIface
  | some c => .iface 0 (.int .i64 c)
theorem errW_none : errW none = .nilIface := rfl
theorem errW_some (c : Int) : errW (some c) = .iface 0 (.int .i64 c) := rfl

theorem info5 : (Try.prog.info? 5).map (fun i => (i.zero, i.size, i.bytes)) = some (some (.int .u8 0), 1, 1) := by kernel_rfl
-- the values' own types

end Go.Proofs.Ytahkaekiandchaa.R
