/- Contracts of the functions of this seat (each: the call of the function does what the plain Lean function of the same name tells; the conditions stand in each statement). Written by a program of this session and by hand; checked by Lean. -/
import Derived.Test.YtahkaekiandchaaDoorProg
import Derived.Below
import Derived.Deep.Draws
import Derived.Deep.AppendLies
import Derived.Maps.AppendAt
import Derived.OwnWalk
import Derived.Laws.BytesArg
import Derived.Laws.MakeOwn
import Derived.Laws.OwnMore
import Derived.Deep.OwnRows
import Derived.Tactics
import Derived.Lib.ConvBytes
import Derived.Laws.Slices
import Derived.WalkKit
import Derived.KernelRfl
import Derived.RowKit3
import Derived.Deep.LoopGhost
import Derived.Deep.QuietTactic
import Derived.BigQuiet
import Derived.WideLaws
import Derived.Deep.DeepCutAuto
import Derived.Deep.CutBlock
import Derived.Deep.RegionHeld3
import Derived.Laws.Rows
import Derived.Lib.AppendStr
import Derived.ArgAppend
import Derived.Laws.IdiomCopy
import Derived.OrdersHeld
import Derived.Laws.BitsLemmas
import Derived.RowKit
import Derived.WalkSpells
import Derived.Defers
import Derived.Recover
import Derived.Laws.Pointers
import Derived.RegionTactic
import Derived.BigRegion
import Derived.Test.YtahkaekiandchaaDoorWWords
import Derived.Test.YtahkaekiandchaaDoorWLast
import Derived.Test.YtahkaekiandchaaDoorWTab
import Derived.Test.YtahkaekiandchaaDoorWFour
import Derived.Test.YtahkaekiandchaaDoorWQPut
import Derived.Test.YtahkaekiandchaaDoorWApart
import Derived.Test.YtahkaekiandchaaDoorWArr
import Derived.Test.YtahkaekiandchaaDoorWZeros
import Derived.Test.YtahkaekiandchaaDoorWFoot
import Derived.Test.YtahkaekiandchaaDoorWKept
import Derived.Test.YtahkaekiandchaaDoorWShare
import Derived.Test.YtahkaekiandchaaDoorWN
import Derived.Test.YtahkaekiandchaaDoorWFootNe
import Derived.Test.YtahkaekiandchaaDoorWAt
import Derived.Test.YtahkaekiandchaaDoorWEqStruct
import Derived.Test.YtahkaekiandchaaDoorWRepsOne
import Derived.Test.YtahkaekiandchaaDoorWInv
import Derived.Test.YtahkaekiandchaaDoorWInvWords
import Derived.Test.YtahkaekiandchaaDoorWGuard
import Derived.Test.YtahkaekiandchaaDoorWNEv
import Derived.Test.YtahkaekiandchaaDoorWMore
namespace Go.Proofs.YtahkaekiandchaaDoor.R
open Go.RowKit Go.Proofs.YtahkaekiandchaaDoorW.PrintWords Go.Proofs.YtahkaekiandchaaDoorW.PrintLast Go.Proofs.YtahkaekiandchaaDoorW.PrintMore
attribute [local go_sem] max2_int min2_int max_two min_two max_three min_three max_four min_four   -- for this text's walks alone
set_option linter.unusedVariables false
set_option linter.unusedSimpArgs false



def errW : Option Int → Value
  | none => .nilIface
  | some c => .iface 0 (.int .i64 c)
theorem errW_none : errW none = .nilIface := rfl
theorem errW_some (c : Int) : errW (some c) = .iface 0 (.int .i64 c) := rfl

/-- capstan/op.names -/
def gl0 : List ByteArray := [⟨#[110, 111, 112]⟩, ⟨#[99, 111, 110, 115, 116]⟩, ⟨#[103, 101, 116]⟩, ⟨#[115, 101, 116]⟩, ⟨#[108, 111, 97, 100]⟩, ⟨#[115, 116, 111, 114, 101]⟩, ⟨#[112, 111, 112]⟩, ⟨#[100, 117, 112]⟩, ⟨#[115, 119, 97, 112]⟩, ⟨#[97, 100, 100]⟩, ⟨#[115, 117, 98]⟩, ⟨#[109, 117, 108]⟩, ⟨#[100, 105, 118]⟩, ⟨#[114, 101, 109]⟩, ⟨#[108, 101, 115, 115]⟩, ⟨#[115, 97, 109, 101]⟩, ⟨#[112, 97, 105, 114]⟩, ⟨#[114, 101]⟩, ⟨#[105, 109]⟩, ⟨#[112, 97, 100, 100]⟩, ⟨#[112, 109, 117, 108]⟩, ⟨#[99, 111, 110, 106]⟩, ⟨#[110, 101, 119]⟩, ⟨#[97, 116]⟩, ⟨#[112, 117, 116]⟩, ⟨#[108, 101, 110]⟩, ⟨#[106, 117, 109, 112]⟩, ⟨#[122, 101, 114, 111]⟩, ⟨#[108, 111, 111, 112]⟩, ⟨#[97, 103, 97, 105, 110]⟩, ⟨#[99, 97, 108, 108]⟩, ⟨#[114, 101, 116]⟩, ⟨#[116, 114, 97, 112]⟩]
/-- capstan/op.bounds -/
def gl1 : List Int := [0, 0, 0, 31, 0, 15, 0, 3, 0, 1024, 0, 199, 0, 15, 0, 255, 1, 100]
structure Gl (w : World) : Prop where
  g0 : Kd.string.C w (some ⟨0, 0, none⟩) gl0.length gl0
  g1 : (Kd.int .i64).C w (some ⟨1, 0, none⟩) gl1.length gl1
theorem Gl.below {w w1 : World} (h : Gl w) (hb : Below w.heap.size w w1) : Gl w1 := ⟨Kd.C_below h.g0 hb, Kd.C_below h.g1 hb⟩
theorem Gl.alloc {w : World} (h : Gl w) (o : Obj) : Gl (w.alloc o) := h.below (below_alloc (Below.refl _ _) o)
theorem Gl.drewN {w : World} (h : Gl w) (n : Nat) : Gl (w.drewN n) := h.below (pw_below_drewN (Below.refl _ _) n)
theorem Gl.drew {w : World} (h : Gl w) : Gl w.drew := h.below (below_drew1 (Below.refl _ _))

theorem info5 : (Tryd.prog.info? 5).map (fun i => (i.zero, i.size, i.bytes)) = some (some (.int .u8 0), 1, 1) := by kernel_rfl
-- the values' own types

end Go.Proofs.YtahkaekiandchaaDoor.R
