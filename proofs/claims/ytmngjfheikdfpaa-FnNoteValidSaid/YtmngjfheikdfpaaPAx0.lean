/- Contracts of Go functions, or the row of a law out of its pure statement: each call hands back what the plain function of its name tells. Conditions: those that each theorem names. Written by a program of this session (wip/px). -/
import Derived.Test.YtmngjfheikdfpaaProg
import Derived.Below
import Derived.Deep.Draws
import Derived.Deep.AppendLies
import Derived.Maps.AppendAt
import Derived.OwnWalk
import Derived.Laws.BytesArg
import Derived.Laws.MakeOwn
import Derived.Laws.OwnMore
import Derived.Deep.OwnRows
import Derived.Tactics
import Derived.Lib.ConvBytes
import Derived.Laws.Slices
import Derived.WalkKit
import Derived.KernelRfl
import Derived.RowKit3
import Derived.Deep.LoopGhost
import Derived.Deep.QuietTactic
import Derived.BigQuiet
import Derived.WideLaws
import Derived.Deep.DeepCutAuto
import Derived.Deep.CutBlock
import Derived.Deep.RegionHeld3
import Derived.Laws.Rows
import Derived.Lib.AppendStr
import Derived.ArgAppend
import Derived.Laws.IdiomCopy
import Derived.OrdersHeld
import Derived.Laws.BitsLemmas
import Derived.RowKit
import Derived.Test.YtmngjfheikdfpaaShelf
import Derived.Lib.IndexAny
import Derived.Test.YtmngjfheikdfpaaWWords
import Derived.Test.YtmngjfheikdfpaaWLast
import Derived.Test.YtmngjfheikdfpaaWTab
import Derived.Test.YtmngjfheikdfpaaWFour
import Derived.Test.YtmngjfheikdfpaaWQPut
import Derived.Test.YtmngjfheikdfpaaWApart
import Derived.Test.YtmngjfheikdfpaaWArr
import Derived.Test.YtmngjfheikdfpaaWZeros
import Derived.Test.YtmngjfheikdfpaaWFoot
import Derived.Test.YtmngjfheikdfpaaWKept
import Derived.Test.YtmngjfheikdfpaaWShare
import Derived.Test.YtmngjfheikdfpaaWN
import Derived.Test.YtmngjfheikdfpaaWFootNe
import Derived.Test.YtmngjfheikdfpaaWAt
import Derived.Test.YtmngjfheikdfpaaWEqStruct
import Derived.Test.YtmngjfheikdfpaaWRepsOne
import Derived.Test.YtmngjfheikdfpaaWInv
import Derived.Test.YtmngjfheikdfpaaWInvWords
import Derived.Test.YtmngjfheikdfpaaWGuard
import Derived.Test.YtmngjfheikdfpaaWNEv
import Derived.Test.YtmngjfheikdfpaaWMore
namespace Go.Proofs.Ytmngjfheikdfpaa.PA
open Go.RowKit Go.Proofs.YtmngjfheikdfpaaW.PrintWords Go.Proofs.YtmngjfheikdfpaaW.PrintLast Go.Proofs.YtmngjfheikdfpaaW.PrintMore
attribute [local go_sem] max2_int min2_int max_two min_two max_three min_three max_four min_four   -- for this text's walks alone
set_option linter.unusedVariables false
set_option linter.unusedSimpArgs false



def errW : Option Int → Value
  | none => .nilIface
  | some c => .iface 0 (.int .i64 c)
theorem errW_none : errW none = .nilIface := rfl
theorem errW_some (c : Int) : errW (some c) = .iface 0 (.int .i64 c) := rfl

theorem info5 : (Try.prog.info? 5).map (fun i => (i.zero, i.size, i.bytes)) = some (some (.int .u8 0), 1, 1) := by kernel_rfl
theorem info9 : (Try.prog.info? 9).map (fun i => (i.zero, i.size, i.bytes)) = some (some (.string ⟨#[]⟩), 1, 16) := by kernel_rfl
-- the values' own types

end Go.Proofs.Ytmngjfheikdfpaa.PA
