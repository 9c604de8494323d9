-- PRINTED by printx.py (the kit's print, with contracts that were written by hand in the place of what it does not print). Not trusted: Lean checks it.
import Derived.Test.YtpoafdckkmecnaaProg
import Derived.Below
import Derived.Deep.Draws
import Derived.Deep.AppendLies
import Derived.Maps.AppendAt
import Derived.OwnWalk
import Derived.Laws.BytesArg
import Derived.Laws.MakeOwn
import Derived.Laws.OwnMore
import Derived.Deep.OwnRows
import Derived.Tactics
import Derived.Lib.ConvBytes
import Derived.Laws.Slices
import Derived.WalkKit
import Derived.KernelRfl
import Derived.RowKit3
import Derived.Deep.LoopGhost
import Derived.Deep.QuietTactic
import Derived.BigQuiet
import Derived.WideLaws
import Derived.Deep.DeepCutAuto
import Derived.Deep.CutBlock
import Derived.Deep.RegionHeld3
import Derived.Laws.Rows
import Derived.Lib.AppendStr
import Derived.ArgAppend
import Derived.Laws.IdiomCopy
import Derived.OrdersHeld
import Derived.Laws.BitsLemmas
import Derived.RowKit
import Derived.Test.YtpoafdckkmecnaaWWords
import Derived.Test.YtpoafdckkmecnaaWLast
import Derived.Test.YtpoafdckkmecnaaWTab
import Derived.Test.YtpoafdckkmecnaaWFour
import Derived.Test.YtpoafdckkmecnaaWQPut
import Derived.Test.YtpoafdckkmecnaaWApart
import Derived.Test.YtpoafdckkmecnaaWArr
import Derived.Test.YtpoafdckkmecnaaWZeros
import Derived.Test.YtpoafdckkmecnaaWFoot
import Derived.Test.YtpoafdckkmecnaaWKept
import Derived.Test.YtpoafdckkmecnaaWShare
import Derived.Test.YtpoafdckkmecnaaWN
import Derived.Test.YtpoafdckkmecnaaWFootNe
import Derived.Test.YtpoafdckkmecnaaWAt
import Derived.Test.YtpoafdckkmecnaaWEqStruct
import Derived.Test.YtpoafdckkmecnaaWRepsOne
import Derived.Test.YtpoafdckkmecnaaWInv
import Derived.Test.YtpoafdckkmecnaaWInvWords
import Derived.Test.YtpoafdckkmecnaaWGuard
import Derived.Test.YtpoafdckkmecnaaWNEv
import Derived.Test.YtpoafdckkmecnaaWMore
namespace Go.Proofs.Ytpoafdckkmecnaa.PPol
open Go.RowKit Go.Proofs.YtpoafdckkmecnaaW.PrintWords Go.Proofs.YtpoafdckkmecnaaW.PrintLast Go.Proofs.YtpoafdckkmecnaaW.PrintMore
attribute [local go_sem] max2_int min2_int max_two min_two max_three min_three max_four min_four   -- for this text's walks alone
set_option linter.unusedVariables false
set_option linter.unusedSimpArgs false



def errW : Option Int → Value
  | none => .nilIface
  | some c => .iface 0 (.int .i64 c)
theorem errW_none : errW none = .nilIface := rfl
theorem errW_some (c : Int) : errW (some c) = .iface 0 (.int .i64 c) := rfl

-- the values' own types

end Go.Proofs.Ytpoafdckkmecnaa.PPol
