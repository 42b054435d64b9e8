/- Part 4 of the proof of ratOwn_holds: what it uses, in build order. -/
import Derived.Test.YtehghijlchpeaaaS52
import Derived.ArgAppend
import Derived.Below
import Derived.BigQuiet
import Derived.Deep.AppendLies
import Derived.Deep.CutBlock
import Derived.Deep.DeepCutAuto
import Derived.Deep.Draws
import Derived.Deep.LoopGhost
import Derived.Deep.OwnRows
import Derived.Deep.QuietTactic
import Derived.Deep.RegionHeld3
import Derived.KernelRfl
import Derived.Laws.BitsAllLaws
import Derived.Laws.BitsLemmas
import Derived.Laws.BytesArg
import Derived.Laws.IdiomCopy
import Derived.Laws.MakeOwn
import Derived.Laws.MathBits
import Derived.Laws.OwnMore
import Derived.Laws.Rows
import Derived.Laws.Slices
import Derived.Lib.AppendStr
import Derived.Lib.ConvBytes
import Derived.LoopIn
import Derived.LoopNIn
import Derived.Maps.AppendAt
import Derived.OneCell
import Derived.OrdersHeld
import Derived.OrdersIn
import Derived.OwnWalk
import Derived.OwnWalkIn
import Derived.RangeFuncBound
import Derived.RangeFuncCalls
import Derived.RangeFuncFrom
import Derived.RangeFuncLeaves
import Derived.RangeFuncNested
import Derived.RowKit
import Derived.RowKit3
import Derived.Shelf.Abstract
import Derived.Shelf.RegionOpen
import Derived.Tactics
import Derived.TacticsInMore
import Derived.Test.YtehghijlchpeaaaProg
import Derived.WalkKit
import Derived.WalkSpells
import Derived.WideLaws
import GoSem.Claim
section
noncomputable section
namespace Go.Proofs.Ytehghijlchpeaaa.S
open Go.RowKit Ytehghijlchpeaaa.Nat1 Go.Proofs.YtehghijlchpeaaaW.PrintWords Go.Proofs.YtehghijlchpeaaaW.PrintLast Go.Proofs.YtehghijlchpeaaaW.PrintMore
attribute [local go_sem] zaX zaU zbc za9 zaN zaM zaW zaV   -- for this text's walks alone
set_option linter.unusedVariables false
set_option linter.unusedSimpArgs false
end Go.Proofs.Ytehghijlchpeaaa.S
end
end
