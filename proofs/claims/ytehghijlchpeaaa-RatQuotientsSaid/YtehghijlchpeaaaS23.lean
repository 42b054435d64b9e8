/- Part 4 of the proof of ratQuotients_holds: what it uses, in build order. -/
import Derived.Test.YtehghijlchpeaaaS22
import Derived.ArgAppend
import Derived.Below
import Derived.BigQuiet
import Derived.Deep.AppendLies
import Derived.Deep.CutBlock
import Derived.Deep.DeepCutAuto
import Derived.Deep.Draws
import Derived.Deep.LoopGhost
import Derived.Deep.OwnRows
import Derived.Deep.QuietTactic
import Derived.Deep.RegionHeld3
import Derived.KernelRfl
import Derived.Laws.BitsLemmas
import Derived.Laws.BytesArg
import Derived.Laws.IdiomCopy
import Derived.Laws.MakeOwn
import Derived.Laws.OwnMore
import Derived.Laws.Rows
import Derived.Laws.Slices
import Derived.Lib.AppendStr
import Derived.Lib.ConvBytes
import Derived.Lib.ItoaNum
import Derived.Maps.AppendAt
import Derived.OrdersHeld
import Derived.OwnWalk
import Derived.RowKit
import Derived.RowKit3
import Derived.Shelf.Small.Bits
import Derived.Tactics
import Derived.Test.YtehghijlchpeaaaProg
import Derived.WalkKit
import Derived.WalkMore
import Derived.WideLaws
section
noncomputable section
namespace Go.Proofs.Ytehghijlchpeaaa.J
open Go.RowKit Ytehghijlchpeaaa.H Ytehghijlchpeaaa.L Ytehghijlchpeaaa.Nat1 Go.Proofs.YtehghijlchpeaaaW.PrintWords Go.Proofs.YtehghijlchpeaaaW.PrintLast Go.Proofs.YtehghijlchpeaaaW.PrintMore
set_option linter.unusedVariables false
set_option linter.unusedSimpArgs false
theorem at_L2 {w:World} {A:Option Addr} {n:Nat} {xs:List (List Int)} (h:Kd.C (Kd.slice 63 (Kd.int .u32)) w A n xs) (i:Int) (h0:0≤i) (h1:i < n):∃ ad A0 c0,A=some ad∧w.cell? (ad.add i.toNat)=some (.slice A0 (rd_L2 xs i).length c0)∧(rd_L2 xs i).length≤c0∧(Kd.int .u32).C w A0 (rd_L2 xs i).length (rd_L2 xs i):=by
 obtain⟨ad,c,e,_,hK,hc0⟩:=Kd.C_get h ([]:List Int) i h0 h1
 have hc:∀ j u,c[j]? = some u→w.cell? (ad.add (i.toNat*1+j))=some u:=hc0
 obtain⟨A0,c0,rfl,l0,g0⟩:=hK
 exact⟨ad,A0,c0,e,by have hq:=hc 0 _ rfl; rwa [Nat.mul_one,Nat.add_zero] at hq,l0,g0⟩
end Go.Proofs.Ytehghijlchpeaaa.J
end
end
section
namespace Go.Proofs.Ytehghijlchpeaaa.Ev
open Go.RowKit Go.Proofs.YtehghijlchpeaaaW.PrintWords Go.Proofs.YtehghijlchpeaaaW.PrintLast Go.Proofs.YtehghijlchpeaaaW.PrintMore Go.Proofs.Ytehghijlchpeaaa.L Go.Proofs.Ytehghijlchpeaaa.Nt Go.Proofs.Ytehghijlchpeaaa.Nat1
set_option linter.unusedVariables false
set_option linter.unusedSimpArgs false
set_option linter.unusedSectionVars false
theorem ofR_ev {n:Bool} {p q:List Int} (hp:okE p) (hq:okE q):Ev (fun k=>fluxionref03_Of.f k n p q) (DR (nrm n (val B32 p) (val B32 q))):=by
 obtain⟨k1,h1⟩:=of_ev hp.1 (Nat.le_trans hp.2 (by decide))
 obtain⟨k2,h2⟩:=of_ev hq.1 (Nat.le_trans hq.2 (by decide))
 obtain⟨k3,h3⟩:=make_ev (n:=n) hp.sh hq.sh
 dsimp only at h1 h2 h3
 refine⟨k1+k2+k3,fun k hk=>?_⟩
 dsimp only
 rw [fluxionref03_Of.f,h1 k (by omega),Option.bind_some,h2 k (by omega),Option.bind_some,h3 k (by omega),Option.bind_some]
end Go.Proofs.Ytehghijlchpeaaa.Ev
end
section
namespace Go.Proofs.Ytehghijlchpeaaa.Nat1
open Go.RowKit Go.Proofs.YtehghijlchpeaaaW.PrintWords Go.Proofs.YtehghijlchpeaaaW.PrintLast Go.Proofs.YtehghijlchpeaaaW.PrintMore Go.Proofs.Ytehghijlchpeaaa.L Go.Proofs.Ytehghijlchpeaaa.Nt Go.Proofs.Ytehghijlchpeaaa.Ev
set_option linter.unusedVariables false
set_option linter.unusedSimpArgs false
set_option linter.unusedSectionVars false
theorem QT.lower {w:World} {base base':Nat} {v:Value} {r:QN} (h:QT w base v r) (hb:base'≤base):QT w base' v r:=by
 obtain⟨v1,v2,he,h1,h2⟩:=h
 exact⟨v1,v2,he,Kd.R_lower h1 hb,Kd.R_lower h2 hb⟩
end Go.Proofs.Ytehghijlchpeaaa.Nat1
end
