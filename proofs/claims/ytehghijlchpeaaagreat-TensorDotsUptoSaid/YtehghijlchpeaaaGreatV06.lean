/- Part 7 of the proof of tensorDotsUpto_holds: what it uses, in build order. -/
import Derived.Test.YtehghijlchpeaaaGreatV05
import Derived.OneCell
import Derived.Shelf.Abstract
set_option maxHeartbeats 8000000
set_option maxRecDepth 100000
set_option linter.unusedVariables false
set_option linter.unusedSimpArgs false
set_option linter.unusedSectionVars false
section
namespace Go.Proofs.YtehghijlchpeaaaGreat.Nat1
open Go.RowKit YtehghijlchpeaaaGreatW.PrintWords YtehghijlchpeaaaGreatW.PrintLast YtehghijlchpeaaaGreatW.PrintMore
theorem infoU32:(Tryz.prog.info? 81).map (fun i=>(i.zero,i.size,i.bytes))=some (some (.int .u32 0),1,4):=by kernel_rfl
theorem put_calls (x c:Int) (Bo Bc base:Nat) (v:Value) (xs:List Int) (W:World) (hx:0≤x) (hx2:x < 18446744073709551616)
  (ho:W.heap[Bo]? = some (.cells #[v] 25 (0,0))) (hc:W.heap[Bc]? = some (.cells #[.int .u64 c] 161 (0,0)))
  (hR:Kd.R (Kd.int .u32) 81 W base (fun k=>k≠Bo∧k≠Bc) v xs) (h1:base≤Bo) (h2:base≤Bc) (hne:Bo≠Bc) (hl:xs.length < 17592186044416) :
  Calls Tryz.prog 178 #[.int .u64 x,.pointer (some ⟨Bo,0,none⟩),.pointer (some ⟨Bc,0,none⟩)] W fun e w' =>
   e=.returned (.tuple #[])∧∃ v1,w'.heap[Bo]? = some (.cells #[v1] 25 (0,0))∧w'.heap[Bc]? = some (.cells #[.int .u64 (x / 4294967296)] 161 (0,0)) ∧
    Kd.R (Kd.int .u32) 81 w' base (fun k=>k≠Bo∧k≠Bc) v1 (xs++[x % 4294967296])∧Below base W w':=by
 obtain⟨A,cc,rfl⟩:=Kd.R_slice hR
 have HO:=Aside0.mk ho
 have HC:=Aside0.mk hc
 have HR:=Aside0.mk hR
 have hco:=cell_of_one ho
 have hfo:=free_of_one ho
 have hcc:=cell_of_one hc
 have hfc:=free_of_one hc
 have hlo:=lt_of_block ho
 have hlc:=lt_of_block hc
 have HX2:=Aside0.mk hx2
 clear ho hc hR hx2
 go_enter Tryz.func178,Tryz.ntmps178
 go_wp2_with (at_builtin; refine Kd.R_append (Kd.int .u32) (w0:=W) base rfl (.tmp 4) (.tmp 7) 25 81 (.int .u32 0) 4 rfl Tryz.underlying25 infoU32 rfl (by decide) (by omega) (.slice A xs.length cc) xs (x % 4294967296) [.int .u32 (x % 4294967296)] (fun k=>k≠Bo∧k≠Bc) (fun _=>False) rfl rfl ?aP (fun _ hk=>hk.elim) ?aF HR.out (Below.refl _ _) ?aS ?aL ?_; (case aP=>exact rfl); (case aF=>intro k hk; omega); (case aS=>omega); (case aL=>omega); intro v1 w1 hr hb hg hat; obtain⟨A1,c1,rfl⟩:=Kd.R_slice hr; have q1:=Aside0.mk ((hg.block Bo hlo (fun e=>(HR.out.1 Bo e.symm).1 rfl)).trans HO.out); have q2:=Aside0.mk ((hg.block Bc hlc (fun e=>(HR.out.1 Bc e.symm).2 rfl)).trans HC.out); have HR1:=Aside0.mk hr; have HB1:=Aside0.mk hb; clear hco hfo hcc hfc hr hb hg hat; have hco:=cell_of_one q1.out; have hfo:=free_of_one q1.out; have hcc:=cell_of_one q2.out; have hfc:=free_of_one q2.out)
 go_end0
 have e1:=one_setCell q1.out (u:=.slice A1 (xs.length+1) c1)
 have e2:=(Below.heap_setCell w1 ⟨Bo,0,none⟩ (.slice A1 (xs.length+1) c1) Bc (by simp; omega)).trans q2.out
 have e3:=one_setCell e2 (u:=.int .u64 (x / 4294967296))
 have e4:=(Below.heap_setCell (w1.setCell ⟨Bo,0,none⟩ (.slice A1 (xs.length+1) c1)) ⟨Bc,0,none⟩ (.int .u64 (x / 4294967296)) Bo (by simp; omega)).trans e1
 refine⟨rfl,_,e4,e3,?_,(HB1.out.setCell (p:=⟨Bo,0,none⟩) h1 _).setCell (p:=⟨Bc,0,none⟩) h2 _⟩
 have hr2:=Kd.R_far (Kd.R_far HR1.out (p:=⟨Bo,0,none⟩) (fun k hk=>hk.1) (.slice A1 (xs.length+1) c1)) (p:=⟨Bc,0,none⟩) (fun k hk=>hk.2) (.int .u64 (x / 4294967296))
 simpa using hr2
end Go.Proofs.YtehghijlchpeaaaGreat.Nat1
end
