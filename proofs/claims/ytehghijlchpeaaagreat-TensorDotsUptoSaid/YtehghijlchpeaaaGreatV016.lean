/- Part 17 of the proof of tensorDotsUpto_holds: what it uses, in build order. -/
import Derived.Test.YtehghijlchpeaaaGreatV015
import Derived.ArgAppend
import Derived.Below
import Derived.BigQuiet
import Derived.ChangeOld
import Derived.Deep.AppendLies
import Derived.Deep.CutBlock
import Derived.Deep.DeepCutAuto
import Derived.Deep.Draws
import Derived.Deep.LoopGhost
import Derived.Deep.OwnRows
import Derived.Deep.QuietTactic
import Derived.Deep.RegionHeld3
import Derived.KernelRfl
import Derived.Laws.BitsLemmas
import Derived.Laws.BytesArg
import Derived.Laws.IdiomCopy
import Derived.Laws.MakeOwn
import Derived.Laws.OwnMore
import Derived.Laws.Rows
import Derived.Laws.Slices
import Derived.Lib.AppendStr
import Derived.Lib.ConvBytes
import Derived.Lib.SmallJoins
import Derived.Maps.AppendAt
import Derived.OpenShut
import Derived.OrdersHeld
import Derived.OwnWalk
import Derived.ProofKit
import Derived.RowKit
import Derived.RowKit3
import Derived.SizedLaws
import Derived.Tactics
import Derived.Test.YtehghijlchpeaaaGreatProg
import Derived.Test.YtehghijlchpeaaaGreatRows
import Derived.WalkKit
import Derived.WalkMore
import Derived.WideLaws
set_option maxHeartbeats 8000000
set_option maxRecDepth 100000
set_option linter.unusedVariables false
set_option linter.unusedSimpArgs false
set_option linter.unusedSectionVars false
section
namespace Go.Proofs.YtehghijlchpeaaaGreat.Nat1
open Go.ChangeShapes Go.WideShapes Go.ChangeAt Go.RowKit Go.Joins YtehghijlchpeaaaGreatW.PrintWords YtehghijlchpeaaaGreatW.PrintLast YtehghijlchpeaaaGreatW.PrintMore L Nt
theorem nat_arg {H:Type} {enc:TypeId×Value→H} {W:World} {m:Nat} {v:Value} {y:DataW H×List MemPlace} (h:DataW.trod enc Tryz.prog W 0 (fun _=>true) true m 25 [v]=some y) :
  ∃ (A:Option Addr) (c:Nat) (l:List Int),v=.slice A l.length c∧Kd.C (Kd.int .u32) W A l.length l∧l.length≤c∧ok B32 l:=by
 obtain⟨a,len,cap,zs,rfl,hz⟩:∃ a len cap zs,v=.slice a len cap∧((a=none∧len=0∧cap=0∧zs=[])∨∃ x,a=some x∧len≤cap∧cap≤maxLen∧zs.length=cap∧(∀ i,i < zs.length→W.cell? (x.add i)=some (.int .u32 (zs.getD i 0)))∧∀ n∈zs,(Lit.int .u32 n).wf=true):=by
  rcases open_ints Tryz.underlying25 Tryz.underlying81 (by kernel_rfl) h with ⟨hcs,_⟩ | ⟨x,l,c,zs,hcs,_,hl,hm,hz,_,hcell,hwz⟩
  ·
   injection hcs with hcs _
   exact⟨none,0,0,[],hcs,.inl ⟨rfl,rfl,rfl,rfl⟩⟩
  ·
   injection hcs with hcs _
   exact⟨some x,l,c,zs,hcs,.inr ⟨_,rfl,hl,hm,by simpa using hz,hcell,hwz⟩⟩
 obtain⟨l,rfl,hr,hm,hw,hc⟩:=zca.ofRowC hz
 refine⟨a,cap,l,rfl,Kd.C_of_reads (d:=(0:Int)) (h1:=fun _=>rfl) hr,hc,fun x hx=>?_⟩
 have:=hw x hx
 simp [Lit.wf,IntKind.min,IntKind.max,IntKind.bits,IntKind.signed] at this
 unfold B32
 omega
end Go.Proofs.YtehghijlchpeaaaGreat.Nat1
end
section
namespace Go.Proofs.YtehghijlchpeaaaGreat.Nat1
open Go.RowKit YtehghijlchpeaaaGreatW.PrintWords YtehghijlchpeaaaGreatW.PrintLast YtehghijlchpeaaaGreatW.PrintMore L Nt Ev
theorem dg_lit {n:Nat} (h0:0 < n) (h:n < B32):dg B32 n=[(n:Int)]:=by
 rw [dg_pos zby h0,Nat.mod_eq_of_lt h,Nat.div_eq_of_lt h,zbT]
theorem okS_nil:okS []:=⟨ok_nil _,by simp⟩
theorem C_none (W:World):Kd.C (Kd.int .u32) W none 0 []:=⟨rfl,by omega,fun h=>absurd h (by omega)⟩
end Go.Proofs.YtehghijlchpeaaaGreat.Nat1
end
section
namespace Go.Proofs.YtehghijlchpeaaaGreat.Nat1
open Go.RowKit YtehghijlchpeaaaGreatW.PrintWords YtehghijlchpeaaaGreatW.PrintLast YtehghijlchpeaaaGreatW.PrintMore L Nt Ev
theorem own_q (A0:Option Addr) (c0:Nat) (l0:List Int) (w:World) (hr0:Kd.C (Kd.int .u32) w A0 l0.length l0) (hc0:l0.length≤c0) (hl:l0.length≤1099511627776) :
  Calls Tryz.prog 70 #[.slice A0 l0.length c0] w fun e w'=>∃ v0_:Value,e=.returned (v0_)∧Kd.R (Kd.int .u32) 81 w' w.heap.size (fun _=>True) v0_ l0∧Below w.heap.size w w':=by
 have HR:=Aside0.mk hr0
 clear hr0
 go_enter Tryz.func70,Tryz.ntmps70
 go_wp2_with ((with_reducible refine zbO (b:=.append) rfl ?_); go_must (refine Kd.R_append_row (Value.int .u32) (0:Int) w.heap.size rfl _ _ 25 81 (.int .u32 0) 4 rfl Tryz.underlying25 infoU32 rfl (by omega) (.slice none 0 0) [] l0 A0 l0.length c0 (fun _=>True) rfl rfl (fun _ _=>trivial) (Kd.R_nil _ _ _ _ _) HR.out (Below.refl _ _) (Nat.le_refl _) (by simp only [List.length_nil]; omega) ?_); intro v1 w1 hR hB hx1 hx2; clear hx1 hx2; obtain⟨A,c,rfl⟩:=Kd.R_slice hR; have HR1:=Aside0.mk hR; have HB1:=Aside0.mk hB; clear hR hB)
 go_ret
 exact⟨_,rfl,HR1.out,HB1.out⟩
theorem ownR_q (n:Bool) (A1:Option Addr) (c1:Nat) (p:List Int) (A2:Option Addr) (c2:Nat) (q:List Int) (w:World) (hr1:Kd.C (Kd.int .u32) w A1 p.length p) (hc1:p.length≤c1) (hr2:Kd.C (Kd.int .u32) w A2 q.length q) (hc2:q.length≤c2) (hp:p.length≤1099511627776) (hq:q.length≤1099511627776) :
  Calls Tryz.prog 17 #[.agg #[.bool n,.slice A1 p.length c1,.slice A2 q.length c2]] w fun e w'=>∃ v1 v2,e=.returned (.agg #[.bool n,v1,v2])∧Kd.R (Kd.int .u32) 81 w' w.heap.size (fun k_=>some k_≠v2.ownBlock) v1 p∧Kd.R (Kd.int .u32) 81 w' w.heap.size (fun k_=>some k_≠v1.ownBlock) v2 q∧Below w.heap.size w w':=by
 have hu25:=Tryz.underlying27
 have H1:=Aside0.mk (fun (W:World) (hb:Below w.heap.size w W)=>own_q A1 c1 p W (Kd.C_below hr1 hb) hc1 hp)
 have H2:=Aside0.mk (fun (W:World) (hb:Below w.heap.size w W)=>own_q A2 c2 q W (Kd.C_below hr2 hb) hc2 hq)
 clear hr1 hr2 hp hq
 go_enter Tryz.func17,Tryz.ntmps17
 go_wp2_with fail
 have hb1:=zbt (zbI w (.cells #[.bool n,.slice A1 p.length c1,.slice A2 q.length c2] 27)) (.cells #[.bool false,.slice none 0 0,.slice none 0 0] 27)
 have hb2:=zbI (w.alloc (.cells #[.bool n,.slice A1 p.length c1,.slice A2 q.length c2] 27)) (.cells #[.bool false,.slice none 0 0,.slice none 0 0] 27)
 have hs:(w.alloc (.cells #[.bool n,.slice A1 p.length c1,.slice A2 q.length c2] 27)).heap.size=w.heap.size+1:=by simp
 rw [hs] at hb2
 have hbw:Below w.heap.size w ((w.alloc (.cells #[.bool n,.slice A1 p.length c1,.slice A2 q.length c2] 27)).alloc (.cells #[.bool false,.slice none 0 0,.slice none 0 0] 27)):=zbn (zbn (Below.refl _ _) _) _
 have HX0:=Aside0.mk (And.intro (zbu hb1) (And.intro (zbu hb2) (zbs hbw)))
 clear hb1 hb2 hbw hs
 generalize (w.alloc (.cells #[.bool n,.slice A1 p.length c1,.slice A2 q.length c2] 27)).alloc (.cells #[.bool false,.slice none 0 0,.slice none 0 0] 27)=W0 at HX0 ⊢
 refine zco (n:=10) (S:=fun w'=>(w'.cell? ⟨w.heap.size,0,none⟩=some (.bool n)∧w'.cell? ⟨w.heap.size,1,none⟩=some (.slice A1 p.length c1)∧w'.cell? ⟨w.heap.size,2,none⟩=some (.slice A2 q.length c2))) (ds:=[9]) #[zf,zf,zf,zf,zf,zf,zf,zf,zf,zf] (by kernel_rfl) rfl rfl (⟨(zbq HX0.out.1 0).trans rfl,(zbq HX0.out.1 1).trans rfl,(zbq HX0.out.1 2).trans rfl⟩) (fun hHeld=>?_)
 generalize W0.drew=V0 at HX0 hHeld ⊢
 refine qp 0 (some 3) ?_
 refine qp 2 (some 5) ?_
 refine qp 5 (some 8) ?_
 refine qt 1 (some 4) ?_
 refine qt 3 (some 6) ?_
 refine qt 6 (some 9) ?_
 refine qo 4 (some 7) (fun K hK=>?_)
 refine qg Tryz.func70 #[.slice A1 p.length c1] ?_
 refine(H1.out V0 HX0.out.2.2).mono ?_
 rintro e V1 ⟨v,rfl,hR,hB⟩
 refine⟨_,rfl,?_⟩
 obtain⟨B0,d0,rfl⟩:=Kd.R_slice hR
 have HX1:=Aside0.mk (And.intro (zbr HX0.out.1 hB) (And.intro (zbr HX0.out.2.1 hB) (zbm HX0.out.2.2 hB)))
 have HR1:=Aside0.mk (Kd.R_lower hR HX0.out.2.2.size)
 clear hR hB HX0
 refine hK.out _ _ (⟨(zbq HX1.out.1 0).trans rfl,(zbq HX1.out.1 1).trans rfl,(zbq HX1.out.1 2).trans rfl⟩) (fun hHeld=>?_)
 clear hK K
 refine qn ?_
 refine qo 7 (some 10) (fun K hK=>?_)
 refine qg Tryz.func70 #[.slice A2 q.length c2] ?_
 refine(H2.out V1 HX1.out.2.2).mono ?_
 rintro e V2 ⟨v,rfl,hR,hB⟩
 refine⟨_,rfl,?_⟩
 obtain⟨B1,d1,rfl⟩:=Kd.R_slice hR
 have HX2:=Aside0.mk (And.intro (zbr HX1.out.1 hB) (And.intro (zbr HX1.out.2.1 hB) (zbm HX1.out.2.2 hB)))
 have HRR:=Aside0.mk (two_apart HR1.out hR hB HX1.out.2.2.size)
 clear hR hB HX1
 refine hK.out _ _ (⟨(zbq HX2.out.1 0).trans rfl,(zbq HX2.out.1 1).trans rfl,(zbq HX2.out.1 2).trans rfl⟩) (fun hHeld=>?_)
 clear hK K
 refine qn ?_
 refine qp 8 (some 11) ?_
 refine ql 9 none (fun K hK=>?_)
 obtain⟨⟨x0,x1,x2⟩,y0,y1,y2⟩:=zbH HX2.out.2.1
 refine qx ?_
 refine hK.out _ _ ?_
 clear hK K
 refine done_ (by kernel_rfl) ?_
 clear hHeld
 go_wp2
 refine bodyPost_ret (results_cell_row rfl _ _ (w.heap.size+1) 27 _ (0,0) _ rfl (zbM HX2.out.2.1 _ _ _) Tryz.underlying27 rfl (by kernel_rfl)) rfl ?_
 exact⟨_,_,rfl,zcx HRR.out.1 HX2.out.2.1 _ _ _,zcx HRR.out.2 HX2.out.2.1 _ _ _,zbN HX2.out.2.2 (by omega) _ _ _⟩
end Go.Proofs.YtehghijlchpeaaaGreat.Nat1
end
section
namespace Go.Proofs.YtehghijlchpeaaaGreat.Nt
theorem red_add (x y:QN):red (addQ x y):=by
 unfold addQ
 split
 ·
  exact nrm_red _ _ _
 ·
  split<;>exact nrm_red _ _ _
end Go.Proofs.YtehghijlchpeaaaGreat.Nt
end
section
namespace Go.Proofs.YtehghijlchpeaaaGreat.Nat1
open Go.RowKit YtehghijlchpeaaaGreatW.PrintWords YtehghijlchpeaaaGreatW.PrintLast YtehghijlchpeaaaGreatW.PrintMore L Nt Ev
def NR (w:World) (v:Value) (X:QN):Prop :=
 ∃ (n:Bool) (A1:Option Addr) (c1:Nat) (p:List Int) (A2:Option Addr) (c2:Nat) (q:List Int),v=.agg #[.bool n,.slice A1 p.length c1,.slice A2 q.length c2] ∧
  (Kd.C (Kd.int .u32) w A1 p.length p∧p.length≤c1∧okS p)∧(Kd.C (Kd.int .u32) w A2 q.length q∧q.length≤c2∧okS q)∧nrm n (val B32 p) (val B32 q)=X
def lim (k:Nat) (X:QN):Prop:=X.2.1 < B32 ^ k∧X.2.2 < B32 ^ k
theorem lim_ok {k:Nat} {X:QN} (h:lim k X) (hk:k≤137438953472):okQ X:=by
 have h1:=zbS zby h.1
 have h2:=zbS zby h.2
 exact⟨by omega,by omega⟩
theorem lim_up {j k:Nat} {X:QN} (h:lim j X) (hk:j≤k):lim k X :=
 ⟨Nat.lt_of_lt_of_le h.1 (Nat.pow_le_pow_right (by decide) hk),Nat.lt_of_lt_of_le h.2 (Nat.pow_le_pow_right (by decide) hk)⟩
theorem lim_nrm {k:Nat} {n:Bool} {a b:Nat} (ha:a < B32 ^ k) (hb:b < B32 ^ k) (hk:0 < k):lim k (nrm n a b):=by
 have h1:1 < B32 ^ k:=Nat.one_lt_pow (by omega) (by decide)
 unfold nrm lim
 split
 ·
  exact⟨by simp only []; omega,by simp only []; exact h1⟩
 ·
  exact⟨Nat.lt_of_le_of_lt (Nat.div_le_self _ _) ha,Nat.lt_of_le_of_lt (Nat.div_le_self _ _) hb⟩
theorem lim_mul2 {j k a b:Nat} (ha:a < B32 ^ j) (hb:b < B32 ^ k):a*b < B32 ^ (j+k):=by
 rw [Nat.pow_add]
 exact Nat.mul_lt_mul'' ha hb
theorem lim_mul {j k:Nat} {X Y:QN} (h1:lim j X) (h2:lim k Y) (hk:0 < j+k):lim (j+k) (mulQ X Y):=lim_nrm (lim_mul2 h1.1 h2.1) (lim_mul2 h1.2 h2.2) hk
theorem lim_add {j k:Nat} {X Y:QN} (h1:lim j X) (h2:lim k Y):lim (j+k+1) (addQ X Y):=by
 have e1:=lim_mul2 h1.1 h2.2
 have e2:=lim_mul2 h2.1 h1.2
 rw [Nat.add_comm k j] at e2
 have e3:=lim_mul2 h1.2 h2.2
 have e4:B32 ^ (j+k+1)=B32 ^ (j+k)*B32:=Nat.pow_succ ..
 have e5:B32 ^ (j+k)*2≤B32 ^ (j+k)*B32:=Nat.mul_le_mul_left _ (by decide)
 unfold addQ
 split
 ·
  exact lim_nrm (by omega) (by omega) (by omega)
 ·
  split
  ·
   exact lim_nrm (by omega) (by omega) (by omega)
  ·
   exact lim_nrm (by omega) (by omega) (by omega)
theorem NR.below {w w':World} {v:Value} {X:QN} (h:NR w v X) (hb:Below w.heap.size w w'):NR w' v X:=by
 obtain⟨n,A1,c1,p,A2,c2,q,rfl,h1,h2,e⟩:=h
 exact⟨n,A1,c1,p,A2,c2,q,rfl,⟨Kd.C_below h1.1 hb,h1.2⟩,⟨Kd.C_below h2.1 hb,h2.2⟩,e⟩
theorem RT.nr {w:World} {b:Nat} {v:Value} {X:QN} (h:RT w b v X) (rX:Nt.red X) (kX:Nat1.okQ X):NR w v X:=by
 obtain⟨A1,c1,A2,c2,rfl,R1,R2⟩:=h.args
 refine⟨X.1,A1,c1,_,A2,c2,_,rfl,⟨(Kd.R_reads' R1).2.2,(Kd.R_reads' R1).2.1,okS_dg kX.1⟩,⟨(Kd.R_reads' R2).2.2,(Kd.R_reads' R2).2.1,okS_dg kX.2⟩,?_⟩
 rw [zbV zby,zbV zby,nrm_of_red rX]
section
variable {W:World} {u v:Value} {X Y:QN} (hu:NR W u X) (hv:NR W v Y)
include hu
theorem norm_n:Calls Tryz.prog 85 #[u] W (RTPost W X):=by
 obtain⟨n,A1,c1,p,A2,c2,q,rfl,h1,h2,rfl⟩:=hu
 exact(norm_q n A1 c1 p A2 c2 q W h1.1 h1.2.1 h2.1 h2.2.1 h1.2.2.okD h2.2.2.okD).mono (fun e w' h=>h.rtp)
theorem bits_n:Calls Tryz.prog 132 #[u] W fun e w'=>e=.returned (.int .i64 (mx (nb X.2.1:Int) (nb X.2.2:Int)))∧Below W.heap.size W w':=by
 obtain⟨n,A1,c1,p,A2,c2,q,rfl,h1,h2,rfl⟩:=hu
 obtain⟨k,hk⟩:=bits_f (n:=n) h1.2.2 h2.2.2
 exact J.rat_Bits.calls k n A1 c1 _ A2 c2 _ _ W h1.1 h1.2.1 h2.1 h2.2.1 hk
theorem ref_of_n:Calls Tryz.prog 22 #[u] W fun e w'=>∃ v,e=.returned v∧QT w' W.heap.size v X∧Below W.heap.size W w':=by
 obtain⟨n,A1,c1,p,A2,c2,q,rfl,h1,h2,rfl⟩:=hu
 obtain⟨k,hk⟩:=ofR_ev (n:=n) (p:=p) (q:=q) h1.2.2 h2.2.2
 have hk:fluxionref03_Of.f k n p q=_:=hk k (Nat.le_refl _)
 unfold DR at hk
 refine(fluxionref03_Of.calls k n A1 c1 p A2 c2 q _ _ _ W h1.1 h1.2.1 h2.1 h2.2.1 hk).mono ?_
 rintro e w' ⟨v1,v2,rfl,R1,R2,hb⟩
 exact⟨_,rfl,⟨v1,v2,rfl,Kd.R_mono R1 (fun _ _=>trivial),Kd.R_mono R2 (fun _ _=>trivial)⟩,hb⟩
include hv
theorem add_n:Calls Tryz.prog 93 #[u,v] W (RTPost W (addQ X Y)):=by
 obtain⟨n,A1,c1,p,A2,c2,q,rfl,h1,h2,rfl⟩:=hu
 obtain⟨m,A3,c3,r,A4,c4,s,rfl,h3,h4,rfl⟩:=hv
 have:=addR_q n A1 c1 p A2 c2 q m A3 c3 r A4 c4 s W h1.1 h1.2.1 h2.1 h2.2.1 h3.1 h3.2.1 h4.1 h4.2.1 h1.2.2 h2.2.2 h3.2.2 h4.2.2
 rw [if_neg (by decide)] at this
 exact this.mono (fun e w' h=>h.rtp)
theorem mul_n:Calls Tryz.prog 94 #[u,v] W (RTPost W (mulQ X Y)):=by
 obtain⟨n,A1,c1,p,A2,c2,q,rfl,h1,h2,rfl⟩:=hu
 obtain⟨m,A3,c3,r,A4,c4,s,rfl,h3,h4,rfl⟩:=hv
 exact(mulR_q n A1 c1 p A2 c2 q m A3 c3 r A4 c4 s W h1.1 h1.2.1 h2.1 h2.2.1 h3.1 h3.2.1 h4.1 h4.2.1 h1.2.2 h2.2.2 h3.2.2 h4.2.2).mono (fun e w' h=>h.rtp)
end
def DT (w:World) (v:Value) (n:Nat):Prop:=∃ (A:Option Addr) (c:Nat),v=.slice A (dg 10000 n).length c∧Kd.C (Kd.int .i64) w A (dg 10000 n).length (dg 10000 n)∧(dg 10000 n).length≤c
theorem DT.below {w w':World} {v:Value} {n:Nat} (h:DT w v n) (hb:Below w.heap.size w w'):DT w' v n:=by
 obtain⟨A,c,rfl,h1,h2⟩:=h
 exact⟨A,c,rfl,Kd.C_below h1 hb,h2⟩
theorem ref_make_n {W:World} {n:Bool} {u v:Value} {a b:Nat} (hu:DT W u a) (hv:DT W v b) (ha:sh a) (hb:sh b):Calls Tryz.prog 76 #[.bool n,u,v] W fun e w'=>∃ x,e=.returned x∧QT w' W.heap.size x (nrm n a b)∧Below W.heap.size W w':=by
 obtain⟨A1,c1,rfl,a1,b1⟩:=hu
 obtain⟨A2,c2,rfl,a2,b2⟩:=hv
 obtain⟨k,hk⟩:=make_ev (n:=n) ha hb
 have hk:fluxionref03_Make.f k n _ _=_:=hk k (Nat.le_refl _)
 unfold DR at hk
 refine(fluxionref03_Make.calls k n A1 c1 _ A2 c2 _ _ _ _ W a1 b1 a2 b2 hk).mono ?_
 rintro e w' ⟨v1,v2,rfl,R1,R2,hb⟩
 exact⟨_,rfl,⟨v1,v2,rfl,Kd.R_mono R1 (fun _ _=>trivial),Kd.R_mono R2 (fun _ _=>trivial)⟩,hb⟩
theorem int_n {x:Int} (w:World) (h0:-9223372036854775808≤x) (h1:x < 9223372036854775808):Calls Tryz.prog 80 #[.int .i64 x] w (RTPost w (decide (x < 0),x.natAbs,1)):=by
 refine(H.rat_Int.calls x (decide (x < 0)) (dg B32 x.natAbs) (dg B32 1) w ?_).mono ?_
 ·
  rw [H.rat_Int.f,size_f h0 h1,Option.bind_some,H.rat_one.f,nat_Of.f,if_pos (by omega),Option.bind_some]
  rfl
 ·
  rintro e w' ⟨v1,v2,rfl,R1,R2,hb⟩
  exact⟨_,rfl,⟨v1,v2,rfl,Kd.R_mono R1 (fun _ _=>trivial),Kd.R_mono R2 (fun _ _=>trivial)⟩,hb⟩
theorem ref_int_n {x:Int} (w:World) (h0:-9223372036854775808≤x) (h1:x < 9223372036854775808):Calls Tryz.prog 81 #[.int .i64 x] w fun e w'=>∃ v,e=.returned v∧QT w' w.heap.size v (decide (x < 0),x.natAbs,1)∧Below w.heap.size w w':=by
 obtain⟨k,hk⟩:=int_ev h0 h1
 have hk:fluxionref03_Int.f k x=_:=hk k (Nat.le_refl _)
 unfold DR at hk
 refine(fluxionref03_Int.calls k x _ _ _ w hk).mono ?_
 rintro e w' ⟨v1,v2,rfl,R1,R2,hb⟩
 exact⟨_,rfl,⟨v1,v2,rfl,Kd.R_mono R1 (fun _ _=>trivial),Kd.R_mono R2 (fun _ _=>trivial)⟩,hb⟩
end Go.Proofs.YtehghijlchpeaaaGreat.Nat1
end
section
namespace Go.Proofs.YtehghijlchpeaaaGreat.Ev
open Go.RowKit YtehghijlchpeaaaGreatW.PrintWords YtehghijlchpeaaaGreatW.PrintLast YtehghijlchpeaaaGreatW.PrintMore L Nt Nat1
theorem mul_loop {a b:Nat} (ha:sm a) (hb:sm b) (hab:sm (a*b)) (j:Nat):j≤(dg 10000 b).length→Ev (fun k=>fluxionref01_Mul.l0 k (dg 10000 a) (dg 10000 b) (dg 10000 (a*(b / 10000 ^ j))) ((j:Int)-1)) (dg 10000 (a*b)):=by
 induction j with
 | zero =>
  intro _
  rw [Nat.pow_zero,Nat.div_one]
  refine Ev.succ (Ev.congr (Ev.some _) (fun k=>?_))
  rw [fluxionref01_Mul.l0,if_neg (by omega)]
 | succ j ih =>
  intro hj
  have hih:=ih (by omega)
  unfold sm at ha hb hab
  have hle:a*(b / 10000 ^ j)≤a*b:=Nat.mul_le_mul_left _ (Nat.div_le_self _ _)
  have hd:=zb7 b j
  have hrd:=rd_D b j
  generalize hM:b / 10000 ^ j=M at *
  generalize hA:b / 10000 ^ (j+1)=A at *
  have e1:=times_ev (a:=a) (d:=M % 10000) (by omega) ha
  have eM:a*M=10000*(a*A)+a*(M % 10000):=by
   rw [hd]
   have h2:M=10000*(M / 10000)+M % 10000:=(Nat.div_add_mod M 10000).symm
   calc a*M=a*(10000*(M / 10000)+M % 10000):=by rw [← h2]
    _=10000*(a*(M / 10000))+a*(M % 10000):=by rw [Nat.mul_add,Nat.mul_left_comm]
  have e4:=add_ev (a:=10000*(a*A)) (b:=a*(M % 10000)) (by
   rw [← eM]
   have:=zbP zb5 hle
   omega)
  rw [← eM] at e4
  have hup:dg 10000 (10000*(a*A))=if 0 < a*A then [(0:Int)]++dg 10000 (a*A) else []:=by
   by_cases h0:0 < a*A
   ·
    rw [if_pos h0,D_pos (by omega),show 10000*(a*A) % 10000=0 by omega,show 10000*(a*A) / 10000=a*A by omega]
    rfl
   ·
    rw [if_neg h0,show 10000*(a*A)=0 by omega,zbT]
  have hAl:(dg 10000 (a*A)).length≤1099511627776:=by
   have h1:a*A≤a*b:=by
    have:a*A≤a*M:=by rw [hd]; exact Nat.mul_le_mul_left _ (Nat.div_le_self _ _)
    omega
   exact Nat.le_trans (zbP zb5 h1) hab
  have ex:(((j+1:Nat):Int)-1)=(j:Int):=by omega
  have ew:wrap64 ((j:Int)-1)=(j:Int)-1:=w64 (by omega) (by omega)
  rw [ex]
  obtain⟨k1,h1⟩:=e1
  obtain⟨k4,h4⟩:=e4
  obtain⟨k5,h5⟩:=hih
  dsimp only at h1 h4 h5
  refine Ev.succ ⟨k1+k4+k5,fun k hk=>?_⟩
  dsimp only
  have hl:=len_pos (n:=a*A)
  have h4:=h4 k (by omega)
  rw [hup] at h4
  by_cases h0:0 < a*A
  ·
   rw [if_pos h0] at h4
   rw [fluxionref01_Mul.l0,if_pos (by omega),if_pos (by omega),Option.bind_some,if_pos (by simp only [List.length_cons,List.length_nil]; omega),if_pos (by omega),if_pos (by omega),hrd,h1 k (by omega),Option.bind_some,h4,Option.bind_some,ew]
   exact h5 k (by omega)
  ·
   rw [if_neg h0] at h4
   rw [fluxionref01_Mul.l0,if_pos (by omega),if_neg (by omega),if_pos (by omega),if_pos (by omega),hrd,h1 k (by omega),Option.bind_some,h4,Option.bind_some,ew]
   exact h5 k (by omega)
theorem mul_ev {a b:Nat} (ha:sm a) (hb:sm b) (hab:sm (a*b)):Ev (fun k=>fluxionref01_Mul.f k (dg 10000 a) (dg 10000 b)) (dg 10000 (a*b)):=by
 have:=mul_loop ha hb hab (dg 10000 b).length (Nat.le_refl _)
 have h0:b / 10000 ^ (dg 10000 b).length=0:=Nat.div_eq_of_lt (lt_dg zb5)
 rw [h0,Nat.mul_zero,zbT] at this
 refine Ev.congr this (fun k=>?_)
 unfold sm at hb
 rw [fluxionref01_Mul.f,w64 (by omega) (by omega)]
theorem sh_pow {n m:Nat} (h:n < B32 ^ m) (hm:m≤180000000000):sh n:=by
 have h1:B32 ^ m≤10000 ^ (3*m):=by
  rw [Nat.pow_mul]
  exact Nat.pow_le_pow_left (by decide) m
 have:=zbS (k:=3*m) zb5 (Nat.lt_of_lt_of_le h h1)
 unfold sh
 omega
end Go.Proofs.YtehghijlchpeaaaGreat.Ev
namespace Go.Proofs.YtehghijlchpeaaaGreat.Nat1
open Go.RowKit YtehghijlchpeaaaGreatW.PrintWords YtehghijlchpeaaaGreatW.PrintLast YtehghijlchpeaaaGreatW.PrintMore L Nt Ev
def QD (w:World) (v:Value) (X:QN):Prop:=∃ v1 v2:Value,v=.agg #[.bool X.1,v1,v2]∧DT w v1 X.2.1∧DT w v2 X.2.2
theorem R_DT {w:World} {base:Nat} {P:Nat→Prop} {v:Value} {n:Nat} (h:Kd.R (Kd.int .i64) 3 w base P v (dg 10000 n)):DT w v n:=by
 obtain⟨A,c,rfl⟩:=Kd.R_slice h
 exact⟨A,c,rfl,(Kd.R_reads' h).2.2,(Kd.R_reads' h).2.1⟩
theorem QT.qd {w:World} {b:Nat} {v:Value} {X:QN} (h:QT w b v X):QD w v X:=by
 obtain⟨v1,v2,rfl,R1,R2⟩:=h
 exact⟨v1,v2,rfl,R_DT R1,R_DT R2⟩
theorem nmul_n {W:World} {u v:Value} {a b:Nat} (hu:DT W u a) (hv:DT W v b) (ha:sm a) (hb:sm b) (hab:sm (a*b)):Calls Tryz.prog 142 #[u,v] W fun e w'=>∃ x,e=.returned x∧DT w' x (a*b)∧Below W.heap.size W w':=by
 obtain⟨A1,c1,rfl,a1,b1⟩:=hu
 obtain⟨A2,c2,rfl,a2,b2⟩:=hv
 obtain⟨k,hk⟩:=mul_ev ha hb hab
 refine(fluxionref01_Mul.calls k A1 c1 _ A2 c2 _ _ W a1 b1 a2 b2 (hk k (Nat.le_refl _))).mono ?_
 rintro e w' ⟨x,rfl,hR,hB⟩
 exact⟨_,rfl,R_DT hR,hB⟩
theorem nadd_n {W:World} {u v:Value} {a b:Nat} (hu:DT W u a) (hv:DT W v b) (hab:sm (a+b)):Calls Tryz.prog 126 #[u,v] W fun e w'=>∃ x,e=.returned x∧DT w' x (a+b)∧Below W.heap.size W w':=by
 obtain⟨A1,c1,rfl,a1,b1⟩:=hu
 obtain⟨A2,c2,rfl,a2,b2⟩:=hv
 obtain⟨k,hk⟩:=add_ev (a:=a) (b:=b) (Nat.le_trans hab (by decide))
 refine(fluxionref01_Add.calls k A1 c1 _ A2 c2 _ _ W a1 b1 a2 b2 (hk k (Nat.le_refl _))).mono ?_
 rintro e w' ⟨x,rfl,hR,hB⟩
 exact⟨_,rfl,R_DT hR,hB⟩
theorem nsub_n {W:World} {u v:Value} {a b:Nat} (hu:DT W u a) (hv:DT W v b) (ha:sm a) (hab:b≤a):Calls Tryz.prog 143 #[u,v] W fun e w'=>∃ x,e=.returned (.tuple #[x,.bool true])∧DT w' x (a-b)∧Below W.heap.size W w':=by
 obtain⟨A1,c1,rfl,a1,b1⟩:=hu
 obtain⟨A2,c2,rfl,a2,b2⟩:=hv
 obtain⟨k,hk⟩:=sub_ev ha hab
 refine(fluxionref01_Sub.calls k A1 c1 _ A2 c2 _ _ _ W a1 b1 a2 b2 (hk k (Nat.le_refl _))).mono ?_
 rintro e w' ⟨x,rfl,hR,hB⟩
 exact⟨_,rfl,R_DT hR,hB⟩
theorem ncmp_n {W:World} {u v:Value} {a b:Nat} (hu:DT W u a) (hv:DT W v b) (ha:sm a):Calls Tryz.prog 138 #[u,v] W fun e w'=>e=.returned (.int .i64 (cmpN a b))∧Below W.heap.size W w':=by
 obtain⟨A1,c1,rfl,a1,b1⟩:=hu
 obtain⟨A2,c2,rfl,a2,b2⟩:=hv
 obtain⟨k,hk⟩:=cmp_ev (b:=b) (Nat.le_trans ha (by decide))
 refine(fluxionref01_Cmp.calls k A1 c1 _ A2 c2 _ _ W a1 b1 a2 b2 (hk k (Nat.le_refl _))).mono ?_
 rintro e w' ⟨rfl,hD⟩
 obtain⟨m,rfl⟩:=hD.out
 exact⟨rfl,zbo (Below.refl _ _) m⟩
theorem ref_is_n {w:World} {b2:Nat} {u v:Value} {r x:QN} (hu:QD w u r) (hv:RT w b2 v x) (hx:okQ x) (e:x=r) :
  Calls Tryz.prog 36 #[u,v] w fun e w'=>e=.returned (.bool true)∧Below w.heap.size w w':=by
 obtain⟨k,hk⟩:=isR_ev (r:=r) (n:=x.1) (okE_dg hx.1) (okE_dg hx.2)
 have hk:=hk k (Nat.le_refl _)
 rw [decide_eq_true (by rw [e]; exact⟨rfl,rfl,rfl⟩)] at hk
 obtain⟨v1,v2,rfl,⟨A1,c1,rfl,a1,b1⟩,⟨A2,c2,rfl,a2,b2⟩⟩:=hu
 obtain⟨B1,d1,B2,d2,rfl,S1,S2⟩:=hv.args
 exact fluxionref03_Is.calls k r.1 A1 c1 _ A2 c2 _ x.1 B1 d1 _ B2 d2 _ _ w a1 b1 a2 b2 (Kd.R_reads' S1).2.2 (Kd.R_reads' S1).2.1 (Kd.R_reads' S2).2.2 (Kd.R_reads' S2).2.1 hk
end Go.Proofs.YtehghijlchpeaaaGreat.Nat1
end
section
namespace Go.Proofs.YtehghijlchpeaaaGreat.Nat1
open Go.RowKit YtehghijlchpeaaaGreatW.PrintWords YtehghijlchpeaaaGreatW.PrintLast YtehghijlchpeaaaGreatW.PrintMore L Nt Ev
def QTPost (W:World) (r:QN) (e:Ending) (w':World):Prop:=∃ x,e=.returned x∧QT w' W.heap.size x r∧Below W.heap.size W w'
theorem zcp {W:World} {base g:Nat} {ok':Nat→Prop} {v:Value} {xs:List Int} {cs:Array Value} (h:Kd.R (Kd.int .i64) 3 W base ok' v xs) (hg:W.heap[g]? = some (.cells cs 40 (0,0))) (a b c:Value):Kd.R (Kd.int .i64) 3 (store3 W g a b c) base ok' v xs :=
 Kd.R_mono (Kd.R_far (p:=⟨g,2,none⟩) (Kd.R_far (p:=⟨g,1,none⟩) (Kd.R_far (p:=⟨g,0,none⟩) (Kd.R_types h hg (by decide)) (fun _ hk=>hk.2) a) (fun _ hk=>hk.2) b) (fun _ hk=>hk.2) c) (fun _ hk=>hk.1)
theorem QT.store3 {W:World} {base g:Nat} {v:Value} {r:QN} {cs:Array Value} (h:QT W base v r) (hg:W.heap[g]? = some (.cells cs 40 (0,0))) (a b c:Value):QT (store3 W g a b c) base v r:=by
 obtain⟨v1,v2,he,h1,h2⟩:=h
 exact⟨v1,v2,he,zcp h1 hg _ _ _,zcp h2 hg _ _ _⟩
theorem prod_sh {m a b:Nat} (hm:m≤60000000000) (ha:a < B32 ^ m) (hb:b < B32 ^ m):sm a∧sm b∧sm (a*b)∧sh (a*b) :=
 ⟨(sh_pow ha (by omega)).sm,(sh_pow hb (by omega)).sm,(sh_pow (lim_mul2 ha hb) (by omega)).sm,sh_pow (lim_mul2 ha hb) (by omega)⟩
theorem sum_shk {k a b c d:Nat} (hk:k+k+1≤180000000000) (ha:a < B32 ^ k) (hb:b < B32 ^ k) (hc:c < B32 ^ k) (hd:d < B32 ^ k):sh (a*b+c*d)∧sh (a*b-c*d)∧sh (c*d-a*b):=by
 have h1:=lim_mul2 ha hb
 have h2:=lim_mul2 hc hd
 have h3:a*b+c*d < B32 ^ (k+k+1):=by
  have e4:B32 ^ (k+k+1)=B32 ^ (k+k)*B32:=Nat.pow_succ ..
  rw [e4]
  generalize B32 ^ (k+k)=P at *
  have e5:P*2≤P*B32:=Nat.mul_le_mul_left _ (by decide)
  omega
 have g1:a*b-c*d≤a*b+c*d:=Nat.le_trans (Nat.sub_le _ _) (Nat.le_add_right _ _)
 have g2:c*d-a*b≤a*b+c*d:=Nat.le_trans (Nat.sub_le _ _) (Nat.le_add_left _ _)
 exact⟨sh_pow h3 hk,sh_pow (Nat.lt_of_le_of_lt g1 h3) hk,sh_pow (Nat.lt_of_le_of_lt g2 h3) hk⟩
theorem sum_sh {m a b c d:Nat} (hm:m≤60000000000) (ha:a < B32 ^ m) (hb:b < B32 ^ m) (hc:c < B32 ^ m) (hd:d < B32 ^ m):sh (a*b+c*d)∧sh (a*b-c*d)∧sh (c*d-a*b):=sum_shk (by omega) ha hb hc hd
def refmul.T1:Bool×List (List Nat×List Nat):=(true,[([],[]),([0],[0]),([],[]),([2],[2]),([1,3],[1,3]),([],[]),([5],[5]),([],[]),([7],[7]),([6,8],[6,8]),([],[]),([10],[10]),([],[]),([12],[12]),([11,13,9],[11,13]),([4,9,14,14],[4,9,14]),([15,15,0,1,2,3,4,5,6,7,8,9,10,11,12,13,14,15],[15])])
def refmul.B1:List Nat:=[0,1,0,4,15,0,32,0,128,480,0,1024,0,4096,16352,32767,65535]
theorem refmul.tab1:rtab .any (opsOf Tryz.f96 1)=refmul.T1:=by kernel_rfl
theorem refmul.bits1:zct refmul.T1.2 refmul.B1=true:=by kernel_rfl
theorem refmul_n {W:World} {u v:Value} {X Y:QN} (hu:QD W u X) (hv:QD W v Y) {m:Nat} (kX:lim m X) (kY:lim m Y) (hm:m≤60000000000:=by decide) :
  Calls Tryz.prog 96 #[u,v] W (QTPost W (mulQ X Y)):=by
 have hu36:=Tryz.underlying40
 have K1:=Aside0.mk (prod_sh hm kX.1 kY.1)
 have K2:=Aside0.mk (prod_sh hm kX.2 kY.2)
 clear kX kY hm
 obtain⟨u1,u2,rfl,hu1,hu2⟩:=hu
 have HU1:=Aside0.mk hu1
 have HU2:=Aside0.mk hu2
 obtain⟨v1,v2,rfl,hv1,hv2⟩:=hv
 have HV1:=Aside0.mk hv1
 have HV2:=Aside0.mk hv2
 clear hu1 hu2 hv1 hv2
 go_enter Tryz.func96,Tryz.ntmps96
 go_wp2_with fail
 have hx0:=zbt (zbt (zbI W (.cells #[.bool X.1,u1,u2] 40)) (.cells #[.bool Y.1,v1,v2] 40)) (.cells #[.bool false,.slice none 0 0,.slice none 0 0] 40)
 have hx1:=zbt (zbI (W.alloc (.cells #[.bool X.1,u1,u2] 40)) (.cells #[.bool Y.1,v1,v2] 40)) (.cells #[.bool false,.slice none 0 0,.slice none 0 0] 40)
 rw [show (W.alloc (.cells #[.bool X.1,u1,u2] 40)).heap.size=W.heap.size+1 by simp] at hx1
 have hx2:=zbI ((W.alloc (.cells #[.bool X.1,u1,u2] 40)).alloc (.cells #[.bool Y.1,v1,v2] 40)) (.cells #[.bool false,.slice none 0 0,.slice none 0 0] 40)
 rw [show ((W.alloc (.cells #[.bool X.1,u1,u2] 40)).alloc (.cells #[.bool Y.1,v1,v2] 40)).heap.size=W.heap.size+1+1 by simp] at hx2
 have hbw:Below W.heap.size W (((W.alloc (.cells #[.bool X.1,u1,u2] 40)).alloc (.cells #[.bool Y.1,v1,v2] 40)).alloc (.cells #[.bool false,.slice none 0 0,.slice none 0 0] 40)):=zbn (zbn (zbn (Below.refl _ _) _) _) _
 generalize ((W.alloc (.cells #[.bool X.1,u1,u2] 40)).alloc (.cells #[.bool Y.1,v1,v2] 40)).alloc (.cells #[.bool false,.slice none 0 0,.slice none 0 0] 40)=W0 at hx0 hx1 hx2 hbw ⊢
 have HF:Aside0 (∀ w':World,Below W0.heap.size W0 w'→(w'.cell? ⟨W.heap.size,0,none⟩=some (.bool X.1)∧w'.cell? ⟨W.heap.size,1,none⟩=some (u1)∧w'.cell? ⟨W.heap.size,2,none⟩=some (u2)∧w'.cell? ⟨W.heap.size+1,0,none⟩=some (.bool Y.1)∧w'.cell? ⟨W.heap.size+1,1,none⟩=some (v1)∧w'.cell? ⟨W.heap.size+1,2,none⟩=some (v2))∧w'.heap[W.heap.size+1+1]? = some (.cells #[.bool false,.slice none 0 0,.slice none 0 0] 40 (0,0))∧Below W.heap.size W w'):=⟨fun w' hb=>⟨⟨(zbq (zbr hx0 hb) 0).trans rfl,(zbq (zbr hx0 hb) 1).trans rfl,(zbq (zbr hx0 hb) 2).trans rfl,(zbq (zbr hx1 hb) 0).trans rfl,(zbq (zbr hx1 hb) 1).trans rfl,(zbq (zbr hx1 hb) 2).trans rfl⟩,zbr hx2 hb,zbm hbw hb⟩⟩
 clear hbw hx0 hx1 hx2
 refine zco (n:=17) (S:=fun w'=>(w'.cell? ⟨W.heap.size,0,none⟩=some (.bool X.1)∧w'.cell? ⟨W.heap.size,1,none⟩=some (u1)∧w'.cell? ⟨W.heap.size,2,none⟩=some (u2)∧w'.cell? ⟨W.heap.size+1,0,none⟩=some (.bool Y.1)∧w'.cell? ⟨W.heap.size+1,1,none⟩=some (v1)∧w'.cell? ⟨W.heap.size+1,2,none⟩=some (v2))) (ds:=[16]) #[zf,zf,zf,zf,zf,zf,zf,zf,zf,zf,zf,zf,zf,zf,zf,zf,zf] (by kernel_rfl) rfl rfl ((HF.out _ (zbs (Below.refl _ _))).1) (fun hHeld=>?_)
 have hb0:=Aside0.mk (show Below W0.heap.size W0 W0.drew from zbs (Below.refl _ _))
 generalize W0.drew=V0 at hb0 hHeld ⊢
 refine zcf refmul.tab1 refmul.bits1 (fun HT_ HW_=>?_)
 refine qpT 0 (some 5) ?_
 refine qpT 2 (some 7) ?_
 refine qpT 5 (some 10) ?_
 refine qpT 7 (some 12) ?_
 refine qpT 10 (some 15) ?_
 refine qpT 12 (some 17) ?_
 refine qtT 1 (some 6) ?_
 refine qtT 3 (some 8) ?_
 refine qpT 4 (some 9) ?_
 refine qtT 6 (some 11) ?_
 refine qtT 8 (some 13) ?_
 refine qtT 11 (some 16) ?_
 refine qtT 13 (some 18) ?_
 refine qoT 9 (some 14) (fun K hK=>?_)
 refine qg Tryz.func142 #[u1,v1] ?_
 refine(nmul_n (HU1.out.below (HF.out _ hb0.out).2.2) (HV1.out.below (HF.out _ hb0.out).2.2) K1.out.1 K1.out.2.1 K1.out.2.2.1).mono ?_
 rintro e V1 ⟨f9,rfl,hD,hB⟩
 refine⟨_,rfl,?_⟩
 have HD1:=Aside0.mk hD
 have hb1:=Aside0.mk (zbm hb0.out hB)
 clear hB hb0 hD
 refine hK.out _ _ ((HF.out _ hb1.out).1) (fun hHeld=>?_)
 clear hK K
 refine qn ?_
 refine qoT 14 (some 19) (fun K hK=>?_)
 refine qg Tryz.func142 #[u2,v2] ?_
 refine(nmul_n (HU2.out.below (HF.out _ hb1.out).2.2) (HV2.out.below (HF.out _ hb1.out).2.2) K2.out.1 K2.out.2.1 K2.out.2.2.1).mono ?_
 rintro e V2 ⟨f14,rfl,hD,hB⟩
 refine⟨_,rfl,?_⟩
 replace HD1:=Aside0.mk (HD1.out.below hB)
 have HD2:=Aside0.mk hD
 have hb2:=Aside0.mk (zbm hb1.out hB)
 clear hB hb1 hD
 refine hK.out _ _ ((HF.out _ hb2.out).1) (fun hHeld=>?_)
 clear hK K
 refine qn ?_
 refine qoT 15 (some 20) (fun K hK=>?_)
 refine qg Tryz.func76 #[.bool (X.1 != Y.1),f9,f14] ?_
 refine(ref_make_n HD1.out HD2.out K1.out.2.2.2 K2.out.2.2.2).mono ?_
 rintro e V3 ⟨_,rfl,⟨m1,m2,rfl,R1,R2⟩,hB⟩
 obtain⟨M1,d1,rfl⟩:=Kd.R_slice R1
 obtain⟨M2,d2,rfl⟩:=Kd.R_slice R2
 refine⟨_,rfl,?_⟩
 clear HD1 HD2
 have HR1:=Aside0.mk (Kd.R_lower R1 (HF.out _ hb2.out).2.2.size)
 have HR2:=Aside0.mk (Kd.R_lower R2 (HF.out _ hb2.out).2.2.size)
 have hb3:=Aside0.mk (zbm hb2.out hB)
 clear hB hb2 R1 R2
 refine hK.out _ _ ((HF.out _ hb3.out).1) (fun hHeld=>?_)
 clear hK K
 refine qn ?_
 refine qlT 16 none (fun K hK=>?_)
 obtain⟨⟨x0,x1,x2⟩,y0,y1,y2⟩:=zbH (HF.out _ hb3.out).2.1
 refine qx ?_
 refine hK.out _ _ ?_
 clear hK K
 refine done_ (done_of HT_.out (by kernel_rfl)) ?_
 clear hHeld
 go_wp2
 refine bodyPost_ret (results_cell_row rfl _ _ (W.heap.size+1+1) 40 _ (0,0) _ rfl (zbM (HF.out _ hb3.out).2.1 _ _ _) Tryz.underlying40 rfl (by kernel_rfl)) rfl ?_
 exact⟨_,rfl,⟨_,_,rfl,Kd.R_mono (zcp HR1.out (HF.out _ hb3.out).2.1 _ _ _) (fun _ _=>trivial),Kd.R_mono (zcp HR2.out (HF.out _ hb3.out).2.1 _ _ _) (fun _ _=>trivial)⟩,zbN (HF.out _ hb3.out).2.2 (by omega) _ _ _⟩
def refadd.T1:Bool×List (List Nat×List Nat):=(true,[([],[]),([0],[0]),([],[]),([2],[2]),([1,3],[1,3]),([],[]),([5],[5]),([],[]),([7],[7]),([6,8,4],[6,8]),([4,9,0,1,2,3,4],[4]),([9,10,0,1,2,3,4,5,6,7,8,9,10],[9])])
def refadd.B1:List Nat:=[0,1,0,4,15,0,32,0,128,511,1023,2047]
theorem refadd.tab1:rtab .any (opsOf Tryz.f95 1)=refadd.T1:=by kernel_rfl
theorem refadd.bits1:zct refadd.T1.2 refadd.B1=true:=by kernel_rfl
def refadd.T4:Bool×List (List Nat×List Nat):=(true,[([],[]),([0],[0]),([],[]),([],[]),([2,3],[2,3]),([],[]),([1,4,5,4],[1,4,5]),([6,6,0,1,2,3,4,5,6],[6])])
def refadd.B4:List Nat:=[0,1,0,0,12,0,63,127]
theorem refadd.tab4:rtab .any (opsOf Tryz.f95 4)=refadd.T4:=by kernel_rfl
theorem refadd.bits4:zct refadd.T4.2 refadd.B4=true:=by kernel_rfl
theorem refadd_n {W:World} {u v:Value} {X Y:QN} (hu:QD W u X) (hv:QD W v Y) {m:Nat} (kX:lim m X) (kY:lim m Y) (hm:m≤60000000000:=by decide) :
  Calls Tryz.prog 95 #[u,v] W (QTPost W (addQ X Y)):=by
 have hu36:=Tryz.underlying40
 have K1:=Aside0.mk (prod_sh hm kX.1 kY.2)
 have K2:=Aside0.mk (prod_sh hm kY.1 kX.2)
 have K3:=Aside0.mk (prod_sh hm kX.2 kY.2)
 have K4:=Aside0.mk (sum_sh hm kX.1 kY.2 kY.1 kX.2)
 clear kX kY hm
 obtain⟨u1,u2,rfl,hu1,hu2⟩:=hu
 have HU1:=Aside0.mk hu1
 have HU2:=Aside0.mk hu2
 obtain⟨v1,v2,rfl,hv1,hv2⟩:=hv
 have HV1:=Aside0.mk hv1
 have HV2:=Aside0.mk hv2
 clear hu1 hu2 hv1 hv2
 go_enter Tryz.func95,Tryz.ntmps95
 go_wp2_with fail
 have hx0:=zbt (zbt (zbI W (.cells #[.bool X.1,u1,u2] 40)) (.cells #[.bool Y.1,v1,v2] 40)) (.cells #[.bool false,.slice none 0 0,.slice none 0 0] 40)
 have hx1:=zbt (zbI (W.alloc (.cells #[.bool X.1,u1,u2] 40)) (.cells #[.bool Y.1,v1,v2] 40)) (.cells #[.bool false,.slice none 0 0,.slice none 0 0] 40)
 rw [show (W.alloc (.cells #[.bool X.1,u1,u2] 40)).heap.size=W.heap.size+1 by simp] at hx1
 have hx2:=zbI ((W.alloc (.cells #[.bool X.1,u1,u2] 40)).alloc (.cells #[.bool Y.1,v1,v2] 40)) (.cells #[.bool false,.slice none 0 0,.slice none 0 0] 40)
 rw [show ((W.alloc (.cells #[.bool X.1,u1,u2] 40)).alloc (.cells #[.bool Y.1,v1,v2] 40)).heap.size=W.heap.size+1+1 by simp] at hx2
 have hbw:Below W.heap.size W (((W.alloc (.cells #[.bool X.1,u1,u2] 40)).alloc (.cells #[.bool Y.1,v1,v2] 40)).alloc (.cells #[.bool false,.slice none 0 0,.slice none 0 0] 40)):=zbn (zbn (zbn (Below.refl _ _) _) _) _
 generalize ((W.alloc (.cells #[.bool X.1,u1,u2] 40)).alloc (.cells #[.bool Y.1,v1,v2] 40)).alloc (.cells #[.bool false,.slice none 0 0,.slice none 0 0] 40)=W0 at hx0 hx1 hx2 hbw ⊢
 have HF:Aside0 (∀ w':World,Below W0.heap.size W0 w'→(w'.cell? ⟨W.heap.size,0,none⟩=some (.bool X.1)∧w'.cell? ⟨W.heap.size,1,none⟩=some (u1)∧w'.cell? ⟨W.heap.size,2,none⟩=some (u2)∧w'.cell? ⟨W.heap.size+1,0,none⟩=some (.bool Y.1)∧w'.cell? ⟨W.heap.size+1,1,none⟩=some (v1)∧w'.cell? ⟨W.heap.size+1,2,none⟩=some (v2))∧w'.heap[W.heap.size+1+1]? = some (.cells #[.bool false,.slice none 0 0,.slice none 0 0] 40 (0,0))∧Below W.heap.size W w'):=⟨fun w' hb=>⟨⟨(zbq (zbr hx0 hb) 0).trans rfl,(zbq (zbr hx0 hb) 1).trans rfl,(zbq (zbr hx0 hb) 2).trans rfl,(zbq (zbr hx1 hb) 0).trans rfl,(zbq (zbr hx1 hb) 1).trans rfl,(zbq (zbr hx1 hb) 2).trans rfl⟩,zbr hx2 hb,zbm hbw hb⟩⟩
 clear hbw hx0 hx1 hx2
 refine zco (n:=12) (S:=fun w'=>(w'.cell? ⟨W.heap.size,0,none⟩=some (.bool X.1)∧w'.cell? ⟨W.heap.size,1,none⟩=some (u1)∧w'.cell? ⟨W.heap.size,2,none⟩=some (u2)∧w'.cell? ⟨W.heap.size+1,0,none⟩=some (.bool Y.1)∧w'.cell? ⟨W.heap.size+1,1,none⟩=some (v1)∧w'.cell? ⟨W.heap.size+1,2,none⟩=some (v2))) (ds:=[]) #[zf,zf,zf,zf,zf,zf,zf,zf,zf,zf,zf,zf] (by kernel_rfl) rfl rfl ((HF.out _ (zbs (Below.refl _ _))).1) (fun hHeld=>?_)
 have hb0:=Aside0.mk (show Below W0.heap.size W0 W0.drew from zbs (Below.refl _ _))
 generalize W0.drew=V0 at hb0 hHeld ⊢
 refine zcf refadd.tab1 refadd.bits1 (fun HT_ HW_=>?_)
 refine qpT 0 (some 12) ?_
 refine qpT 2 (some 14) ?_
 refine qpT 5 (some 17) ?_
 refine qpT 7 (some 19) ?_
 refine qtT 1 (some 13) ?_
 refine qtT 3 (some 15) ?_
 refine qtT 6 (some 18) ?_
 refine qtT 8 (some 20) ?_
 refine qoT 4 (some 16) (fun K hK=>?_)
 refine qg Tryz.func142 #[u1,v2] ?_
 refine(nmul_n (HU1.out.below (HF.out _ hb0.out).2.2) (HV2.out.below (HF.out _ hb0.out).2.2) K1.out.1 K1.out.2.1 K1.out.2.2.1).mono ?_
 rintro e V1 ⟨f4,rfl,hD,hB⟩
 refine⟨_,rfl,?_⟩
 have HD1:=Aside0.mk hD
 have hb1:=Aside0.mk (zbm hb0.out hB)
 clear hB hb0 hD
 refine hK.out _ _ ((HF.out _ hb1.out).1) (fun hHeld=>?_)
 clear hK K
 refine qn ?_
 refine qoT 9 (some 21) (fun K hK=>?_)
 refine qg Tryz.func142 #[v1,u2] ?_
 refine(nmul_n (HV1.out.below (HF.out _ hb1.out).2.2) (HU2.out.below (HF.out _ hb1.out).2.2) K2.out.1 K2.out.2.1 K2.out.2.2.1).mono ?_
 rintro e V2 ⟨f9,rfl,hD,hB⟩
 refine⟨_,rfl,?_⟩
 replace HD1:=Aside0.mk (HD1.out.below hB)
 have HD2:=Aside0.mk hD
 have hb2:=Aside0.mk (zbm hb1.out hB)
 clear hB hb1 hD
 refine hK.out _ _ ((HF.out _ hb2.out).1) (fun hHeld=>?_)
 clear hK K
 refine qn ?_
 refine qpT 10 (some 5) ?_
 refine qpT 11 (some 6) ?_
 refine done_ (done_of HT_.out (by kernel_rfl)) ?_
 clear hHeld
 obtain⟨⟨c00,c01,c02,c10,c11,c12⟩,hz,-⟩:=HF.out _ hb2.out
 go_wp2_with fail
 clear hz c00 c01 c02 c10 c11 c12
 refine(nmul_n (HU2.out.below (HF.out _ hb2.out).2.2) (HV2.out.below (HF.out _ hb2.out).2.2) K3.out.1 K3.out.2.1 K3.out.2.2.1).mono ?_
 rintro e V3 ⟨f7,rfl,hD,hB⟩
 replace HD1:=Aside0.mk (HD1.out.below hB)
 replace HD2:=Aside0.mk (HD2.out.below hB)
 have HD3:=Aside0.mk hD
 have hb3:=Aside0.mk (zbm hb2.out hB)
 clear hB hb2 hD
 obtain⟨⟨c00,c01,c02,c10,c11,c12⟩,hz,-⟩:=HF.out _ hb3.out
 cases h1:(X.1 == Y.1) with
 | true =>
  go_wp2_with fail
  clear hz c00 c01 c02 c10 c11 c12
  refine zco (n:=8) (S:=fun w'=>(w'.cell? ⟨W.heap.size,0,none⟩=some (.bool X.1)∧w'.cell? ⟨W.heap.size,1,none⟩=some (u1)∧w'.cell? ⟨W.heap.size,2,none⟩=some (u2)∧w'.cell? ⟨W.heap.size+1,0,none⟩=some (.bool Y.1)∧w'.cell? ⟨W.heap.size+1,1,none⟩=some (v1)∧w'.cell? ⟨W.heap.size+1,2,none⟩=some (v2))) (ds:=[7]) #[zf,zf,zf,zf,zf,zf,zf,zf] (by kernel_rfl) rfl rfl ((HF.out _ (zbs hb3.out)).1) (fun hHeld=>?_)
  have hc0:=Aside0.mk (zbs hb3.out)
  replace HD1:=Aside0.mk (HD1.out.below (zbs (Below.refl _ _)))
  replace HD2:=Aside0.mk (HD2.out.below (zbs (Below.refl _ _)))
  replace HD3:=Aside0.mk (HD3.out.below (zbs (Below.refl _ _)))
  generalize V3.drew=U0 at hc0 hHeld HD1 HD2 HD3 ⊢
  refine zcf refadd.tab4 refadd.bits4 (fun HT_ HW_=>?_)
  refine qpT 0 (some 32) ?_
  refine qpT 2 (some 34) ?_
  refine qpT 3 (some 35) ?_
  refine qpT 5 (some 37) ?_
  refine qtT 1 (some 33) ?_
  refine qoT 4 (some 36) (fun K hK=>?_)
  refine qg Tryz.func126 #[f4,f9] ?_
  refine(nadd_n HD1.out HD2.out K4.out.1.sm).mono ?_
  rintro e U1 ⟨f5,rfl,hD,hB⟩
  refine⟨_,rfl,?_⟩
  replace HD1:=Aside0.mk (HD1.out.below hB)
  replace HD2:=Aside0.mk (HD2.out.below hB)
  replace HD3:=Aside0.mk (HD3.out.below hB)
  have HD4:=Aside0.mk hD
  have hc1:=Aside0.mk (zbm hc0.out hB)
  clear hB hc0 hD
  refine hK.out _ _ ((HF.out _ hc1.out).1) (fun hHeld=>?_)
  clear hK K
  refine qn ?_
  refine qoT 6 (some 38) (fun K hK=>?_)
  refine qg Tryz.func76 #[.bool X.1,f5,f7] ?_
  refine(ref_make_n HD4.out HD3.out K4.out.1 K3.out.2.2.2).mono ?_
  rintro e U2 ⟨_,rfl,⟨m1,m2,rfl,R1,R2⟩,hB⟩
  obtain⟨M1,d1,rfl⟩:=Kd.R_slice R1
  obtain⟨M2,d2,rfl⟩:=Kd.R_slice R2
  refine⟨_,rfl,?_⟩
  clear HD1 HD2 HD3 HD4
  have HR1:=Aside0.mk (Kd.R_lower R1 (HF.out _ hc1.out).2.2.size)
  have HR2:=Aside0.mk (Kd.R_lower R2 (HF.out _ hc1.out).2.2.size)
  have hc2:=Aside0.mk (zbm hc1.out hB)
  clear hB hc1 R1 R2
  refine hK.out _ _ ((HF.out _ hc2.out).1) (fun hHeld=>?_)
  clear hK K
  refine qn ?_
  refine qlT 7 none (fun K hK=>?_)
  obtain⟨⟨x0,x1,x2⟩,y0,y1,y2⟩:=zbH (HF.out _ hc2.out).2.1
  refine qx ?_
  refine hK.out _ _ ?_
  clear hK K
  refine done_ (done_of HT_.out (by kernel_rfl)) ?_
  clear hHeld
  go_wp2
  rw [add_first h1]
  refine bodyPost_ret (results_cell_row rfl _ _ (W.heap.size+1+1) 40 _ (0,0) _ rfl (zbM (HF.out _ hc2.out).2.1 _ _ _) Tryz.underlying40 rfl (by kernel_rfl)) rfl ?_
  exact⟨_,rfl,⟨_,_,rfl,Kd.R_mono (zcp HR1.out (HF.out _ hc2.out).2.1 _ _ _) (fun _ _=>trivial),Kd.R_mono (zcp HR2.out (HF.out _ hc2.out).2.1 _ _ _) (fun _ _=>trivial)⟩,zbN (HF.out _ hc2.out).2.2 (by omega) _ _ _⟩
 | false =>
  go_wp2_with fail
  by_cases hlt:X.2.1*Y.2.2 < Y.2.1*X.2.2
  ·
   have HC:=Aside0.mk (ncmp_n HD1.out HD2.out K1.out.2.2.1)
   rw [show cmpN (X.2.1*Y.2.2) (Y.2.1*X.2.2)=-1 from if_pos hlt] at HC
   clear hz c00 c01 c02 c10 c11 c12
   refine(HC.out).mono ?_
   rintro e V4 ⟨rfl,hB⟩
   replace HD1:=Aside0.mk (HD1.out.below hB)
   replace HD2:=Aside0.mk (HD2.out.below hB)
   replace HD3:=Aside0.mk (HD3.out.below hB)
   have hb4:=Aside0.mk (zbm hb3.out hB)
   clear hB hb3
   obtain⟨⟨c00,c01,c02,c10,c11,c12⟩,hz,-⟩:=HF.out _ hb4.out
   clear HC
   go_wp2_with fail
   clear hz c00 c01 c02 c10 c11 c12
   refine(nsub_n HD2.out HD1.out K2.out.2.2.1 (Nat.le_of_lt hlt)).mono ?_
   rintro e V5 ⟨f6,rfl,hD,hB⟩
   replace HD3:=Aside0.mk (HD3.out.below hB)
   have HD4:=Aside0.mk hD
   have hb5:=Aside0.mk (zbm hb4.out hB)
   clear hB hb4 hD
   obtain⟨⟨c00,c01,c02,c10,c11,c12⟩,hz,-⟩:=HF.out _ hb5.out
   go_wp2_with fail
   clear hz c00 c01 c02 c10 c11 c12
   refine(ref_make_n HD4.out HD3.out K4.out.2.2 K3.out.2.2.2).mono ?_
   rintro e V6 ⟨_,rfl,⟨m1,m2,rfl,R1,R2⟩,hB⟩
   obtain⟨M1,d1,rfl⟩:=Kd.R_slice R1
   obtain⟨M2,d2,rfl⟩:=Kd.R_slice R2
   have HR1:=Aside0.mk (Kd.R_lower R1 (HF.out _ hb5.out).2.2.size)
   have HR2:=Aside0.mk (Kd.R_lower R2 (HF.out _ hb5.out).2.2.size)
   have hb6:=Aside0.mk (zbm hb5.out hB)
   clear hB hb5 R1 R2
   obtain⟨⟨c00,c01,c02,c10,c11,c12⟩,hz,-⟩:=HF.out _ hb6.out
   obtain⟨⟨x0,x1,x2⟩,y0,y1,y2⟩:=zbH hz
   go_wp2
   rw [add_third h1 hlt]
   refine bodyPost_ret (results_cell_row rfl _ _ (W.heap.size+1+1) 40 _ (0,0) _ rfl (zbM (HF.out _ hb6.out).2.1 _ _ _) Tryz.underlying40 rfl (by kernel_rfl)) rfl ?_
   exact⟨_,rfl,⟨_,_,rfl,Kd.R_mono (zcp HR1.out (HF.out _ hb6.out).2.1 _ _ _) (fun _ _=>trivial),Kd.R_mono (zcp HR2.out (HF.out _ hb6.out).2.1 _ _ _) (fun _ _=>trivial)⟩,zbN (HF.out _ hb6.out).2.2 (by omega) _ _ _⟩
  ·
   have HC:=Aside0.mk (ncmp_n HD1.out HD2.out K1.out.2.2.1)
   obtain⟨c,hc,hc0⟩:∃ c,cmpN (X.2.1*Y.2.2) (Y.2.1*X.2.2)=c∧0≤c:=⟨_,rfl,by unfold cmpN; rw [if_neg hlt]; split<;>decide⟩
   rw [hc] at HC
   have hcd:decide (c ≥ 0)=true:=decide_eq_true hc0
   clear hz c00 c01 c02 c10 c11 c12
   refine(HC.out).mono ?_
   rintro e V4 ⟨rfl,hB⟩
   replace HD1:=Aside0.mk (HD1.out.below hB)
   replace HD2:=Aside0.mk (HD2.out.below hB)
   replace HD3:=Aside0.mk (HD3.out.below hB)
   have hb4:=Aside0.mk (zbm hb3.out hB)
   clear hB hb3
   obtain⟨⟨c00,c01,c02,c10,c11,c12⟩,hz,-⟩:=HF.out _ hb4.out
   clear HC
   go_wp2_with fail
   clear hz c00 c01 c02 c10 c11 c12
   refine(nsub_n HD1.out HD2.out K1.out.2.2.1 (Nat.le_of_not_lt hlt)).mono ?_
   rintro e V5 ⟨f6,rfl,hD,hB⟩
   replace HD3:=Aside0.mk (HD3.out.below hB)
   have HD4:=Aside0.mk hD
   have hb5:=Aside0.mk (zbm hb4.out hB)
   clear hB hb4 hD
   obtain⟨⟨c00,c01,c02,c10,c11,c12⟩,hz,-⟩:=HF.out _ hb5.out
   go_wp2_with fail
   clear hz c00 c01 c02 c10 c11 c12
   refine(ref_make_n HD4.out HD3.out K4.out.2.1 K3.out.2.2.2).mono ?_
   rintro e V6 ⟨_,rfl,⟨m1,m2,rfl,R1,R2⟩,hB⟩
   obtain⟨M1,d1,rfl⟩:=Kd.R_slice R1
   obtain⟨M2,d2,rfl⟩:=Kd.R_slice R2
   have HR1:=Aside0.mk (Kd.R_lower R1 (HF.out _ hb5.out).2.2.size)
   have HR2:=Aside0.mk (Kd.R_lower R2 (HF.out _ hb5.out).2.2.size)
   have hb6:=Aside0.mk (zbm hb5.out hB)
   clear hB hb5 R1 R2
   obtain⟨⟨c00,c01,c02,c10,c11,c12⟩,hz,-⟩:=HF.out _ hb6.out
   obtain⟨⟨x0,x1,x2⟩,y0,y1,y2⟩:=zbH hz
   go_wp2
   rw [add_second h1 hlt]
   refine bodyPost_ret (results_cell_row rfl _ _ (W.heap.size+1+1) 40 _ (0,0) _ rfl (zbM (HF.out _ hb6.out).2.1 _ _ _) Tryz.underlying40 rfl (by kernel_rfl)) rfl ?_
   exact⟨_,rfl,⟨_,_,rfl,Kd.R_mono (zcp HR1.out (HF.out _ hb6.out).2.1 _ _ _) (fun _ _=>trivial),Kd.R_mono (zcp HR2.out (HF.out _ hb6.out).2.1 _ _ _) (fun _ _=>trivial)⟩,zbN (HF.out _ hb6.out).2.2 (by omega) _ _ _⟩
end Go.Proofs.YtehghijlchpeaaaGreat.Nat1
end
section
namespace Go.Proofs.YtehghijlchpeaaaGreat.Nat1
open Go.RowKit YtehghijlchpeaaaGreatW.PrintWords YtehghijlchpeaaaGreatW.PrintLast YtehghijlchpeaaaGreatW.PrintMore L Nt Ev
def pdF:Nat→List Int→Int
 | n,[]=>n
 | n,d :: l=>if 1024 < n*d.toNat then 1025 else pdF (n*d.toNat) l
theorem pd_step {n:Nat} {d:Int} (hn:1≤n) (hd:1≤d):(1024 / (n:Int) < d) ↔ 1024 < n*d.toNat:=by
 obtain⟨m,rfl⟩:∃ m:Nat,d=m:=⟨d.toNat,by omega⟩
 rw [show (1024:Int) / (n:Int)=((1024 / n:Nat):Int) from rfl,Int.toNat_natCast]
 have h:=Nat.div_lt_iff_lt_mul (x:=1024) (y:=m) (k:=n) (by omega)
 rw [Nat.mul_comm n m,← h]
 omega
theorem drop_rd {l:List Int} {i:Nat} (h:i < l.length):l.drop i=rd l (i:Int) :: l.drop (i+1):=by
 rw [List.drop_eq_getElem_cons h]
 congr 1
 simp [rd,List.getD_eq_getElem?_getD,List.getElem?_eq_getElem h]
theorem rd_one {l:List Int} (hd:∀ d∈l,1≤d) {i:Nat} (h:i < l.length):1≤rd l (i:Int):=by
 have:rd l (i:Int)=l[i]:=by simp [rd,List.getD_eq_getElem?_getD,List.getElem?_eq_getElem h]
 rw [this]
 exact hd _ (List.getElem_mem h)
theorem product_n {W:World} {A:Option Addr} {c:Nat} {l:List Int} (hr:Kd.C (Kd.int .i64) W A l.length l) (hc:l.length≤c) (hl:l.length≤4611686018427387904) (hd:∀ d∈l,1≤d) :
  Calls Tryz.prog 121 #[.slice A l.length c] W fun e w'=>e=.returned (.int .i64 (pdF 1 l))∧Drawn0 W w':=by
 have HR:=Aside0.mk hr
 have HD:=Aside0.mk hd
 clear hr hd
 go_enter Tryz.func121,Tryz.ntmps121
 go_wp2
 go_step3
 go_wp2
 go_step3
 go_wp2
 go_loopw [3,5,8] (fun nv dv iv wr=>∃ (n i:Nat),nv=.int .i64 n∧iv=.int .i64 i∧i≤l.length∧wr=W∧Aside0 (1≤n∧n≤1024∧pdF n (l.drop i)=pdF 1 l)) (fun _ _ iv _=>l.length-(intOf iv).toNat)
 case atStart=>exact⟨1,0,rfl,rfl,by omega,rfl,⟨by omega,by omega,by rw [List.drop_zero]⟩⟩
 case round =>
  obtain⟨n,i,rfl,rfl,hi,rfl,HI⟩:=hrel
  by_cases h:i < l.length
  ·
   obtain⟨ad,e,hx⟩:=Kd.at_int HR.out (i:Int) (by omega) (by omega)
   subst e
   rw [Int.toNat_natCast] at hx
   have h1:=rd_one HD.out h
   have h2:=pd_step HI.out.1 h1
   have h3:=HI.out.2.2
   rw [drop_rd h,pdF] at h3
   have hn0:¬ ((n:Int)=0):=by have:=HI.out.1; omega
   have HS:=Aside0.mk (And.intro h1 h3)
   generalize rd l (i:Int)=d at *
   by_cases hb:1024 < n*d.toNat
   ·
    have hg:=h2.2 hb
    rw [if_pos hb] at h3
    clear h2
    go_wp2
    (try rw [Exit.noGoto_ret])
    go_ret
    exact⟨congrArg (fun z=>Ending.returned (Value.int .i64 z)) h3,⟨⟨0,rfl⟩⟩⟩
   ·
    have hg:¬ (1024 / (n:Int) < d):=fun e=>hb (h2.1 e)
    rw [if_neg hb] at h3
    have hN:(n:Int)*d=((n*d.toNat:Nat):Int):=by rw [Int.natCast_mul,Int.toNat_of_nonneg (by omega)]
    have hM:1≤n*d.toNat:=Nat.mul_pos HI.out.1 (by omega)
    have hw:wrap64 ((n:Int)*d)=((n*d.toNat:Nat):Int):=by rw [hN]; exact w64 (by omega) (by omega)
    have HW:=Aside0.mk hw
    have HN:=Aside0.mk (And.intro hM (And.intro h3 (Nat.le_of_not_lt hb)))
    clear h2 hN hw hM h3 hb
    go_wp2
    ·
     exact⟨⟨n*d.toNat,i+1,by rw [HW.out],rfl,by omega,trivial,⟨HN.out.1,HN.out.2.2,HN.out.2.1⟩⟩,by simp [intOf]; omega⟩
  ·
   have h0:l.drop i=[]:=List.drop_eq_nil_of_le (by omega)
   have h3:=HI.out.2.2
   rw [h0,pdF] at h3
   go_wp2
   (try rw [Exit.noGoto_ret])
   go_ret
   exact⟨congrArg (fun z=>Ending.returned (Value.int .i64 z)) h3,⟨⟨0,rfl⟩⟩⟩
def shape_product.f (l:List Int):Option Int:=if l.all (fun d=>decide (1≤d))=true∧l.length≤4611686018427387904 then some (pdF 1 l) else none
theorem shape_product.calls (A0:Option Addr) (c0:Nat) (l0:List Int) (r:Int) (w:World) (hr0:Kd.C (Kd.int .i64) w A0 l0.length l0) (hc0:l0.length≤c0) (h:shape_product.f l0=some r) :
  Calls Tryz.prog 121 #[.slice A0 l0.length c0] w fun e w'=>e=.returned (.int .i64 r)∧Drawn0 w w':=by
 unfold shape_product.f at h
 split at h
 ·
  rename_i hk
  rw [← Option.some.inj h]
  exact product_n hr0 hc0 hk.2 (fun d hd=>by simpa using List.all_eq_true.1 hk.1 d hd)
 ·
  exact absurd h (by simp)
end Go.Proofs.YtehghijlchpeaaaGreat.Nat1
end
section
noncomputable section
namespace Go.Proofs.YtehghijlchpeaaaGreat.M
open Go.RowKit YtehghijlchpeaaaGreat.H YtehghijlchpeaaaGreat.J YtehghijlchpeaaaGreat.L YtehghijlchpeaaaGreat.Nat1 YtehghijlchpeaaaGreatW.PrintWords YtehghijlchpeaaaGreatW.PrintLast YtehghijlchpeaaaGreatW.PrintMore
attribute [local go_sem] zbX zbZ zb2 zb1 zbQ zbR zbW zbY   -- for this text's walks alone
def errW:Option Int→Value
 | none=>.nilIface
 | some c=>.iface 0 (.int .i64 c)
theorem zbx:errW none=.nilIface:=rfl
theorem zbw (c:Int):errW (some c)=.iface 0 (.int .i64 c):=rfl
theorem info3:(Tryz.prog.info? 3).map (fun i=>(i.zero,i.size,i.bytes))=some (some (.int .i64 0),1,8):=by kernel_rfl
theorem info81:(Tryz.prog.info? 81).map (fun i=>(i.zero,i.size,i.bytes))=some (some (.int .u32 0),1,4):=by kernel_rfl
structure S27 where
 f0:Bool
 f1:(List Int)
 f2:(List Int)
def z27:S27:=⟨false,([]:List Int),([]:List Int)⟩
def k27:Kd S27:=Kd.iso (Kd.pair Kd.bool (Kd.pair (Kd.slice 81 (Kd.int .u32)) (Kd.slice 81 (Kd.int .u32)))) (fun x:S27=>(x.f0,x.f1,x.f2))
theorem k27_open {w:World} {x:S27} {cs:List Value} (h:k27.K w x cs):∃ A1 c1 A2 c2,cs=[.bool x.f0,.slice A1 x.f1.length c1,.slice A2 x.f2.length c2]∧x.f1.length≤c1∧(Kd.int .u32).C w A1 x.f1.length x.f1∧x.f2.length≤c2∧(Kd.int .u32).C w A2 x.f2.length x.f2:=by
 obtain⟨_,_,rfl,rfl,⟨_,_,rfl,⟨A1,c1,rfl,l1,g1⟩,⟨A2,c2,rfl,l2,g2⟩⟩⟩:=h
 exact⟨A1,c1,A2,c2,rfl,l1,g1,l2,g2⟩
theorem k27_mk (w:World) (x:S27) {A1:Option Addr} {c1:Nat} (l1:x.f1.length≤c1) (g1:(Kd.int .u32).C w A1 x.f1.length x.f1) {A2:Option Addr} {c2:Nat} (l2:x.f2.length≤c2) (g2:(Kd.int .u32).C w A2 x.f2.length x.f2):k27.K w x [.bool x.f0,.slice A1 x.f1.length c1,.slice A2 x.f2.length c2]:=⟨[.bool x.f0],[.slice A1 x.f1.length c1,.slice A2 x.f2.length c2],rfl,rfl,⟨[.slice A1 x.f1.length c1],[.slice A2 x.f2.length c2],rfl,⟨A1,c1,rfl,l1,g1⟩,⟨A2,c2,rfl,l2,g2⟩⟩⟩
theorem k27_mkM (w:World) (base:Nat) (ok:Nat→Prop) (x:S27) {v1:Value} (g1:(Kd.int .u32).R 81 w base ok v1 x.f1) {v2:Value} (g2:(Kd.int .u32).R 81 w base ok v2 x.f2):k27.M w base ok x [.bool x.f0,v1,v2]:=⟨[.bool x.f0],[v1,v2],rfl,rfl,⟨[v1],[v2],rfl,⟨v1,rfl,g1⟩,⟨v2,rfl,g2⟩⟩⟩
def rd_T27 (xs:List S27) (i:Int):S27:=xs.getD i.toNat z27
theorem at_T27 {w:World} {A:Option Addr} {n:Nat} {xs:List S27} (h:Kd.C k27 w A n xs) (i:Int) (h0:0≤i) (h1:i < n):∃ ad A1 c1 A2 c2,A=some ad∧w.cell? (ad.add (i.toNat*3))=some (.bool (rd_T27 xs i).f0)∧w.cell? ⟨(ad.add (i.toNat*3)).block,(ad.add (i.toNat*3)).off+1,none⟩=some (.slice A1 (rd_T27 xs i).f1.length c1)∧w.cell? ⟨(ad.add (i.toNat*3)).block,(ad.add (i.toNat*3)).off+2,none⟩=some (.slice A2 (rd_T27 xs i).f2.length c2)∧(rd_T27 xs i).f1.length≤c1∧(Kd.int .u32).C w A1 (rd_T27 xs i).f1.length (rd_T27 xs i).f1∧(rd_T27 xs i).f2.length≤c2∧(Kd.int .u32).C w A2 (rd_T27 xs i).f2.length (rd_T27 xs i).f2:=by
 obtain⟨ad,c,e,_,hK,hc0⟩:=Kd.C_get h z27 i h0 h1
 have hc:∀ j u,c[j]? = some u→w.cell? (ad.add (i.toNat*3+j))=some u:=hc0
 obtain⟨A1,c1,A2,c2,rfl,l1,g1,l2,g2⟩:=k27_open hK
 exact⟨ad,A1,c1,A2,c2,e,hc 0 _ rfl,by rw [← add_field _ _ 1 (by omega)]; exact hc 1 _ rfl,by rw [← add_field _ _ 2 (by omega)]; exact hc 2 _ rfl,l1,g1,l2,g2⟩
end Go.Proofs.YtehghijlchpeaaaGreat.M
end
end
section
noncomputable section
namespace Go.Proofs.YtehghijlchpeaaaGreat.M
open Go.RowKit YtehghijlchpeaaaGreat.H YtehghijlchpeaaaGreat.J YtehghijlchpeaaaGreat.L YtehghijlchpeaaaGreat.Nat1 YtehghijlchpeaaaGreatW.PrintWords YtehghijlchpeaaaGreatW.PrintLast YtehghijlchpeaaaGreatW.PrintMore
attribute [local go_sem] zbX zbZ zb2 zb1 zbQ zbR zbW zbY   -- for this text's walks alone
def shape_May.l0:Nat→List Int→List Int→Int→Int→Option (Int)
 | 0,_,_,_,_=>none
 | k+1,x0,x8,x9,x10=>if x10 < x9 then (if 0≤x10 then (if x10 < (x8.length:Int) then (if (rd x8 x10) < 1 then (some 13) else (shape_May.l0 k x0 x8 x9 (wrap64 (x10+1)))) else (none)) else (none)) else ((shape_product.f x0).bind fun t102=>(if t102 > 1024 then (some 14) else (some 0)))
def shape_May.f (k:Nat) (l0:List Int):Option (Int):=if (l0.length:Int) > 4 then (some 14) else (shape_May.l0 k l0 l0 (l0.length:Int) 0)
theorem shape_May.calls (k:Nat) (A0:Option Addr) (c0:Nat) (l0:List Int) (r:Int) (w:World) (hr0:Kd.C (Kd.int .i64) w A0 l0.length l0) (hc0:l0.length≤c0) (h:shape_May.f k l0=some r) :
  Calls Tryz.prog 67 #[.slice A0 l0.length c0] w fun e w'=>e=.returned (.int .i64 r)∧Drawn0 w w':=by
 have HR0:=Aside0.mk hr0
 have HC0:=Aside0.mk hc0
 clear hr0 hc0
 have H:(if (l0.length:Int) > 4 then (some 14) else (shape_May.l0 k l0 l0 (l0.length:Int) 0))=some r:=h
 clear h
 by_cases c2:(l0.length:Int) > 4
 ·
  rw [if_pos c2] at H
  have c2b0:decide (4 < (l0.length:Int))=true:=decide_eq_true c2
  have c2b1:decide (4 < l0.length)=true:=decide_eq_true (by omega)
  clear c2
  obtain rfl:=Option.some.inj H
  go_enter Tryz.func67,Tryz.ntmps67
  go_wp2
  go_ret
  exact⟨by first | rfl | (simp; done) | (simp [*]; done),by repeat (first | exact Drawn0.refl _ | apply Drawn0.step)⟩
 ·
  rw [if_neg c2] at H
  have c2b0:decide (4 < (l0.length:Int))=false:=decide_eq_false c2
  have c2b1:decide (4 < l0.length)=false:=decide_eq_false (by omega)
  clear c2
  have H':=Aside0.mk H
  clear H
  go_enter Tryz.func67,Tryz.ntmps67
  go_wp2
  go_loopg [10] k (fun kq v10 w'=>∃ (x10_1:Int),v10=.int .i64 x10_1∧Aside0 (shape_May.l0 kq l0 l0 (l0.length:Int) x10_1=some r)∧Aside0 (kq≤k)∧Drawn0 w w')
  case atStart=>exact⟨(0),(by first | rfl | (simp; done) | (simp [*]; done)),H',⟨Nat.le_refl _⟩,by repeat (first | exact Drawn0.refl _ | apply Drawn0.step)⟩
  case round =>
   clear H'
   try clear c2
   try clear c2b0
   try clear c2b1
   try clear p2
   obtain⟨x10_1,rfl,HA,HK1,⟨m1,rfl⟩⟩:=hrel
   cases gk with
   | zero=>exact absurd HA.out (by simp [shape_May.l0])
   | succ k1 =>
    have H:=HA.out
    clear HA
    simp only [shape_May.l0] at H
    by_cases c3:x10_1 < (l0.length:Int)
    ·
     rw [if_pos c3] at H
     have c3b0:decide (x10_1 < (l0.length:Int))=true:=decide_eq_true c3
     clear c3
     by_cases c4:0≤x10_1
     ·
      rw [if_pos c4] at H
      have c4b0:decide (0≤x10_1)=true:=decide_eq_true c4
      clear c4
      by_cases c5:x10_1 < (l0.length:Int)
      ·
       rw [if_pos c5] at H
       have c5b0:decide (x10_1 < (l0.length:Int))=true:=decide_eq_true c5
       clear c5
       by_cases c6:(rd l0 x10_1) < 1
       ·
        rw [if_pos c6] at H
        have c6b0:decide ((rd l0 x10_1) < 1)=true:=decide_eq_true c6
        clear c6
        obtain rfl:=Option.some.inj H
        have p101:0≤(x10_1:Int):=of_decide_eq_true qs
        have q101:x10_1 < (l0.length:Int):=of_decide_eq_true qs
        obtain⟨ad101,e101,hx101_0⟩:=Kd.at_int HR0.out x10_1 p101 q101
        cases e101
        replace p101:=eq_true p101
        replace q101:=eq_true q101
        go_wp2
        go_ret
        exact⟨by first | rfl | (simp; done) | (simp [*]; done),by repeat (first | exact Drawn0.refl _ | apply Drawn0.step)⟩
       ·
        rw [if_neg c6] at H
        have c6b0:decide ((rd l0 x10_1) < 1)=false:=decide_eq_false c6
        clear c6
        have H':=Aside0.mk H
        clear H
        have p101:0≤(x10_1:Int):=of_decide_eq_true qs
        have q101:x10_1 < (l0.length:Int):=of_decide_eq_true qs
        obtain⟨ad101,e101,hx101_0⟩:=Kd.at_int HR0.out x10_1 p101 q101
        cases e101
        replace p101:=eq_true p101
        replace q101:=eq_true q101
        go_wp2
        go_roundg k1
        case measure=>have:=HK1.out; omega
        case rel=>exact⟨(wrap64 (x10_1+1)),(by first | rfl | (simp; done) | (simp [*]; done)),H',⟨by have:=HK1.out; omega⟩,by repeat (first | exact Drawn0.refl _ | apply Drawn0.step)⟩
      ·
       rw [if_neg c5] at H
       exact absurd H (by simp)
     ·
      rw [if_neg c4] at H
      exact absurd H (by simp)
    ·
     rw [if_neg c3] at H
     have c3b0:decide (x10_1 < (l0.length:Int))=false:=decide_eq_false c3
     clear c3
     replace H:=Option.bind_eq_some_iff.mp H
     obtain⟨t102,A70,H⟩:=H
     replace H:(if t102 > 1024 then (some 14) else (some 0))=some r:=H
     have A7:=Aside0.mk A70
     clear A70
     by_cases c8:t102 > 1024
     ·
      rw [if_pos c8] at H
      have c8b0:decide (1024 < t102)=true:=decide_eq_true c8
      clear c8
      obtain rfl:=Option.some.inj H
      go_wp2_with (first | ((with_reducible refine zbz (f:=121) rfl ?_); refine zbK (some 18) rfl rfl Tryz.func121 (by kernel_rfl) rfl #[.slice A0 l0.length c0] rfl (by (try simp only [List.map_toArray,List.map_cons,List.map_nil]); first | done | rfl | (simp only [List.length_drop,List.length_take]; rfl)) ?_; (with_reducible refine(shape_product.calls _ _ l0 t102 _ ?side1 ?side2 A7.out).mono ?_); (case side1=>exact qc HR0.out); (case side2=>exact HC0.out); rintro e w' ⟨rfl,⟨nd,rfl⟩⟩; refine⟨_,rfl,?_⟩))
      go_ret
      exact⟨by first | rfl | (simp; done) | (simp [*]; done),by repeat (first | exact Drawn0.refl _ | apply Drawn0.step)⟩
     ·
      rw [if_neg c8] at H
      have c8b0:decide (1024 < t102)=false:=decide_eq_false c8
      clear c8
      obtain rfl:=Option.some.inj H
      go_wp2_with (first | ((with_reducible refine zbz (f:=121) rfl ?_); refine zbK (some 18) rfl rfl Tryz.func121 (by kernel_rfl) rfl #[.slice A0 l0.length c0] rfl (by (try simp only [List.map_toArray,List.map_cons,List.map_nil]); first | done | rfl | (simp only [List.length_drop,List.length_take]; rfl)) ?_; (with_reducible refine(shape_product.calls _ _ l0 t102 _ ?side1 ?side2 A7.out).mono ?_); (case side1=>exact qc HR0.out); (case side2=>exact HC0.out); rintro e w' ⟨rfl,⟨nd,rfl⟩⟩; refine⟨_,rfl,?_⟩))
      go_ret
      exact⟨by first | rfl | (simp; done) | (simp [*]; done),by repeat (first | exact Drawn0.refl _ | apply Drawn0.step)⟩
def shape_Count.f (k:Nat) (l0:List Int):Option (Int):=(shape_May.f k l0).bind fun t103=>(if t103=0 then ((shape_product.f l0).bind fun t104=>(some t104)) else (some 0))
theorem shape_Count.calls (k:Nat) (A0:Option Addr) (c0:Nat) (l0:List Int) (r:Int) (w:World) (hr0:Kd.C (Kd.int .i64) w A0 l0.length l0) (hc0:l0.length≤c0) (h:shape_Count.f k l0=some r) :
  Calls Tryz.prog 69 #[.slice A0 l0.length c0] w fun e w'=>e=.returned (.int .i64 r)∧Drawn0 w w':=by
 have HR0:=Aside0.mk hr0
 have HC0:=Aside0.mk hc0
 clear hr0 hc0
 have H:((shape_May.f k l0).bind fun t103=>(if t103=0 then ((shape_product.f l0).bind fun t104=>(some t104)) else (some 0)))=some r:=h
 clear h
 replace H:=Option.bind_eq_some_iff.mp H
 obtain⟨t103,A20,H⟩:=H
 replace H:(if t103=0 then ((shape_product.f l0).bind fun t104=>(some t104)) else (some 0))=some r:=H
 have A2:=Aside0.mk A20
 clear A20
 by_cases c3:t103=0
 ·
  rw [if_pos c3] at H
  have c3b0:(t103 == 0)=true:=beq_iff_eq.mpr c3
  have c3b1:(t103 != 0)=false:=bne_eq_false_iff_eq.mpr c3
  clear c3
  replace H:=Option.bind_eq_some_iff.mp H
  obtain⟨t104,A40,H⟩:=H
  replace H:(some t104)=some r:=H
  have A4:=Aside0.mk A40
  clear A40
  obtain rfl:=Option.some.inj H
  go_enter Tryz.func69,Tryz.ntmps69
  go_wp2_with (first | ((with_reducible refine zbz (f:=67) rfl ?_); refine zbK (some 4) rfl rfl Tryz.func67 (by kernel_rfl) rfl #[.slice A0 l0.length c0] rfl (by (try simp only [List.map_toArray,List.map_cons,List.map_nil]); first | done | rfl | (simp only [List.length_drop,List.length_take]; rfl)) ?_; (with_reducible refine(shape_May.calls k _ _ l0 t103 _ ?side1 ?side2 A2.out).mono ?_); (case side1=>exact qc HR0.out); (case side2=>exact HC0.out); rintro e w' ⟨rfl,⟨nd,rfl⟩⟩; refine⟨_,rfl,?_⟩) | ((with_reducible refine zbz (f:=121) rfl ?_); refine zbK (some 7) rfl rfl Tryz.func121 (by kernel_rfl) rfl #[.slice A0 l0.length c0] rfl (by (try simp only [List.map_toArray,List.map_cons,List.map_nil]); first | done | rfl | (simp only [List.length_drop,List.length_take]; rfl)) ?_; (with_reducible refine(shape_product.calls _ _ l0 t104 _ ?side1 ?side2 A4.out).mono ?_); (case side1=>exact qc HR0.out); (case side2=>exact HC0.out); rintro e w' ⟨rfl,⟨nd,rfl⟩⟩; refine⟨_,rfl,?_⟩))
  go_ret
  exact⟨by first | rfl | (simp; done) | (simp [*]; done),by repeat (first | exact Drawn0.refl _ | apply Drawn0.step)⟩
 ·
  rw [if_neg c3] at H
  have c3b0:(t103 == 0)=false:=beq_eq_false_iff_ne.mpr c3
  have c3b1:(t103 != 0)=true:=bne_iff_ne.mpr c3
  obtain rfl:=Option.some.inj H
  go_enter Tryz.func69,Tryz.ntmps69
  go_wp2_with (first | ((with_reducible refine zbz (f:=67) rfl ?_); refine zbK (some 4) rfl rfl Tryz.func67 (by kernel_rfl) rfl #[.slice A0 l0.length c0] rfl (by (try simp only [List.map_toArray,List.map_cons,List.map_nil]); first | done | rfl | (simp only [List.length_drop,List.length_take]; rfl)) ?_; (with_reducible refine(shape_May.calls k _ _ l0 t103 _ ?side1 ?side2 A2.out).mono ?_); (case side1=>exact qc HR0.out); (case side2=>exact HC0.out); rintro e w' ⟨rfl,⟨nd,rfl⟩⟩; refine⟨_,rfl,?_⟩))
  go_ret
  exact⟨by first | rfl | (simp; done) | (simp [*]; done),by repeat (first | exact Drawn0.refl _ | apply Drawn0.step)⟩
def shape_Offset.l0:Nat→List Int→Int→List Int→Int→Int→Option (Int×Int)
 | 0,_,_,_,_,_=>none
 | k+1,x1,x7,x20,x21,x22=>if x22 < x21 then (if 0≤x22 then (if x22 < (x20.length:Int) then (if x22 < (x1.length:Int) then (if (rd x1 x22) < 0 then (some (0,21)) else (if (rd x1 x22) ≥ (rd x20 x22) then (some (0,21)) else (shape_Offset.l0 k x1 (wrap64 ((wrap64 (x7*(rd x20 x22)))+(rd x1 x22))) x20 x21 (wrap64 (x22+1))))) else (none)) else (none)) else (none)) else (some (x7,0))
def shape_Offset.f (k:Nat) (l0:List Int) (l1:List Int):Option (Int×Int):=(shape_May.f k l0).bind fun t105=>(if t105=0 then (if (l1.length:Int)=(l0.length:Int) then (shape_Offset.l0 k l1 0 l0 (l0.length:Int) 0) else (some (0,2))) else (some (0,t105)))
theorem shape_Offset.calls (k:Nat) (A0:Option Addr) (c0:Nat) (l0:List Int) (A1:Option Addr) (c1:Nat) (l1:List Int) (r1:Int) (r2:Int) (w:World) (hr0:Kd.C (Kd.int .i64) w A0 l0.length l0) (hc0:l0.length≤c0) (hr1:Kd.C (Kd.int .i64) w A1 l1.length l1) (hc1:l1.length≤c1) (h:shape_Offset.f k l0 l1=some (r1,r2)) :
  Calls Tryz.prog 86 #[.slice A0 l0.length c0,.slice A1 l1.length c1] w fun e w'=>e=.returned (.tuple #[.int .i64 r1,.int .i64 r2])∧Drawn0 w w':=by
 have HR0:=Aside0.mk hr0
 have HC0:=Aside0.mk hc0
 clear hr0 hc0
 have HR1:=Aside0.mk hr1
 have HC1:=Aside0.mk hc1
 clear hr1 hc1
 have H:((shape_May.f k l0).bind fun t105=>(if t105=0 then (if (l1.length:Int)=(l0.length:Int) then (shape_Offset.l0 k l1 0 l0 (l0.length:Int) 0) else (some (0,2))) else (some (0,t105))))=some (r1,r2):=h
 clear h
 replace H:=Option.bind_eq_some_iff.mp H
 obtain⟨t105,A30,H⟩:=H
 replace H:(if t105=0 then (if (l1.length:Int)=(l0.length:Int) then (shape_Offset.l0 k l1 0 l0 (l0.length:Int) 0) else (some (0,2))) else (some (0,t105)))=some (r1,r2):=H
 have A3:=Aside0.mk A30
 clear A30
 by_cases c4:t105=0
 ·
  rw [if_pos c4] at H
  have c4b0:(t105 == 0)=true:=beq_iff_eq.mpr c4
  have c4b1:(t105 != 0)=false:=bne_eq_false_iff_eq.mpr c4
  clear c4
  by_cases c5:(l1.length:Int)=(l0.length:Int)
  ·
   rw [if_pos c5] at H
   have c5b0:((l1.length:Int) == (l0.length:Int))=true:=beq_iff_eq.mpr c5
   have c5b1:((l1.length:Int) != (l0.length:Int))=false:=bne_eq_false_iff_eq.mpr c5
   have c5b2:(l1.length == l0.length)=true:=by first | simpa using c5 | (simp at c5 ⊢; omega)
   clear c5
   have H':=Aside0.mk H
   clear H
   go_enter Tryz.func86,Tryz.ntmps86
   go_wp2_with (first | ((with_reducible refine zbz (f:=67) rfl ?_); refine zbK (some 11) rfl rfl Tryz.func67 (by kernel_rfl) rfl #[.slice A0 l0.length c0] rfl (by (try simp only [List.map_toArray,List.map_cons,List.map_nil]); first | done | rfl | (simp only [List.length_drop,List.length_take]; rfl)) ?_; (with_reducible refine(shape_May.calls k _ _ l0 t105 _ ?side1 ?side2 A3.out).mono ?_); (case side1=>exact qc HR0.out); (case side2=>exact HC0.out); rintro e w' ⟨rfl,⟨nd,rfl⟩⟩; refine⟨_,rfl,?_⟩))
   go_loopg [7,22] k (fun kq v7 v22 w'=>∃ (x7_1:Int) (x22_1:Int),v7=.int .i64 x7_1∧v22=.int .i64 x22_1∧Aside0 (shape_Offset.l0 kq l1 x7_1 l0 (l0.length:Int) x22_1=some (r1,r2))∧Aside0 (kq≤k)∧Drawn0 w w')
   case atStart=>exact⟨(0),(0),(by first | rfl | (simp; done) | (simp [*]; done)),(by first | rfl | (simp; done) | (simp [*]; done)),H',⟨Nat.le_refl _⟩,by repeat (first | exact Drawn0.refl _ | apply Drawn0.step)⟩
   case round =>
    clear H'
    try clear c1
    try clear p2
    try clear c4
    try clear c4b0
    try clear c4b1
    try clear c5
    try clear c5b0
    try clear c5b1
    try clear c5b2
    obtain⟨x7_1,x22_1,rfl,rfl,HA,HK1,⟨m1,rfl⟩⟩:=hrel
    cases gk with
    | zero=>exact absurd HA.out (by simp [shape_Offset.l0])
    | succ k1 =>
     have H:=HA.out
     clear HA
     simp only [shape_Offset.l0] at H
     by_cases c6:x22_1 < (l0.length:Int)
     ·
      rw [if_pos c6] at H
      have c6b0:decide (x22_1 < (l0.length:Int))=true:=decide_eq_true c6
      clear c6
      by_cases c7:0≤x22_1
      ·
       rw [if_pos c7] at H
       have c7b0:decide (0≤x22_1)=true:=decide_eq_true c7
       clear c7
       by_cases c8:x22_1 < (l0.length:Int)
       ·
        rw [if_pos c8] at H
        have c8b0:decide (x22_1 < (l0.length:Int))=true:=decide_eq_true c8
        clear c8
        by_cases c9:x22_1 < (l1.length:Int)
        ·
         rw [if_pos c9] at H
         have c9b0:decide (x22_1 < (l1.length:Int))=true:=decide_eq_true c9
         clear c9
         by_cases c10:(rd l1 x22_1) < 0
         ·
          rw [if_pos c10] at H
          have c10b0:decide ((rd l1 x22_1) < 0)=true:=decide_eq_true c10
          clear c10
          simp only [Option.some.injEq,Prod.mk.injEq] at H
          obtain⟨rfl,rfl⟩:=H
          have p106:0≤(x22_1:Int):=of_decide_eq_true qs
          have q106:x22_1 < (l0.length:Int):=of_decide_eq_true qs
          obtain⟨ad106,e106,hx106_0⟩:=Kd.at_int HR0.out x22_1 p106 q106
          cases e106
          replace p106:=eq_true p106
          replace q106:=eq_true q106
          have p107:0≤(x22_1:Int):=of_decide_eq_true qs
          have q107:x22_1 < (l1.length:Int):=of_decide_eq_true qs
          obtain⟨ad107,e107,hx107_0⟩:=Kd.at_int HR1.out x22_1 p107 q107
          cases e107
          replace p107:=eq_true p107
          replace q107:=eq_true q107
          go_wp2
          go_ret2
          exact⟨by first | rfl | (simp; done) | (simp [*]; done),by repeat (first | exact Drawn0.refl _ | apply Drawn0.step)⟩
         ·
          rw [if_neg c10] at H
          have c10b0:decide ((rd l1 x22_1) < 0)=false:=decide_eq_false c10
          clear c10
          by_cases c11:(rd l1 x22_1) ≥ (rd l0 x22_1)
          ·
           rw [if_pos c11] at H
           have c11b0:decide ((rd l0 x22_1)≤(rd l1 x22_1))=true:=decide_eq_true c11
           clear c11
           simp only [Option.some.injEq,Prod.mk.injEq] at H
           obtain⟨rfl,rfl⟩:=H
           have p106:0≤(x22_1:Int):=of_decide_eq_true qs
           have q106:x22_1 < (l0.length:Int):=of_decide_eq_true qs
           obtain⟨ad106,e106,hx106_0⟩:=Kd.at_int HR0.out x22_1 p106 q106
           cases e106
           replace p106:=eq_true p106
           replace q106:=eq_true q106
           have p107:0≤(x22_1:Int):=of_decide_eq_true qs
           have q107:x22_1 < (l1.length:Int):=of_decide_eq_true qs
           obtain⟨ad107,e107,hx107_0⟩:=Kd.at_int HR1.out x22_1 p107 q107
           cases e107
           replace p107:=eq_true p107
           replace q107:=eq_true q107
           have p108:0≤(x22_1:Int):=of_decide_eq_true qs
           have q108:x22_1 < (l1.length:Int):=of_decide_eq_true qs
           obtain⟨ad108,e108,hx108_0⟩:=Kd.at_int HR1.out x22_1 p108 q108
           obtain rfl:ad107=ad108:=(by injection e108)
           replace p108:=eq_true p108
           replace q108:=eq_true q108
           go_wp2
           go_ret2
           exact⟨by first | rfl | (simp; done) | (simp [*]; done),by repeat (first | exact Drawn0.refl _ | apply Drawn0.step)⟩
          ·
           rw [if_neg c11] at H
           have c11b0:decide ((rd l0 x22_1)≤(rd l1 x22_1))=false:=decide_eq_false c11
           clear c11
           have H':=Aside0.mk H
           clear H
           have p106:0≤(x22_1:Int):=of_decide_eq_true qs
           have q106:x22_1 < (l0.length:Int):=of_decide_eq_true qs
           obtain⟨ad106,e106,hx106_0⟩:=Kd.at_int HR0.out x22_1 p106 q106
           cases e106
           replace p106:=eq_true p106
           replace q106:=eq_true q106
           have p107:0≤(x22_1:Int):=of_decide_eq_true qs
           have q107:x22_1 < (l1.length:Int):=of_decide_eq_true qs
           obtain⟨ad107,e107,hx107_0⟩:=Kd.at_int HR1.out x22_1 p107 q107
           cases e107
           replace p107:=eq_true p107
           replace q107:=eq_true q107
           have p108:0≤(x22_1:Int):=of_decide_eq_true qs
           have q108:x22_1 < (l1.length:Int):=of_decide_eq_true qs
           obtain⟨ad108,e108,hx108_0⟩:=Kd.at_int HR1.out x22_1 p108 q108
           obtain rfl:ad107=ad108:=(by injection e108)
           replace p108:=eq_true p108
           replace q108:=eq_true q108
           have p109:0≤(x22_1:Int):=of_decide_eq_true qs
           have q109:x22_1 < (l1.length:Int):=of_decide_eq_true qs
           obtain⟨ad109,e109,hx109_0⟩:=Kd.at_int HR1.out x22_1 p109 q109
           obtain rfl:ad107=ad109:=(by injection e109)
           replace p109:=eq_true p109
           replace q109:=eq_true q109
           go_wp2
           go_roundg k1
           case measure=>have:=HK1.out; omega
           case rel=>exact⟨(wrap64 ((wrap64 (x7_1*(rd l0 x22_1)))+(rd l1 x22_1))),(wrap64 (x22_1+1)),(by first | rfl | (simp; done) | (simp [*]; done)),(by first | rfl | (simp; done) | (simp [*]; done)),H',⟨by have:=HK1.out; omega⟩,by repeat (first | exact Drawn0.refl _ | apply Drawn0.step)⟩
        ·
         rw [if_neg c9] at H
         exact absurd H (by simp)
       ·
        rw [if_neg c8] at H
        exact absurd H (by simp)
      ·
       rw [if_neg c7] at H
       exact absurd H (by simp)
     ·
      rw [if_neg c6] at H
      have c6b0:decide (x22_1 < (l0.length:Int))=false:=decide_eq_false c6
      clear c6
      simp only [Option.some.injEq,Prod.mk.injEq] at H
      obtain⟨rfl,rfl⟩:=H
      go_wp2
      go_ret2
      exact⟨by first | rfl | (simp; done) | (simp [*]; done),by repeat (first | exact Drawn0.refl _ | apply Drawn0.step)⟩
  ·
   rw [if_neg c5] at H
   have c5b0:((l1.length:Int) == (l0.length:Int))=false:=beq_eq_false_iff_ne.mpr c5
   have c5b1:((l1.length:Int) != (l0.length:Int))=true:=bne_iff_ne.mpr c5
   have c5b2:(l1.length == l0.length)=false:=by first | simpa using c5 | (simp at c5 ⊢; omega)
   simp only [Option.some.injEq,Prod.mk.injEq] at H
   obtain⟨rfl,rfl⟩:=H
   go_enter Tryz.func86,Tryz.ntmps86
   go_wp2_with (first | ((with_reducible refine zbz (f:=67) rfl ?_); refine zbK (some 11) rfl rfl Tryz.func67 (by kernel_rfl) rfl #[.slice A0 l0.length c0] rfl (by (try simp only [List.map_toArray,List.map_cons,List.map_nil]); first | done | rfl | (simp only [List.length_drop,List.length_take]; rfl)) ?_; (with_reducible refine(shape_May.calls k _ _ l0 t105 _ ?side1 ?side2 A3.out).mono ?_); (case side1=>exact qc HR0.out); (case side2=>exact HC0.out); rintro e w' ⟨rfl,⟨nd,rfl⟩⟩; refine⟨_,rfl,?_⟩))
   go_ret2
   exact⟨by first | rfl | (simp; done) | (simp [*]; done),by repeat (first | exact Drawn0.refl _ | apply Drawn0.step)⟩
 ·
  rw [if_neg c4] at H
  have c4b0:(t105 == 0)=false:=beq_eq_false_iff_ne.mpr c4
  have c4b1:(t105 != 0)=true:=bne_iff_ne.mpr c4
  simp only [Option.some.injEq,Prod.mk.injEq] at H
  obtain⟨rfl,rfl⟩:=H
  go_enter Tryz.func86,Tryz.ntmps86
  go_wp2_with (first | ((with_reducible refine zbz (f:=67) rfl ?_); refine zbK (some 11) rfl rfl Tryz.func67 (by kernel_rfl) rfl #[.slice A0 l0.length c0] rfl (by (try simp only [List.map_toArray,List.map_cons,List.map_nil]); first | done | rfl | (simp only [List.length_drop,List.length_take]; rfl)) ?_; (with_reducible refine(shape_May.calls k _ _ l0 t105 _ ?side1 ?side2 A3.out).mono ?_); (case side1=>exact qc HR0.out); (case side2=>exact HC0.out); rintro e w' ⟨rfl,⟨nd,rfl⟩⟩; refine⟨_,rfl,?_⟩))
  go_ret2
  exact⟨by first | rfl | (simp; done) | (simp [*]; done),by repeat (first | exact Drawn0.refl _ | apply Drawn0.step)⟩
def tensor_fits.f (k:Nat) (l0_0:List Int) (l0_1:List (S27)):Option (Int):=(shape_May.f k l0_0).bind fun t111=>(if t111=0 then ((shape_Count.f k l0_0).bind fun t112=>(if (l0_1.length:Int)=t112 then (some 0) else (some 13))) else (some t111))
theorem tensor_fits.calls (k:Nat) (A0_0:Option Addr) (c0_0:Nat) (l0_0:List Int) (A0_1:Option Addr) (c0_1:Nat) (l0_1:List (S27)) (r:Int) (w:World) (hr0_0:Kd.C (Kd.int .i64) w A0_0 l0_0.length l0_0) (hc0_0:l0_0.length≤c0_0) (hr0_1:Kd.C k27 w A0_1 l0_1.length l0_1) (hc0_1:l0_1.length≤c0_1) (h:tensor_fits.f k l0_0 l0_1=some r) :
  Calls Tryz.prog 84 #[.agg #[.slice A0_0 l0_0.length c0_0,.slice A0_1 l0_1.length c0_1]] w fun e w'=>e=.returned (.int .i64 r)∧Below w.heap.size w w':=by
 have hu30:=Tryz.underlying30
 have HR0_0:=Aside0.mk hr0_0
 have HC0_0:=Aside0.mk hc0_0
 clear hr0_0 hc0_0
 have HR0_1:=Aside0.mk hr0_1
 have HC0_1:=Aside0.mk hc0_1
 clear hr0_1 hc0_1
 have HB:=Aside0.mk (Below.refl w.heap.size w)
 have H:((shape_May.f k l0_0).bind fun t111=>(if t111=0 then ((shape_Count.f k l0_0).bind fun t112=>(if (l0_1.length:Int)=t112 then (some 0) else (some 13))) else (some t111)))=some r:=h
 clear h
 replace H:=Option.bind_eq_some_iff.mp H
 obtain⟨t111,A20,H⟩:=H
 replace H:(if t111=0 then ((shape_Count.f k l0_0).bind fun t112=>(if (l0_1.length:Int)=t112 then (some 0) else (some 13))) else (some t111))=some r:=H
 have A2:=Aside0.mk A20
 clear A20
 by_cases c3:t111=0
 ·
  rw [if_pos c3] at H
  have c3b0:(t111 == 0)=true:=beq_iff_eq.mpr c3
  have c3b1:(t111 != 0)=false:=bne_eq_false_iff_eq.mpr c3
  clear c3
  replace H:=Option.bind_eq_some_iff.mp H
  obtain⟨t112,A40,H⟩:=H
  replace H:(if (l0_1.length:Int)=t112 then (some 0) else (some 13))=some r:=H
  have A4:=Aside0.mk A40
  clear A40
  by_cases c5:(l0_1.length:Int)=t112
  ·
   rw [if_pos c5] at H
   have c5b0:((l0_1.length:Int) == t112)=true:=beq_iff_eq.mpr c5
   have c5b1:((l0_1.length:Int) != t112)=false:=bne_eq_false_iff_eq.mpr c5
   clear c5
   obtain rfl:=Option.some.inj H
   go_enter Tryz.func84,Tryz.ntmps84
   go_wp2_with (first | ((with_reducible refine zbD (N:=1) rfl ?_); refine zbC ?hg (N:=1) ?hd (cs:=#[.slice A0_0 l0_0.length c0_0,.slice A0_1 l0_1.length c0_1]) (t:=30) ?hr ?_; (case hd=>rfl); (case hg=>rfl); (case hr=>first | (go_simp; done) | (go_simp; rfl)); intro gb110 hg w6 hbox hb; have n0_:=Aside0.mk (zbm (qb HB.out) hb); have n1_:=Aside0.mk (hbox); have n2_:=Aside0.mk ((by rw [hg]; exact(zbp (qb HB.out)):w.heap.size≤gb110)); have n3_:=Aside0.mk ((by rw [hg]; exact(zbp (qb HB.out)):w.heap.size≤gb110)); clear HB; have HB:=n0_; have BK110:=n1_; have GW110:=n2_; have GE110:=n3_; clear n0_ n1_ n2_ n3_; clear hb hbox hg; have hcz7_0:w6.cell? ⟨gb110,0,none⟩=some (.slice A0_0 l0_0.length c0_0):=(zbq BK110.out 0).trans rfl; have hcz7_1:w6.cell? ⟨gb110,1,none⟩=some (.slice A0_1 l0_1.length c0_1):=(zbq BK110.out 1).trans rfl; have hfz7_0:=zbA BK110.out 0; have hfz7_1:=zbA BK110.out 1) | (go_at_call 67; (with_reducible refine(shape_May.calls k _ _ l0_0 t111 _ ?side1 ?side2 A2.out).mono ?_); (case side1=>exact qc (Kd.C_below HR0_0.out HB.out)); (case side2=>exact HC0_0.out); rintro e w' ⟨rfl,⟨nd,rfl⟩⟩; (try first | exact⟨rfl,_,World.drewN_drewN _ _ _⟩ | exact⟨rfl,_,Eq.trans (World.drewN_drewN _ _ _) (congrArg (World.drewN _) (Nat.add_assoc _ _ _))⟩)) | (go_at_call 69; (with_reducible refine(shape_Count.calls k _ _ l0_0 t112 _ ?side1 ?side2 A4.out).mono ?_); (case side1=>repeat (first | exact(Kd.C_below HR0_0.out (qb1 HB.out GE110.out)) | (with_reducible refine Kd.C_alloc ?_ _) | (with_reducible refine Kd.C_drewN ?_ _) | (with_reducible refine Kd.C_drew ?_))); (case side2=>exact HC0_0.out); rintro e w' ⟨rfl,⟨nd,rfl⟩⟩; (try first | exact⟨rfl,_,World.drewN_drewN _ _ _⟩ | exact⟨rfl,_,Eq.trans (World.drewN_drewN _ _ _) (congrArg (World.drewN _) (Nat.add_assoc _ _ _))⟩)))
   repeat (go_quiet (first | ((with_reducible refine zbD (N:=1) rfl ?_); refine zbC ?hg (N:=1) ?hd (cs:=#[.slice A0_0 l0_0.length c0_0,.slice A0_1 l0_1.length c0_1]) (t:=30) ?hr ?_; (case hd=>rfl); (case hg=>rfl); (case hr=>first | (go_simp; done) | (go_simp; rfl)); intro gb110 hg w6 hbox hb; have n0_:=Aside0.mk (zbm (qb HB.out) hb); have n1_:=Aside0.mk (hbox); have n2_:=Aside0.mk ((by rw [hg]; exact(zbp (qb HB.out)):w.heap.size≤gb110)); have n3_:=Aside0.mk ((by rw [hg]; exact(zbp (qb HB.out)):w.heap.size≤gb110)); clear HB; have HB:=n0_; have BK110:=n1_; have GW110:=n2_; have GE110:=n3_; clear n0_ n1_ n2_ n3_; clear hb hbox hg; have hcz7_0:w6.cell? ⟨gb110,0,none⟩=some (.slice A0_0 l0_0.length c0_0):=(zbq BK110.out 0).trans rfl; have hcz7_1:w6.cell? ⟨gb110,1,none⟩=some (.slice A0_1 l0_1.length c0_1):=(zbq BK110.out 1).trans rfl; have hfz7_0:=zbA BK110.out 0; have hfz7_1:=zbA BK110.out 1) | (go_at_call 67; (with_reducible refine(shape_May.calls k _ _ l0_0 t111 _ ?side1 ?side2 A2.out).mono ?_); (case side1=>exact qc (Kd.C_below HR0_0.out HB.out)); (case side2=>exact HC0_0.out); rintro e w' ⟨rfl,⟨nd,rfl⟩⟩; (try first | exact⟨rfl,_,World.drewN_drewN _ _ _⟩ | exact⟨rfl,_,Eq.trans (World.drewN_drewN _ _ _) (congrArg (World.drewN _) (Nat.add_assoc _ _ _))⟩)) | (go_at_call 69; (with_reducible refine(shape_Count.calls k _ _ l0_0 t112 _ ?side1 ?side2 A4.out).mono ?_); (case side1=>repeat (first | exact(Kd.C_below HR0_0.out (qb1 HB.out GE110.out)) | (with_reducible refine Kd.C_alloc ?_ _) | (with_reducible refine Kd.C_drewN ?_ _) | (with_reducible refine Kd.C_drew ?_))); (case side2=>exact HC0_0.out); rintro e w' ⟨rfl,⟨nd,rfl⟩⟩; (try first | exact⟨rfl,_,World.drewN_drewN _ _ _⟩ | exact⟨rfl,_,Eq.trans (World.drewN_drewN _ _ _) (congrArg (World.drewN _) (Nat.add_assoc _ _ _))⟩))); try go_wp2_with (first | ((with_reducible refine zbD (N:=1) rfl ?_); refine zbC ?hg (N:=1) ?hd (cs:=#[.slice A0_0 l0_0.length c0_0,.slice A0_1 l0_1.length c0_1]) (t:=30) ?hr ?_; (case hd=>rfl); (case hg=>rfl); (case hr=>first | (go_simp; done) | (go_simp; rfl)); intro gb110 hg w6 hbox hb; have n0_:=Aside0.mk (zbm (qb HB.out) hb); have n1_:=Aside0.mk (hbox); have n2_:=Aside0.mk ((by rw [hg]; exact(zbp (qb HB.out)):w.heap.size≤gb110)); have n3_:=Aside0.mk ((by rw [hg]; exact(zbp (qb HB.out)):w.heap.size≤gb110)); clear HB; have HB:=n0_; have BK110:=n1_; have GW110:=n2_; have GE110:=n3_; clear n0_ n1_ n2_ n3_; clear hb hbox hg; have hcz7_0:w6.cell? ⟨gb110,0,none⟩=some (.slice A0_0 l0_0.length c0_0):=(zbq BK110.out 0).trans rfl; have hcz7_1:w6.cell? ⟨gb110,1,none⟩=some (.slice A0_1 l0_1.length c0_1):=(zbq BK110.out 1).trans rfl; have hfz7_0:=zbA BK110.out 0; have hfz7_1:=zbA BK110.out 1) | (go_at_call 67; (with_reducible refine(shape_May.calls k _ _ l0_0 t111 _ ?side1 ?side2 A2.out).mono ?_); (case side1=>exact qc (Kd.C_below HR0_0.out HB.out)); (case side2=>exact HC0_0.out); rintro e w' ⟨rfl,⟨nd,rfl⟩⟩; (try first | exact⟨rfl,_,World.drewN_drewN _ _ _⟩ | exact⟨rfl,_,Eq.trans (World.drewN_drewN _ _ _) (congrArg (World.drewN _) (Nat.add_assoc _ _ _))⟩)) | (go_at_call 69; (with_reducible refine(shape_Count.calls k _ _ l0_0 t112 _ ?side1 ?side2 A4.out).mono ?_); (case side1=>repeat (first | exact(Kd.C_below HR0_0.out (qb1 HB.out GE110.out)) | (with_reducible refine Kd.C_alloc ?_ _) | (with_reducible refine Kd.C_drewN ?_ _) | (with_reducible refine Kd.C_drew ?_))); (case side2=>exact HC0_0.out); rintro e w' ⟨rfl,⟨nd,rfl⟩⟩; (try first | exact⟨rfl,_,World.drewN_drewN _ _ _⟩ | exact⟨rfl,_,Eq.trans (World.drewN_drewN _ _ _) (congrArg (World.drewN _) (Nat.add_assoc _ _ _))⟩))))
   go_ret
   exact⟨by first | rfl | (simp [zbx,zbw]<;>rfl) | (simp [*,zbx,zbw]<;>rfl),by repeat (first | (with_reducible first | exact HB.out | apply zbn | apply zbo | apply zbs | refine zbB ?_ GE110.out) | exact HB.out)⟩
  ·
   rw [if_neg c5] at H
   have c5b0:((l0_1.length:Int) == t112)=false:=beq_eq_false_iff_ne.mpr c5
   have c5b1:((l0_1.length:Int) != t112)=true:=bne_iff_ne.mpr c5
   obtain rfl:=Option.some.inj H
   go_enter Tryz.func84,Tryz.ntmps84
   go_wp2_with (first | ((with_reducible refine zbD (N:=1) rfl ?_); refine zbC ?hg (N:=1) ?hd (cs:=#[.slice A0_0 l0_0.length c0_0,.slice A0_1 l0_1.length c0_1]) (t:=30) ?hr ?_; (case hd=>rfl); (case hg=>rfl); (case hr=>first | (go_simp; done) | (go_simp; rfl)); intro gb110 hg w8 hbox hb; have n0_:=Aside0.mk (zbm (qb HB.out) hb); have n1_:=Aside0.mk (hbox); have n2_:=Aside0.mk ((by rw [hg]; exact(zbp (qb HB.out)):w.heap.size≤gb110)); have n3_:=Aside0.mk ((by rw [hg]; exact(zbp (qb HB.out)):w.heap.size≤gb110)); clear HB; have HB:=n0_; have BK110:=n1_; have GW110:=n2_; have GE110:=n3_; clear n0_ n1_ n2_ n3_; clear hb hbox hg; have hcz9_0:w8.cell? ⟨gb110,0,none⟩=some (.slice A0_0 l0_0.length c0_0):=(zbq BK110.out 0).trans rfl; have hcz9_1:w8.cell? ⟨gb110,1,none⟩=some (.slice A0_1 l0_1.length c0_1):=(zbq BK110.out 1).trans rfl; have hfz9_0:=zbA BK110.out 0; have hfz9_1:=zbA BK110.out 1) | (go_at_call 67; (with_reducible refine(shape_May.calls k _ _ l0_0 t111 _ ?side1 ?side2 A2.out).mono ?_); (case side1=>exact qc (Kd.C_below HR0_0.out HB.out)); (case side2=>exact HC0_0.out); rintro e w' ⟨rfl,⟨nd,rfl⟩⟩; (try first | exact⟨rfl,_,World.drewN_drewN _ _ _⟩ | exact⟨rfl,_,Eq.trans (World.drewN_drewN _ _ _) (congrArg (World.drewN _) (Nat.add_assoc _ _ _))⟩)) | (go_at_call 69; (with_reducible refine(shape_Count.calls k _ _ l0_0 t112 _ ?side1 ?side2 A4.out).mono ?_); (case side1=>repeat (first | exact(Kd.C_below HR0_0.out (qb1 HB.out GE110.out)) | (with_reducible refine Kd.C_alloc ?_ _) | (with_reducible refine Kd.C_drewN ?_ _) | (with_reducible refine Kd.C_drew ?_))); (case side2=>exact HC0_0.out); rintro e w' ⟨rfl,⟨nd,rfl⟩⟩; (try first | exact⟨rfl,_,World.drewN_drewN _ _ _⟩ | exact⟨rfl,_,Eq.trans (World.drewN_drewN _ _ _) (congrArg (World.drewN _) (Nat.add_assoc _ _ _))⟩)))
   repeat (go_quiet (first | ((with_reducible refine zbD (N:=1) rfl ?_); refine zbC ?hg (N:=1) ?hd (cs:=#[.slice A0_0 l0_0.length c0_0,.slice A0_1 l0_1.length c0_1]) (t:=30) ?hr ?_; (case hd=>rfl); (case hg=>rfl); (case hr=>first | (go_simp; done) | (go_simp; rfl)); intro gb110 hg w8 hbox hb; have n0_:=Aside0.mk (zbm (qb HB.out) hb); have n1_:=Aside0.mk (hbox); have n2_:=Aside0.mk ((by rw [hg]; exact(zbp (qb HB.out)):w.heap.size≤gb110)); have n3_:=Aside0.mk ((by rw [hg]; exact(zbp (qb HB.out)):w.heap.size≤gb110)); clear HB; have HB:=n0_; have BK110:=n1_; have GW110:=n2_; have GE110:=n3_; clear n0_ n1_ n2_ n3_; clear hb hbox hg; have hcz9_0:w8.cell? ⟨gb110,0,none⟩=some (.slice A0_0 l0_0.length c0_0):=(zbq BK110.out 0).trans rfl; have hcz9_1:w8.cell? ⟨gb110,1,none⟩=some (.slice A0_1 l0_1.length c0_1):=(zbq BK110.out 1).trans rfl; have hfz9_0:=zbA BK110.out 0; have hfz9_1:=zbA BK110.out 1) | (go_at_call 67; (with_reducible refine(shape_May.calls k _ _ l0_0 t111 _ ?side1 ?side2 A2.out).mono ?_); (case side1=>exact qc (Kd.C_below HR0_0.out HB.out)); (case side2=>exact HC0_0.out); rintro e w' ⟨rfl,⟨nd,rfl⟩⟩; (try first | exact⟨rfl,_,World.drewN_drewN _ _ _⟩ | exact⟨rfl,_,Eq.trans (World.drewN_drewN _ _ _) (congrArg (World.drewN _) (Nat.add_assoc _ _ _))⟩)) | (go_at_call 69; (with_reducible refine(shape_Count.calls k _ _ l0_0 t112 _ ?side1 ?side2 A4.out).mono ?_); (case side1=>repeat (first | exact(Kd.C_below HR0_0.out (qb1 HB.out GE110.out)) | (with_reducible refine Kd.C_alloc ?_ _) | (with_reducible refine Kd.C_drewN ?_ _) | (with_reducible refine Kd.C_drew ?_))); (case side2=>exact HC0_0.out); rintro e w' ⟨rfl,⟨nd,rfl⟩⟩; (try first | exact⟨rfl,_,World.drewN_drewN _ _ _⟩ | exact⟨rfl,_,Eq.trans (World.drewN_drewN _ _ _) (congrArg (World.drewN _) (Nat.add_assoc _ _ _))⟩))); try go_wp2_with (first | ((with_reducible refine zbD (N:=1) rfl ?_); refine zbC ?hg (N:=1) ?hd (cs:=#[.slice A0_0 l0_0.length c0_0,.slice A0_1 l0_1.length c0_1]) (t:=30) ?hr ?_; (case hd=>rfl); (case hg=>rfl); (case hr=>first | (go_simp; done) | (go_simp; rfl)); intro gb110 hg w8 hbox hb; have n0_:=Aside0.mk (zbm (qb HB.out) hb); have n1_:=Aside0.mk (hbox); have n2_:=Aside0.mk ((by rw [hg]; exact(zbp (qb HB.out)):w.heap.size≤gb110)); have n3_:=Aside0.mk ((by rw [hg]; exact(zbp (qb HB.out)):w.heap.size≤gb110)); clear HB; have HB:=n0_; have BK110:=n1_; have GW110:=n2_; have GE110:=n3_; clear n0_ n1_ n2_ n3_; clear hb hbox hg; have hcz9_0:w8.cell? ⟨gb110,0,none⟩=some (.slice A0_0 l0_0.length c0_0):=(zbq BK110.out 0).trans rfl; have hcz9_1:w8.cell? ⟨gb110,1,none⟩=some (.slice A0_1 l0_1.length c0_1):=(zbq BK110.out 1).trans rfl; have hfz9_0:=zbA BK110.out 0; have hfz9_1:=zbA BK110.out 1) | (go_at_call 67; (with_reducible refine(shape_May.calls k _ _ l0_0 t111 _ ?side1 ?side2 A2.out).mono ?_); (case side1=>exact qc (Kd.C_below HR0_0.out HB.out)); (case side2=>exact HC0_0.out); rintro e w' ⟨rfl,⟨nd,rfl⟩⟩; (try first | exact⟨rfl,_,World.drewN_drewN _ _ _⟩ | exact⟨rfl,_,Eq.trans (World.drewN_drewN _ _ _) (congrArg (World.drewN _) (Nat.add_assoc _ _ _))⟩)) | (go_at_call 69; (with_reducible refine(shape_Count.calls k _ _ l0_0 t112 _ ?side1 ?side2 A4.out).mono ?_); (case side1=>repeat (first | exact(Kd.C_below HR0_0.out (qb1 HB.out GE110.out)) | (with_reducible refine Kd.C_alloc ?_ _) | (with_reducible refine Kd.C_drewN ?_ _) | (with_reducible refine Kd.C_drew ?_))); (case side2=>exact HC0_0.out); rintro e w' ⟨rfl,⟨nd,rfl⟩⟩; (try first | exact⟨rfl,_,World.drewN_drewN _ _ _⟩ | exact⟨rfl,_,Eq.trans (World.drewN_drewN _ _ _) (congrArg (World.drewN _) (Nat.add_assoc _ _ _))⟩))))
   go_ret
   exact⟨by first | rfl | (simp [zbx,zbw]<;>rfl) | (simp [*,zbx,zbw]<;>rfl),by repeat (first | (with_reducible first | exact HB.out | apply zbn | apply zbo | apply zbs | refine zbB ?_ GE110.out) | exact HB.out)⟩
 ·
  rw [if_neg c3] at H
  have c3b0:(t111 == 0)=false:=beq_eq_false_iff_ne.mpr c3
  have c3b1:(t111 != 0)=true:=bne_iff_ne.mpr c3
  obtain rfl:=Option.some.inj H
  go_enter Tryz.func84,Tryz.ntmps84
  go_wp2_with (first | ((with_reducible refine zbD (N:=1) rfl ?_); refine zbC ?hg (N:=1) ?hd (cs:=#[.slice A0_0 l0_0.length c0_0,.slice A0_1 l0_1.length c0_1]) (t:=30) ?hr ?_; (case hd=>rfl); (case hg=>rfl); (case hr=>first | (go_simp; done) | (go_simp; rfl)); intro gb110 hg w10 hbox hb; have n0_:=Aside0.mk (zbm (qb HB.out) hb); have n1_:=Aside0.mk (hbox); have n2_:=Aside0.mk ((by rw [hg]; exact(zbp (qb HB.out)):w.heap.size≤gb110)); have n3_:=Aside0.mk ((by rw [hg]; exact(zbp (qb HB.out)):w.heap.size≤gb110)); clear HB; have HB:=n0_; have BK110:=n1_; have GW110:=n2_; have GE110:=n3_; clear n0_ n1_ n2_ n3_; clear hb hbox hg; have hcz11_0:w10.cell? ⟨gb110,0,none⟩=some (.slice A0_0 l0_0.length c0_0):=(zbq BK110.out 0).trans rfl; have hcz11_1:w10.cell? ⟨gb110,1,none⟩=some (.slice A0_1 l0_1.length c0_1):=(zbq BK110.out 1).trans rfl; have hfz11_0:=zbA BK110.out 0; have hfz11_1:=zbA BK110.out 1) | (go_at_call 67; (with_reducible refine(shape_May.calls k _ _ l0_0 t111 _ ?side1 ?side2 A2.out).mono ?_); (case side1=>exact qc (Kd.C_below HR0_0.out HB.out)); (case side2=>exact HC0_0.out); rintro e w' ⟨rfl,⟨nd,rfl⟩⟩; (try first | exact⟨rfl,_,World.drewN_drewN _ _ _⟩ | exact⟨rfl,_,Eq.trans (World.drewN_drewN _ _ _) (congrArg (World.drewN _) (Nat.add_assoc _ _ _))⟩)))
  repeat (go_quiet (first | ((with_reducible refine zbD (N:=1) rfl ?_); refine zbC ?hg (N:=1) ?hd (cs:=#[.slice A0_0 l0_0.length c0_0,.slice A0_1 l0_1.length c0_1]) (t:=30) ?hr ?_; (case hd=>rfl); (case hg=>rfl); (case hr=>first | (go_simp; done) | (go_simp; rfl)); intro gb110 hg w10 hbox hb; have n0_:=Aside0.mk (zbm (qb HB.out) hb); have n1_:=Aside0.mk (hbox); have n2_:=Aside0.mk ((by rw [hg]; exact(zbp (qb HB.out)):w.heap.size≤gb110)); have n3_:=Aside0.mk ((by rw [hg]; exact(zbp (qb HB.out)):w.heap.size≤gb110)); clear HB; have HB:=n0_; have BK110:=n1_; have GW110:=n2_; have GE110:=n3_; clear n0_ n1_ n2_ n3_; clear hb hbox hg; have hcz11_0:w10.cell? ⟨gb110,0,none⟩=some (.slice A0_0 l0_0.length c0_0):=(zbq BK110.out 0).trans rfl; have hcz11_1:w10.cell? ⟨gb110,1,none⟩=some (.slice A0_1 l0_1.length c0_1):=(zbq BK110.out 1).trans rfl; have hfz11_0:=zbA BK110.out 0; have hfz11_1:=zbA BK110.out 1) | (go_at_call 67; (with_reducible refine(shape_May.calls k _ _ l0_0 t111 _ ?side1 ?side2 A2.out).mono ?_); (case side1=>exact qc (Kd.C_below HR0_0.out HB.out)); (case side2=>exact HC0_0.out); rintro e w' ⟨rfl,⟨nd,rfl⟩⟩; (try first | exact⟨rfl,_,World.drewN_drewN _ _ _⟩ | exact⟨rfl,_,Eq.trans (World.drewN_drewN _ _ _) (congrArg (World.drewN _) (Nat.add_assoc _ _ _))⟩))); try go_wp2_with (first | ((with_reducible refine zbD (N:=1) rfl ?_); refine zbC ?hg (N:=1) ?hd (cs:=#[.slice A0_0 l0_0.length c0_0,.slice A0_1 l0_1.length c0_1]) (t:=30) ?hr ?_; (case hd=>rfl); (case hg=>rfl); (case hr=>first | (go_simp; done) | (go_simp; rfl)); intro gb110 hg w10 hbox hb; have n0_:=Aside0.mk (zbm (qb HB.out) hb); have n1_:=Aside0.mk (hbox); have n2_:=Aside0.mk ((by rw [hg]; exact(zbp (qb HB.out)):w.heap.size≤gb110)); have n3_:=Aside0.mk ((by rw [hg]; exact(zbp (qb HB.out)):w.heap.size≤gb110)); clear HB; have HB:=n0_; have BK110:=n1_; have GW110:=n2_; have GE110:=n3_; clear n0_ n1_ n2_ n3_; clear hb hbox hg; have hcz11_0:w10.cell? ⟨gb110,0,none⟩=some (.slice A0_0 l0_0.length c0_0):=(zbq BK110.out 0).trans rfl; have hcz11_1:w10.cell? ⟨gb110,1,none⟩=some (.slice A0_1 l0_1.length c0_1):=(zbq BK110.out 1).trans rfl; have hfz11_0:=zbA BK110.out 0; have hfz11_1:=zbA BK110.out 1) | (go_at_call 67; (with_reducible refine(shape_May.calls k _ _ l0_0 t111 _ ?side1 ?side2 A2.out).mono ?_); (case side1=>exact qc (Kd.C_below HR0_0.out HB.out)); (case side2=>exact HC0_0.out); rintro e w' ⟨rfl,⟨nd,rfl⟩⟩; (try first | exact⟨rfl,_,World.drewN_drewN _ _ _⟩ | exact⟨rfl,_,Eq.trans (World.drewN_drewN _ _ _) (congrArg (World.drewN _) (Nat.add_assoc _ _ _))⟩))))
  go_ret
  exact⟨by first | rfl | (simp [zbx,zbw]<;>rfl) | (simp [*,zbx,zbw]<;>rfl),by repeat (first | (with_reducible first | exact HB.out | apply zbn | apply zbo | apply zbs | refine zbB ?_ GE110.out) | exact HB.out)⟩
mutual
def fluxionref06_May.l0:Nat→List Int→Int→Option (Int)
 | 0,_,_=>none
 | k+1,x0,x3=>if x3 < (x0.length:Int) then (if 0≤x3 then (if (rd x0 x3) < 1 then (some 13) else (fluxionref06_May.l0 k x0 (wrap64 (x3+1)))) else (none)) else (fluxionref06_May.l1 k x0 1 0)
def fluxionref06_May.l1:Nat→List Int→Int→Int→Option (Int)
 | 0,_,_,_=>none
 | k+1,x0,x4,x5=>if x5 < (x0.length:Int) then (if 0≤x5 then (if (rd x0 x5) > 1024 then (some 14) else (if (wrap64 (x4*(rd x0 x5))) > 1024 then (some 14) else (fluxionref06_May.l1 k x0 (wrap64 (x4*(rd x0 x5))) (wrap64 (x5+1))))) else (none)) else (some 0)
end
def fluxionref06_May.f (k:Nat) (l0:List Int):Option (Int):=if (l0.length:Int) > 4 then (some 14) else (fluxionref06_May.l0 k l0 0)
theorem fluxionref06_May.calls (k:Nat) (A0:Option Addr) (c0:Nat) (l0:List Int) (r:Int) (w:World) (hr0:Kd.C (Kd.int .i64) w A0 l0.length l0) (hc0:l0.length≤c0) (h:fluxionref06_May.f k l0=some r) :
  Calls Tryz.prog 24 #[.slice A0 l0.length c0] w fun e w'=>e=.returned (.int .i64 r)∧Drawn0 w w':=by
 have HR0:=Aside0.mk hr0
 have HC0:=Aside0.mk hc0
 clear hr0 hc0
 have H:(if (l0.length:Int) > 4 then (some 14) else (fluxionref06_May.l0 k l0 0))=some r:=h
 clear h
 by_cases c2:(l0.length:Int) > 4
 ·
  rw [if_pos c2] at H
  have c2b0:decide (4 < (l0.length:Int))=true:=decide_eq_true c2
  have c2b1:decide (4 < l0.length)=true:=decide_eq_true (by omega)
  clear c2
  obtain rfl:=Option.some.inj H
  go_enter Tryz.func24,Tryz.ntmps24
  go_wp2
  go_ret
  exact⟨by first | rfl | (simp; done) | (simp [*]; done),by repeat (first | exact Drawn0.refl _ | apply Drawn0.step)⟩
 ·
  rw [if_neg c2] at H
  have c2b0:decide (4 < (l0.length:Int))=false:=decide_eq_false c2
  have c2b1:decide (4 < l0.length)=false:=decide_eq_false (by omega)
  clear c2
  have H':=Aside0.mk H
  clear H
  go_enter Tryz.func24,Tryz.ntmps24
  go_wp2
  go_loopg [3] k (fun kq v3 w'=>∃ (x3_1:Int),v3=.int .i64 x3_1∧Aside0 (fluxionref06_May.l0 kq l0 x3_1=some r)∧Aside0 (kq≤k)∧Drawn0 w w')
  case atStart=>exact⟨(0),(by first | rfl | (simp; done) | (simp [*]; done)),H',⟨Nat.le_refl _⟩,by repeat (first | exact Drawn0.refl _ | apply Drawn0.step)⟩
  case round =>
   clear H'
   try clear c2
   try clear c2b0
   try clear c2b1
   try clear p2
   obtain⟨x3_1,rfl,HA,HK1,⟨m1,rfl⟩⟩:=hrel
   cases gk with
   | zero=>exact absurd HA.out (by simp [fluxionref06_May.l0])
   | succ k1 =>
    have H:=HA.out
    clear HA
    simp only [fluxionref06_May.l0] at H
    by_cases c3:x3_1 < (l0.length:Int)
    ·
     rw [if_pos c3] at H
     have c3b0:decide (x3_1 < (l0.length:Int))=true:=decide_eq_true c3
     clear c3
     by_cases c4:0≤x3_1
     ·
      rw [if_pos c4] at H
      have c4b0:decide (0≤x3_1)=true:=decide_eq_true c4
      clear c4
      by_cases c5:(rd l0 x3_1) < 1
      ·
       rw [if_pos c5] at H
       have c5b0:decide ((rd l0 x3_1) < 1)=true:=decide_eq_true c5
       clear c5
       obtain rfl:=Option.some.inj H
       have p113:0≤(x3_1:Int):=of_decide_eq_true qs
       have q113:x3_1 < (l0.length:Int):=of_decide_eq_true qs
       obtain⟨ad113,e113,hx113_0⟩:=Kd.at_int HR0.out x3_1 p113 q113
       cases e113
       replace p113:=eq_true p113
       replace q113:=eq_true q113
       go_wp2
       go_ret
       exact⟨by first | rfl | (simp; done) | (simp [*]; done),by repeat (first | exact Drawn0.refl _ | apply Drawn0.step)⟩
      ·
       rw [if_neg c5] at H
       have c5b0:decide ((rd l0 x3_1) < 1)=false:=decide_eq_false c5
       clear c5
       have H':=Aside0.mk H
       clear H
       have p113:0≤(x3_1:Int):=of_decide_eq_true qs
       have q113:x3_1 < (l0.length:Int):=of_decide_eq_true qs
       obtain⟨ad113,e113,hx113_0⟩:=Kd.at_int HR0.out x3_1 p113 q113
       cases e113
       replace p113:=eq_true p113
       replace q113:=eq_true q113
       go_wp2
       go_roundg k1
       case measure=>have:=HK1.out; omega
       case rel=>exact⟨(wrap64 (x3_1+1)),(by first | rfl | (simp; done) | (simp [*]; done)),H',⟨by have:=HK1.out; omega⟩,by repeat (first | exact Drawn0.refl _ | apply Drawn0.step)⟩
     ·
      rw [if_neg c4] at H
      exact absurd H (by simp)
    ·
     rw [if_neg c3] at H
     have c3b0:decide (x3_1 < (l0.length:Int))=false:=decide_eq_false c3
     clear c3
     have H':=Aside0.mk H
     clear H
     go_wp2
     go_loopg [4,5] k1 (fun kq v4 v5 w'=>∃ (x4_2:Int) (x5_2:Int),v4=.int .i64 x4_2∧v5=.int .i64 x5_2∧Aside0 (fluxionref06_May.l1 kq l0 x4_2 x5_2=some r)∧Aside0 (kq≤k1)∧Drawn0 w w')
     case atStart=>exact⟨(1),(0),(by first | rfl | (simp; done) | (simp [*]; done)),(by first | rfl | (simp; done) | (simp [*]; done)),H',⟨Nat.le_refl _⟩,by repeat (first | exact Drawn0.refl _ | apply Drawn0.step)⟩
     case round =>
      clear H'
      try clear p1
      try clear q1
      try clear hx1
      try clear c2
      try clear c2b0
      try clear c2b1
      try clear p2
      try clear c3
      try clear c3b0
      try clear c4
      try clear c4b0
      try clear c5
      try clear c5b0
      try clear hx113_0
      try clear p113
      try clear p2
      try clear q113
      obtain⟨x4_2,x5_2,rfl,rfl,HA,HK2,⟨m2,rfl⟩⟩:=hrel
      cases gk with
      | zero=>exact absurd HA.out (by simp [fluxionref06_May.l1])
      | succ k2 =>
       have H:=HA.out
       clear HA
       simp only [fluxionref06_May.l1] at H
       by_cases c6:x5_2 < (l0.length:Int)
       ·
        rw [if_pos c6] at H
        have c6b0:decide (x5_2 < (l0.length:Int))=true:=decide_eq_true c6
        clear c6
        by_cases c7:0≤x5_2
        ·
         rw [if_pos c7] at H
         have c7b0:decide (0≤x5_2)=true:=decide_eq_true c7
         clear c7
         by_cases c8:(rd l0 x5_2) > 1024
         ·
          rw [if_pos c8] at H
          have c8b0:decide (1024 < (rd l0 x5_2))=true:=decide_eq_true c8
          clear c8
          obtain rfl:=Option.some.inj H
          have p114:0≤(x5_2:Int):=of_decide_eq_true qs
          have q114:x5_2 < (l0.length:Int):=of_decide_eq_true qs
          obtain⟨ad114,e114,hx114_0⟩:=Kd.at_int HR0.out x5_2 p114 q114
          cases e114
          replace p114:=eq_true p114
          replace q114:=eq_true q114
          go_wp2
          go_ret
          exact⟨by first | rfl | (simp; done) | (simp [*]; done),by repeat (first | exact Drawn0.refl _ | apply Drawn0.step)⟩
         ·
          rw [if_neg c8] at H
          have c8b0:decide (1024 < (rd l0 x5_2))=false:=decide_eq_false c8
          clear c8
          by_cases c9:(wrap64 (x4_2*(rd l0 x5_2))) > 1024
          ·
           rw [if_pos c9] at H
           have c9b0:decide (1024 < (wrap64 (x4_2*(rd l0 x5_2))))=true:=decide_eq_true c9
           clear c9
           obtain rfl:=Option.some.inj H
           have p114:0≤(x5_2:Int):=of_decide_eq_true qs
           have q114:x5_2 < (l0.length:Int):=of_decide_eq_true qs
           obtain⟨ad114,e114,hx114_0⟩:=Kd.at_int HR0.out x5_2 p114 q114
           cases e114
           replace p114:=eq_true p114
           replace q114:=eq_true q114
           have p115:0≤(x5_2:Int):=of_decide_eq_true qs
           have q115:x5_2 < (l0.length:Int):=of_decide_eq_true qs
           obtain⟨ad115,e115,hx115_0⟩:=Kd.at_int HR0.out x5_2 p115 q115
           obtain rfl:ad114=ad115:=(by injection e115)
           replace p115:=eq_true p115
           replace q115:=eq_true q115
           go_wp2
           go_ret
           exact⟨by first | rfl | (simp; done) | (simp [*]; done),by repeat (first | exact Drawn0.refl _ | apply Drawn0.step)⟩
          ·
           rw [if_neg c9] at H
           have c9b0:decide (1024 < (wrap64 (x4_2*(rd l0 x5_2))))=false:=decide_eq_false c9
           clear c9
           have H':=Aside0.mk H
           clear H
           have p114:0≤(x5_2:Int):=of_decide_eq_true qs
           have q114:x5_2 < (l0.length:Int):=of_decide_eq_true qs
           obtain⟨ad114,e114,hx114_0⟩:=Kd.at_int HR0.out x5_2 p114 q114
           cases e114
           replace p114:=eq_true p114
           replace q114:=eq_true q114
           have p115:0≤(x5_2:Int):=of_decide_eq_true qs
           have q115:x5_2 < (l0.length:Int):=of_decide_eq_true qs
           obtain⟨ad115,e115,hx115_0⟩:=Kd.at_int HR0.out x5_2 p115 q115
           obtain rfl:ad114=ad115:=(by injection e115)
           replace p115:=eq_true p115
           replace q115:=eq_true q115
           go_wp2
           go_roundg k2
           case measure=>have:=HK1.out; have:=HK2.out; omega
           case rel=>exact⟨(wrap64 (x4_2*(rd l0 x5_2))),(wrap64 (x5_2+1)),(by first | rfl | (simp; done) | (simp [*]; done)),(by first | rfl | (simp; done) | (simp [*]; done)),H',⟨by have:=HK1.out; have:=HK2.out; omega⟩,by repeat (first | exact Drawn0.refl _ | apply Drawn0.step)⟩
        ·
         rw [if_neg c7] at H
         exact absurd H (by simp)
       ·
        rw [if_neg c6] at H
        have c6b0:decide (x5_2 < (l0.length:Int))=false:=decide_eq_false c6
        clear c6
        obtain rfl:=Option.some.inj H
        go_wp2
        go_ret
        exact⟨by first | rfl | (simp; done) | (simp [*]; done),by repeat (first | exact Drawn0.refl _ | apply Drawn0.step)⟩
def fluxionref06_Count.l0:Nat→List Int→Int→Int→Option (Int)
 | 0,_,_,_=>none
 | k+1,x0,x3,x4=>if x4 < (x0.length:Int) then (if 0≤x4 then (fluxionref06_Count.l0 k x0 (wrap64 (x3*(rd x0 x4))) (wrap64 (x4+1))) else (none)) else (some x3)
def fluxionref06_Count.f (k:Nat) (l0:List Int):Option (Int):=(fluxionref06_May.f k l0).bind fun t116=>(if t116=0 then (fluxionref06_Count.l0 k l0 1 0) else (some 0))
theorem fluxionref06_Count.calls (k:Nat) (A0:Option Addr) (c0:Nat) (l0:List Int) (r:Int) (w:World) (hr0:Kd.C (Kd.int .i64) w A0 l0.length l0) (hc0:l0.length≤c0) (h:fluxionref06_Count.f k l0=some r) :
  Calls Tryz.prog 32 #[.slice A0 l0.length c0] w fun e w'=>e=.returned (.int .i64 r)∧Drawn0 w w':=by
 have HR0:=Aside0.mk hr0
 have HC0:=Aside0.mk hc0
 clear hr0 hc0
 have H:((fluxionref06_May.f k l0).bind fun t116=>(if t116=0 then (fluxionref06_Count.l0 k l0 1 0) else (some 0)))=some r:=h
 clear h
 replace H:=Option.bind_eq_some_iff.mp H
 obtain⟨t116,A20,H⟩:=H
 replace H:(if t116=0 then (fluxionref06_Count.l0 k l0 1 0) else (some 0))=some r:=H
 have A2:=Aside0.mk A20
 clear A20
 by_cases c3:t116=0
 ·
  rw [if_pos c3] at H
  have c3b0:(t116 == 0)=true:=beq_iff_eq.mpr c3
  have c3b1:(t116 != 0)=false:=bne_eq_false_iff_eq.mpr c3
  clear c3
  have H':=Aside0.mk H
  clear H
  go_enter Tryz.func32,Tryz.ntmps32
  go_wp2_with (first | ((with_reducible refine zbz (f:=24) rfl ?_); refine zbK (some 6) rfl rfl Tryz.func24 (by kernel_rfl) rfl #[.slice A0 l0.length c0] rfl (by (try simp only [List.map_toArray,List.map_cons,List.map_nil]); first | done | rfl | (simp only [List.length_drop,List.length_take]; rfl)) ?_; (with_reducible refine(fluxionref06_May.calls k _ _ l0 t116 _ ?side1 ?side2 A2.out).mono ?_); (case side1=>exact qc HR0.out); (case side2=>exact HC0.out); rintro e w' ⟨rfl,⟨nd,rfl⟩⟩; refine⟨_,rfl,?_⟩))
  go_loopg [3,4] k (fun kq v3 v4 w'=>∃ (x3_1:Int) (x4_1:Int),v3=.int .i64 x3_1∧v4=.int .i64 x4_1∧Aside0 (fluxionref06_Count.l0 kq l0 x3_1 x4_1=some r)∧Aside0 (kq≤k)∧Drawn0 w w')
  case atStart=>exact⟨(1),(0),(by first | rfl | (simp; done) | (simp [*]; done)),(by first | rfl | (simp; done) | (simp [*]; done)),H',⟨Nat.le_refl _⟩,by repeat (first | exact Drawn0.refl _ | apply Drawn0.step)⟩
  case round =>
   clear H'
   try clear c2
   try clear p2
   try clear c3
   try clear c3b0
   try clear c3b1
   obtain⟨x3_1,x4_1,rfl,rfl,HA,HK1,⟨m1,rfl⟩⟩:=hrel
   cases gk with
   | zero=>exact absurd HA.out (by simp [fluxionref06_Count.l0])
   | succ k1 =>
    have H:=HA.out
    clear HA
    simp only [fluxionref06_Count.l0] at H
    by_cases c4:x4_1 < (l0.length:Int)
    ·
     rw [if_pos c4] at H
     have c4b0:decide (x4_1 < (l0.length:Int))=true:=decide_eq_true c4
     clear c4
     by_cases c5:0≤x4_1
     ·
      rw [if_pos c5] at H
      have c5b0:decide (0≤x4_1)=true:=decide_eq_true c5
      clear c5
      have H':=Aside0.mk H
      clear H
      have p117:0≤(x4_1:Int):=of_decide_eq_true qs
      have q117:x4_1 < (l0.length:Int):=of_decide_eq_true qs
      obtain⟨ad117,e117,hx117_0⟩:=Kd.at_int HR0.out x4_1 p117 q117
      cases e117
      replace p117:=eq_true p117
      replace q117:=eq_true q117
      go_wp2
      go_roundg k1
      case measure=>have:=HK1.out; omega
      case rel=>exact⟨(wrap64 (x3_1*(rd l0 x4_1))),(wrap64 (x4_1+1)),(by first | rfl | (simp; done) | (simp [*]; done)),(by first | rfl | (simp; done) | (simp [*]; done)),H',⟨by have:=HK1.out; omega⟩,by repeat (first | exact Drawn0.refl _ | apply Drawn0.step)⟩
     ·
      rw [if_neg c5] at H
      exact absurd H (by simp)
    ·
     rw [if_neg c4] at H
     have c4b0:decide (x4_1 < (l0.length:Int))=false:=decide_eq_false c4
     clear c4
     obtain rfl:=Option.some.inj H
     go_wp2
     go_ret
     exact⟨by first | rfl | (simp; done) | (simp [*]; done),by repeat (first | exact Drawn0.refl _ | apply Drawn0.step)⟩
 ·
  rw [if_neg c3] at H
  have c3b0:(t116 == 0)=false:=beq_eq_false_iff_ne.mpr c3
  have c3b1:(t116 != 0)=true:=bne_iff_ne.mpr c3
  obtain rfl:=Option.some.inj H
  go_enter Tryz.func32,Tryz.ntmps32
  go_wp2_with (first | ((with_reducible refine zbz (f:=24) rfl ?_); refine zbK (some 6) rfl rfl Tryz.func24 (by kernel_rfl) rfl #[.slice A0 l0.length c0] rfl (by (try simp only [List.map_toArray,List.map_cons,List.map_nil]); first | done | rfl | (simp only [List.length_drop,List.length_take]; rfl)) ?_; (with_reducible refine(fluxionref06_May.calls k _ _ l0 t116 _ ?side1 ?side2 A2.out).mono ?_); (case side1=>exact qc HR0.out); (case side2=>exact HC0.out); rintro e w' ⟨rfl,⟨nd,rfl⟩⟩; refine⟨_,rfl,?_⟩))
  go_ret
  exact⟨by first | rfl | (simp; done) | (simp [*]; done),by repeat (first | exact Drawn0.refl _ | apply Drawn0.step)⟩
end Go.Proofs.YtehghijlchpeaaaGreat.M
end
end
section
noncomputable section
namespace Go.Proofs.YtehghijlchpeaaaGreat.M
open Go.RowKit YtehghijlchpeaaaGreat.H YtehghijlchpeaaaGreat.J YtehghijlchpeaaaGreat.L YtehghijlchpeaaaGreat.Nat1 YtehghijlchpeaaaGreatW.PrintWords YtehghijlchpeaaaGreatW.PrintLast YtehghijlchpeaaaGreatW.PrintMore
attribute [local go_sem] zbX zbZ zb2 zb1 zbQ zbR zbW zbY   -- for this text's walks alone
def fluxionref07_SameShape.l0:Nat→List Int→List Int→Int→Option (Bool)
 | 0,_,_,_=>none
 | k+1,x0,x1,x5=>if x5 < (x0.length:Int) then (if 0≤x5 then (if x5 < (x1.length:Int) then (if (rd x0 x5)=(rd x1 x5) then (fluxionref07_SameShape.l0 k x0 x1 (wrap64 (x5+1))) else (some false)) else (none)) else (none)) else (some true)
def fluxionref07_SameShape.f (k:Nat) (l0:List Int) (l1:List Int):Option (Bool):=if (l0.length:Int)=(l1.length:Int) then (fluxionref07_SameShape.l0 k l0 l1 0) else (some false)
theorem fluxionref07_SameShape.calls (k:Nat) (A0:Option Addr) (c0:Nat) (l0:List Int) (A1:Option Addr) (c1:Nat) (l1:List Int) (r:Bool) (w:World) (hr0:Kd.C (Kd.int .i64) w A0 l0.length l0) (hc0:l0.length≤c0) (hr1:Kd.C (Kd.int .i64) w A1 l1.length l1) (hc1:l1.length≤c1) (h:fluxionref07_SameShape.f k l0 l1=some r) :
  Calls Tryz.prog 38 #[.slice A0 l0.length c0,.slice A1 l1.length c1] w fun e w'=>e=.returned (.bool r)∧Drawn0 w w':=by
 have HR0:=Aside0.mk hr0
 have HC0:=Aside0.mk hc0
 clear hr0 hc0
 have HR1:=Aside0.mk hr1
 have HC1:=Aside0.mk hc1
 clear hr1 hc1
 have H:(if (l0.length:Int)=(l1.length:Int) then (fluxionref07_SameShape.l0 k l0 l1 0) else (some false))=some r:=h
 clear h
 by_cases c3:(l0.length:Int)=(l1.length:Int)
 ·
  rw [if_pos c3] at H
  have c3b0:((l0.length:Int) == (l1.length:Int))=true:=beq_iff_eq.mpr c3
  have c3b1:((l0.length:Int) != (l1.length:Int))=false:=bne_eq_false_iff_eq.mpr c3
  have c3b2:(l0.length == l1.length)=true:=by first | simpa using c3 | (simp at c3 ⊢; omega)
  clear c3
  have H':=Aside0.mk H
  clear H
  go_enter Tryz.func38,Tryz.ntmps38
  go_wp2
  repeat (go_quiet (fail); try go_wp2)
  go_loopg [5] k (fun kq v5 w'=>∃ (x5_1:Int),v5=.int .i64 x5_1∧Aside0 (fluxionref07_SameShape.l0 kq l0 l1 x5_1=some r)∧Aside0 (kq≤k)∧Drawn0 w w')
  case atStart=>exact⟨(0),(by first | rfl | (simp; done) | (simp [*]; done)),H',⟨Nat.le_refl _⟩,by repeat (first | exact Drawn0.refl _ | apply Drawn0.step)⟩
  case round =>
   clear H'
   try clear c1
   try clear p2
   try clear c3
   try clear c3b0
   try clear c3b1
   try clear c3b2
   obtain⟨x5_1,rfl,HA,HK1,⟨m1,rfl⟩⟩:=hrel
   cases gk with
   | zero=>exact absurd HA.out (by simp [fluxionref07_SameShape.l0])
   | succ k1 =>
    have H:=HA.out
    clear HA
    simp only [fluxionref07_SameShape.l0] at H
    by_cases c4:x5_1 < (l0.length:Int)
    ·
     rw [if_pos c4] at H
     have c4b0:decide (x5_1 < (l0.length:Int))=true:=decide_eq_true c4
     clear c4
     by_cases c5:0≤x5_1
     ·
      rw [if_pos c5] at H
      have c5b0:decide (0≤x5_1)=true:=decide_eq_true c5
      clear c5
      by_cases c6:x5_1 < (l1.length:Int)
      ·
       rw [if_pos c6] at H
       have c6b0:decide (x5_1 < (l1.length:Int))=true:=decide_eq_true c6
       clear c6
       by_cases c7:(rd l0 x5_1)=(rd l1 x5_1)
       ·
        rw [if_pos c7] at H
        have c7b0:((rd l0 x5_1) == (rd l1 x5_1))=true:=beq_iff_eq.mpr c7
        have c7b1:((rd l0 x5_1) != (rd l1 x5_1))=false:=bne_eq_false_iff_eq.mpr c7
        clear c7
        have H':=Aside0.mk H
        clear H
        have p118:0≤(x5_1:Int):=of_decide_eq_true qs
        have q118:x5_1 < (l0.length:Int):=of_decide_eq_true qs
        obtain⟨ad118,e118,hx118_0⟩:=Kd.at_int HR0.out x5_1 p118 q118
        cases e118
        replace p118:=eq_true p118
        replace q118:=eq_true q118
        have p119:0≤(x5_1:Int):=of_decide_eq_true qs
        have q119:x5_1 < (l1.length:Int):=of_decide_eq_true qs
        obtain⟨ad119,e119,hx119_0⟩:=Kd.at_int HR1.out x5_1 p119 q119
        cases e119
        replace p119:=eq_true p119
        replace q119:=eq_true q119
        go_wp2
        repeat (go_quiet (fail); try go_wp2)
        go_roundg k1
        case measure=>have:=HK1.out; omega
        case rel=>exact⟨(wrap64 (x5_1+1)),(by first | rfl | (simp; done) | (simp [*]; done)),H',⟨by have:=HK1.out; omega⟩,by repeat (first | exact Drawn0.refl _ | apply Drawn0.step)⟩
       ·
        rw [if_neg c7] at H
        have c7b0:((rd l0 x5_1) == (rd l1 x5_1))=false:=beq_eq_false_iff_ne.mpr c7
        have c7b1:((rd l0 x5_1) != (rd l1 x5_1))=true:=bne_iff_ne.mpr c7
        obtain rfl:=Option.some.inj H
        have p118:0≤(x5_1:Int):=of_decide_eq_true qs
        have q118:x5_1 < (l0.length:Int):=of_decide_eq_true qs
        obtain⟨ad118,e118,hx118_0⟩:=Kd.at_int HR0.out x5_1 p118 q118
        cases e118
        replace p118:=eq_true p118
        replace q118:=eq_true q118
        have p119:0≤(x5_1:Int):=of_decide_eq_true qs
        have q119:x5_1 < (l1.length:Int):=of_decide_eq_true qs
        obtain⟨ad119,e119,hx119_0⟩:=Kd.at_int HR1.out x5_1 p119 q119
        cases e119
        replace p119:=eq_true p119
        replace q119:=eq_true q119
        go_wp2
        repeat (go_quiet (fail); try go_wp2)
        go_ret
        exact⟨by first | rfl | (simp; done) | (simp [*]; done),by repeat (first | exact Drawn0.refl _ | apply Drawn0.step)⟩
      ·
       rw [if_neg c6] at H
       exact absurd H (by simp)
     ·
      rw [if_neg c5] at H
      exact absurd H (by simp)
    ·
     rw [if_neg c4] at H
     have c4b0:decide (x5_1 < (l0.length:Int))=false:=decide_eq_false c4
     clear c4
     obtain rfl:=Option.some.inj H
     go_wp2
     repeat (go_quiet (fail); try go_wp2)
     go_ret
     exact⟨by first | rfl | (simp; done) | (simp [*]; done),by repeat (first | exact Drawn0.refl _ | apply Drawn0.step)⟩
 ·
  rw [if_neg c3] at H
  have c3b0:((l0.length:Int) == (l1.length:Int))=false:=beq_eq_false_iff_ne.mpr c3
  have c3b1:((l0.length:Int) != (l1.length:Int))=true:=bne_iff_ne.mpr c3
  have c3b2:(l0.length == l1.length)=false:=by first | simpa using c3 | (simp at c3 ⊢; omega)
  obtain rfl:=Option.some.inj H
  go_enter Tryz.func38,Tryz.ntmps38
  go_wp2
  repeat (go_quiet (fail); try go_wp2)
  go_ret
  exact⟨by first | rfl | (simp; done) | (simp [*]; done),by repeat (first | exact Drawn0.refl _ | apply Drawn0.step)⟩
def fluxionref01_trim.l0:Nat→List Int→Int→Option (List Int)
 | 0,_,_=>none
 | k+1,x0,x3=>if x3 > 0 then (if 0≤(wrap64 (x3-1)) then (if (wrap64 (x3-1)) < (x0.length:Int) then (if (rd x0 (wrap64 (x3-1)))=0 then (fluxionref01_trim.l0 k x0 (wrap64 (x3-1))) else (if 0≤x3 then (if x3≤(x0.length:Int) then (some (x0.take (x3:Int).toNat)) else (none)) else (none))) else (none)) else (none)) else (if 0≤x3 then (if x3≤(x0.length:Int) then (some (x0.take (x3:Int).toNat)) else (none)) else (none))
def fluxionref01_trim.f (k:Nat) (l0:List Int):Option (List Int):=fluxionref01_trim.l0 k l0 (l0.length:Int)
theorem fluxionref01_trim.calls (k:Nat) (P0_:Nat→Prop) (u9000_:Value) (l0:List Int) (r:List Int) (w0 w:World) (hB:Below w0.heap.size w0 w) (ho0:Kd.R (Kd.int .i64) 3 w w0.heap.size P0_ u9000_ l0) (h:fluxionref01_trim.f k l0=some r) :
  Calls Tryz.prog 155 #[u9000_] w fun e w'=>∃ v0_:Value,e=.returned (v0_)∧Kd.R (Kd.int .i64) 3 w' w0.heap.size (fun k_=>(P0_ k_∨w.heap.size≤k_)) v0_ r∧Below w0.heap.size w0 w'∧zcn w w' (fun k_=>P0_ k_):=by
 have HO0:=Aside0.mk (show Kd.R (Kd.int .i64) 3 w w0.heap.size (fun k_=>(P0_ k_∨w.heap.size≤k_)) u9000_ l0 from Kd.R_mono ho0 (fun k_ hk=>(.inl hk)))
 have HK:=Aside0.mk (zcn.refl w (fun k_=>P0_ k_))
 have HW0:=Aside0.mk hB.size
 have HB:=Aside0.mk hB
 clear hB
 have H:(fluxionref01_trim.l0 k l0 (l0.length:Int))=some r:=h
 clear h
 have H':=Aside0.mk H
 clear H
 obtain⟨Ao2,co2,eo2⟩:=Kd.R_slice HO0.out
 subst eo2
 go_enter Tryz.func155,Tryz.ntmps155
 go_wp2
 go_loopg [3] k (fun kq v3 w'=>∃ (x3_1:Int),v3=.int .i64 x3_1∧Aside0 (fluxionref01_trim.l0 kq l0 x3_1=some r)∧Aside0 (kq≤k)∧Aside0 (Kd.R (Kd.int .i64) 3 w' w0.heap.size (fun k_=>(P0_ k_∨w.heap.size≤k_)) (.slice Ao2 l0.length co2) l0)∧Aside0 (zcn w w' (fun k_=>P0_ k_))∧Aside0 (Below w0.heap.size w0 w'))
 case atStart=>exact⟨((l0.length:Int)),(by first | rfl | (simp; done) | (simp [*]; done)),H',⟨Nat.le_refl _⟩,⟨by (with_reducible repeat (first | apply Kd.R_alloc | apply Kd.R_drewN | apply Kd.R_drew)); exact HO0.out⟩,⟨by repeat (first | (with_reducible first | exact HK.out | apply zcn.alloc | apply zcn.drewN | apply zcn.drew) | exact HK.out)⟩,⟨by repeat (first | (with_reducible first | exact HB.out | apply zbn | apply zbo | apply zbs) | exact HB.out)⟩⟩
 case round =>
  clear H'
  try clear c1
  try clear p2
  obtain⟨x3_1,rfl,HA,HK1,HO_0,HK,HB⟩:=hrel
  cases gk with
  | zero=>exact absurd HA.out (by simp [fluxionref01_trim.l0])
  | succ k1 =>
   have H:=HA.out
   clear HA
   simp only [fluxionref01_trim.l0] at H
   by_cases c3:x3_1 > 0
   ·
    rw [if_pos c3] at H
    have c3b0:decide (0 < x3_1)=true:=decide_eq_true c3
    clear c3
    obtain⟨ji4,hji4⟩:∃ j_:Int,(wrap64 (x3_1-1))=j_:=⟨_,rfl⟩
    replace H:(if 0≤(ji4) then (if (ji4) < (l0.length:Int) then (if (rd l0 (ji4))=0 then (fluxionref01_trim.l0 k1 l0 ji4) else (if 0≤x3_1 then (if x3_1≤(l0.length:Int) then (some (l0.take (x3_1:Int).toNat)) else (none)) else (none))) else (none)) else (none))=some r:=by first | (rw [hji4] at H; exact H) | (simp only [hji4] at H ⊢; exact H)
    have hji4w:(IntKind.i64.wrap (x3_1-1))=ji4:=(zcb _).trans hji4
    by_cases c5:0≤(ji4)
    ·
     rw [if_pos c5] at H
     have c5b0:decide (0≤(ji4))=true:=decide_eq_true c5
     clear c5
     by_cases c6:(ji4) < (l0.length:Int)
     ·
      rw [if_pos c6] at H
      have c6b0:decide ((ji4) < (l0.length:Int))=true:=decide_eq_true c6
      clear c6
      by_cases c7:(rd l0 (ji4))=0
      ·
       rw [if_pos c7] at H
       have c7b0:((rd l0 (ji4)) == 0)=true:=beq_iff_eq.mpr c7
       have c7b1:((rd l0 (ji4)) != 0)=false:=bne_eq_false_iff_eq.mpr c7
       clear c7
       have H':=Aside0.mk H
       clear H
       have p120:0≤((ji4):Int):=of_decide_eq_true qs
       have q120:(ji4) < (l0.length:Int):=of_decide_eq_true qs
       obtain⟨ad120,e120,hx120_0⟩:=Kd.at_int (Kd.R_reads' HO_0.out).2.2 (ji4) p120 q120
       cases e120
       replace p120:=eq_true p120
       replace q120:=eq_true q120
       go_wp2
       go_roundg k1
       case measure=>have:=HK1.out; omega
       case rel=>exact⟨(ji4),(by first | rfl | (simp; done) | (simp only [← hji4]<;>(first | rfl | simp)) | (simp [*]; done)),H',⟨by have:=HK1.out; omega⟩,⟨by (with_reducible repeat (first | apply Kd.R_alloc | apply Kd.R_drewN | apply Kd.R_drew)); exact HO_0.out⟩,⟨by repeat (first | (with_reducible first | exact HK.out | apply zcn.alloc | apply zcn.drewN | apply zcn.drew) | exact HK.out)⟩,⟨by repeat (first | (with_reducible first | exact HB.out | apply zbn | apply zbo | apply zbs) | exact HB.out)⟩⟩
      ·
       rw [if_neg c7] at H
       have c7b0:((rd l0 (ji4)) == 0)=false:=beq_eq_false_iff_ne.mpr c7
       have c7b1:((rd l0 (ji4)) != 0)=true:=bne_iff_ne.mpr c7
       by_cases c8:0≤x3_1
       ·
        rw [if_pos c8] at H
        have c8b0:=eq_true c8
        have c8b1:decide (0≤x3_1)=true:=decide_eq_true c8
        clear c8
        by_cases c9:x3_1≤(l0.length:Int)
        ·
         rw [if_pos c9] at H
         have c9b0:=eq_true c9
         have c9b1:decide (x3_1≤(l0.length:Int))=true:=decide_eq_true c9
         clear c9
         obtain⟨y121,hy121⟩:∃ y_:List Int,y_=(l0.take (x3_1:Int).toNat):=⟨_,rfl⟩
         replace H:(some y121)=some r:=by first | (rw [hy121]; with_reducible exact H) | (have H2_:=(Option.bind_some _ _).symm.trans H; rw [hy121]; with_reducible exact H2_) | (have H2_:=(Option.bind_some _ _).symm.trans H; with_reducible exact H2_) | with_reducible exact H | (rw [hy121]; exact H) | exact H
         have Ny121:=Aside0.mk hy121
         clear hy121
         obtain rfl:=Option.some.inj H
         have p120:0≤((ji4):Int):=of_decide_eq_true qs
         have q120:(ji4) < (l0.length:Int):=of_decide_eq_true qs
         obtain⟨ad120,e120,hx120_0⟩:=Kd.at_int (Kd.R_reads' HO_0.out).2.2 (ji4) p120 q120
         cases e120
         replace p120:=eq_true p120
         replace q120:=eq_true q120
         have q10:(x3_1:Int)≤((l0.length:Int):Int):=of_decide_eq_true qs
         obtain⟨i010,hi010,_,hsz10,_⟩:=info_parts info3
         have hcut10:=cut_to (P:=Tryz.prog) 38 3 .i64 Tryz.underlying38 hi010 (some ad120) l0.length co2 x3_1 (of_decide_eq_true qs) q10 (Kd.R_reads' HO_0.out).2.1
         have hr10:=Kd.R_take (m:=(x3_1:Int).toNat) HO_0.out (by omega)
         have hy10:y121.length=(x3_1:Int).toNat:=(by rw [Ny121.out,List.length_take]; omega)
         rw [← Ny121.out] at hr10
         rw [← hy10] at hr10 hcut10
         clear hy10 hi010 hsz10 HO_0
         have HO123:=Aside0.mk hr10
         clear hr10
         replace q10:=eq_true q10
         go_wp2
         go_ret
         exact⟨_,by first | rfl | (simp [zbx,zbw]<;>rfl) | (simp only [← hji4]; first | rfl | (simp [zbx,zbw]<;>rfl)) | (simp [*,zbx,zbw]<;>rfl),by (with_reducible repeat (first | apply Kd.R_alloc | apply Kd.R_drewN | apply Kd.R_drew)); exact HO123.out,by repeat (first | (with_reducible first | exact HB.out | apply zbn | apply zbo | apply zbs) | exact HB.out),by repeat (first | (with_reducible first | exact HK.out | apply zcn.alloc | apply zcn.drewN | apply zcn.drew) | exact HK.out)⟩
        ·
         rw [if_neg c9] at H
         exact absurd H (by simp)
       ·
        rw [if_neg c8] at H
        exact absurd H (by simp)
     ·
      rw [if_neg c6] at H
      exact absurd H (by simp)
    ·
     rw [if_neg c5] at H
     exact absurd H (by simp)
   ·
    rw [if_neg c3] at H
    have c3b0:decide (0 < x3_1)=false:=decide_eq_false c3
    clear c3
    by_cases c11:0≤x3_1
    ·
     rw [if_pos c11] at H
     have c11b0:=eq_true c11
     have c11b1:decide (0≤x3_1)=true:=decide_eq_true c11
     clear c11
     by_cases c12:x3_1≤(l0.length:Int)
     ·
      rw [if_pos c12] at H
      have c12b0:=eq_true c12
      have c12b1:decide (x3_1≤(l0.length:Int))=true:=decide_eq_true c12
      clear c12
      obtain⟨y124,hy124⟩:∃ y_:List Int,y_=(l0.take (x3_1:Int).toNat):=⟨_,rfl⟩
      replace H:(some y124)=some r:=by first | (rw [hy124]; with_reducible exact H) | (have H2_:=(Option.bind_some _ _).symm.trans H; rw [hy124]; with_reducible exact H2_) | (have H2_:=(Option.bind_some _ _).symm.trans H; with_reducible exact H2_) | with_reducible exact H | (rw [hy124]; exact H) | exact H
      have Ny124:=Aside0.mk hy124
      clear hy124
      obtain rfl:=Option.some.inj H
      have q13:(x3_1:Int)≤((l0.length:Int):Int):=of_decide_eq_true qs
      obtain⟨i013,hi013,_,hsz13,_⟩:=info_parts info3
      have hcut13:=cut_to (P:=Tryz.prog) 38 3 .i64 Tryz.underlying38 hi013 Ao2 l0.length co2 x3_1 (of_decide_eq_true qs) q13 (Kd.R_reads' HO_0.out).2.1
      have hr13:=Kd.R_take (m:=(x3_1:Int).toNat) HO_0.out (by omega)
      have hy13:y124.length=(x3_1:Int).toNat:=(by rw [Ny124.out,List.length_take]; omega)
      rw [← Ny124.out] at hr13
      rw [← hy13] at hr13 hcut13
      clear hy13 hi013 hsz13 HO_0
      have HO126:=Aside0.mk hr13
      clear hr13
      replace q13:=eq_true q13
      go_wp2
      go_ret
      exact⟨_,by first | rfl | (simp [zbx,zbw]<;>rfl) | (simp [*,zbx,zbw]<;>rfl),by (with_reducible repeat (first | apply Kd.R_alloc | apply Kd.R_drewN | apply Kd.R_drew)); exact HO126.out,by repeat (first | (with_reducible first | exact HB.out | apply zbn | apply zbo | apply zbs) | exact HB.out),by repeat (first | (with_reducible first | exact HK.out | apply zcn.alloc | apply zcn.drewN | apply zcn.drew) | exact HK.out)⟩
     ·
      rw [if_neg c12] at H
      exact absurd H (by simp)
    ·
     rw [if_neg c11] at H
     exact absurd H (by simp)
def fluxionref07_May.l0:Nat→Int→List Int→List (S27)→Option (Int)
 | 0,_,_,_=>none
 | k+1,x4,x128000,x128001=>if x4 < (x128001.length:Int) then (if 0≤x4 then ((fluxionref03_May.f k ((rd_T27 x128001 x4).f0) ((rd_T27 x128001 x4).f1) ((rd_T27 x128001 x4).f2)).bind fun t131=>(if t131=0 then (fluxionref07_May.l0 k (wrap64 (x4+1)) x128000 x128001) else (some 6))) else (none)) else (some 0)
def fluxionref07_May.f (k:Nat) (l0_0:List Int) (l0_1:List (S27)):Option (Int):=(fluxionref06_May.f k l0_0).bind fun t128=>(if t128=0 then ((fluxionref06_Count.f k l0_0).bind fun t129=>(if (l0_1.length:Int)=t129 then (fluxionref07_May.l0 k 0 l0_0 l0_1) else (some 13))) else (some t128))
theorem fluxionref07_May.calls (k:Nat) (A0_0:Option Addr) (c0_0:Nat) (l0_0:List Int) (A0_1:Option Addr) (c0_1:Nat) (l0_1:List (S27)) (r:Int) (w:World) (hr0_0:Kd.C (Kd.int .i64) w A0_0 l0_0.length l0_0) (hc0_0:l0_0.length≤c0_0) (hr0_1:Kd.C k27 w A0_1 l0_1.length l0_1) (hc0_1:l0_1.length≤c0_1) (h:fluxionref07_May.f k l0_0 l0_1=some r) :
  Calls Tryz.prog 28 #[.agg #[.slice A0_0 l0_0.length c0_0,.slice A0_1 l0_1.length c0_1]] w fun e w'=>e=.returned (.int .i64 r)∧Below w.heap.size w w':=by
 have hu30:=Tryz.underlying30
 have hu27:=Tryz.underlying27
 have HR0_0:=Aside0.mk hr0_0
 have HC0_0:=Aside0.mk hc0_0
 clear hr0_0 hc0_0
 have HR0_1:=Aside0.mk hr0_1
 have HC0_1:=Aside0.mk hc0_1
 clear hr0_1 hc0_1
 have HB:=Aside0.mk (Below.refl w.heap.size w)
 have H:((fluxionref06_May.f k l0_0).bind fun t128=>(if t128=0 then ((fluxionref06_Count.f k l0_0).bind fun t129=>(if (l0_1.length:Int)=t129 then (fluxionref07_May.l0 k 0 l0_0 l0_1) else (some 13))) else (some t128)))=some r:=h
 clear h
 replace H:=Option.bind_eq_some_iff.mp H
 obtain⟨t128,A20,H⟩:=H
 replace H:(if t128=0 then ((fluxionref06_Count.f k l0_0).bind fun t129=>(if (l0_1.length:Int)=t129 then (fluxionref07_May.l0 k 0 l0_0 l0_1) else (some 13))) else (some t128))=some r:=H
 have A2:=Aside0.mk A20
 clear A20
 by_cases c3:t128=0
 ·
  rw [if_pos c3] at H
  have c3b0:(t128 == 0)=true:=beq_iff_eq.mpr c3
  have c3b1:(t128 != 0)=false:=bne_eq_false_iff_eq.mpr c3
  clear c3
  replace H:=Option.bind_eq_some_iff.mp H
  obtain⟨t129,A40,H⟩:=H
  replace H:(if (l0_1.length:Int)=t129 then (fluxionref07_May.l0 k 0 l0_0 l0_1) else (some 13))=some r:=H
  have A4:=Aside0.mk A40
  clear A40
  by_cases c5:(l0_1.length:Int)=t129
  ·
   rw [if_pos c5] at H
   have c5b0:((l0_1.length:Int) == t129)=true:=beq_iff_eq.mpr c5
   have c5b1:((l0_1.length:Int) != t129)=false:=bne_eq_false_iff_eq.mpr c5
   clear c5
   have H':=Aside0.mk H
   clear H
   go_enter Tryz.func28,Tryz.ntmps28
   go_wp2_with (first | ((with_reducible refine zbD (N:=1) rfl ?_); refine zbC ?hg (N:=1) ?hd (cs:=#[.slice A0_0 l0_0.length c0_0,.slice A0_1 l0_1.length c0_1]) (t:=30) ?hr ?_; (case hd=>rfl); (case hg=>rfl); (case hr=>first | (go_simp; done) | (go_simp; rfl)); intro gb127 hg w6 hbox hb; have n0_:=Aside0.mk (zbm (qb HB.out) hb); have n1_:=Aside0.mk (hbox); have n2_:=Aside0.mk ((by rw [hg]; exact(zbp (qb HB.out)):w.heap.size≤gb127)); have n3_:=Aside0.mk ((by rw [hg]; exact(zbp (qb HB.out)):w.heap.size≤gb127)); clear HB; have HB:=n0_; have BK127:=n1_; have GW127:=n2_; have GE127:=n3_; clear n0_ n1_ n2_ n3_; clear hb hbox hg; have hcz7_0:w6.cell? ⟨gb127,0,none⟩=some (.slice A0_0 l0_0.length c0_0):=(zbq BK127.out 0).trans rfl; have hcz7_1:w6.cell? ⟨gb127,1,none⟩=some (.slice A0_1 l0_1.length c0_1):=(zbq BK127.out 1).trans rfl; have hfz7_0:=zbA BK127.out 0; have hfz7_1:=zbA BK127.out 1) | (go_at_call 24; (with_reducible refine(fluxionref06_May.calls k _ _ l0_0 t128 _ ?side1 ?side2 A2.out).mono ?_); (case side1=>exact qc (Kd.C_below HR0_0.out HB.out)); (case side2=>exact HC0_0.out); rintro e w' ⟨rfl,⟨nd,rfl⟩⟩; (try first | exact⟨rfl,_,World.drewN_drewN _ _ _⟩ | exact⟨rfl,_,Eq.trans (World.drewN_drewN _ _ _) (congrArg (World.drewN _) (Nat.add_assoc _ _ _))⟩)) | (go_at_call 32; (with_reducible refine(fluxionref06_Count.calls k _ _ l0_0 t129 _ ?side1 ?side2 A4.out).mono ?_); (case side1=>repeat (first | exact(Kd.C_below HR0_0.out (qb1 HB.out GE127.out)) | (with_reducible refine Kd.C_alloc ?_ _) | (with_reducible refine Kd.C_drewN ?_ _) | (with_reducible refine Kd.C_drew ?_))); (case side2=>exact HC0_0.out); rintro e w' ⟨rfl,⟨nd,rfl⟩⟩; (try first | exact⟨rfl,_,World.drewN_drewN _ _ _⟩ | exact⟨rfl,_,Eq.trans (World.drewN_drewN _ _ _) (congrArg (World.drewN _) (Nat.add_assoc _ _ _))⟩)))
   repeat (go_quiet (first | ((with_reducible refine zbD (N:=1) rfl ?_); refine zbC ?hg (N:=1) ?hd (cs:=#[.slice A0_0 l0_0.length c0_0,.slice A0_1 l0_1.length c0_1]) (t:=30) ?hr ?_; (case hd=>rfl); (case hg=>rfl); (case hr=>first | (go_simp; done) | (go_simp; rfl)); intro gb127 hg w6 hbox hb; have n0_:=Aside0.mk (zbm (qb HB.out) hb); have n1_:=Aside0.mk (hbox); have n2_:=Aside0.mk ((by rw [hg]; exact(zbp (qb HB.out)):w.heap.size≤gb127)); have n3_:=Aside0.mk ((by rw [hg]; exact(zbp (qb HB.out)):w.heap.size≤gb127)); clear HB; have HB:=n0_; have BK127:=n1_; have GW127:=n2_; have GE127:=n3_; clear n0_ n1_ n2_ n3_; clear hb hbox hg; have hcz7_0:w6.cell? ⟨gb127,0,none⟩=some (.slice A0_0 l0_0.length c0_0):=(zbq BK127.out 0).trans rfl; have hcz7_1:w6.cell? ⟨gb127,1,none⟩=some (.slice A0_1 l0_1.length c0_1):=(zbq BK127.out 1).trans rfl; have hfz7_0:=zbA BK127.out 0; have hfz7_1:=zbA BK127.out 1) | (go_at_call 24; (with_reducible refine(fluxionref06_May.calls k _ _ l0_0 t128 _ ?side1 ?side2 A2.out).mono ?_); (case side1=>exact qc (Kd.C_below HR0_0.out HB.out)); (case side2=>exact HC0_0.out); rintro e w' ⟨rfl,⟨nd,rfl⟩⟩; (try first | exact⟨rfl,_,World.drewN_drewN _ _ _⟩ | exact⟨rfl,_,Eq.trans (World.drewN_drewN _ _ _) (congrArg (World.drewN _) (Nat.add_assoc _ _ _))⟩)) | (go_at_call 32; (with_reducible refine(fluxionref06_Count.calls k _ _ l0_0 t129 _ ?side1 ?side2 A4.out).mono ?_); (case side1=>repeat (first | exact(Kd.C_below HR0_0.out (qb1 HB.out GE127.out)) | (with_reducible refine Kd.C_alloc ?_ _) | (with_reducible refine Kd.C_drewN ?_ _) | (with_reducible refine Kd.C_drew ?_))); (case side2=>exact HC0_0.out); rintro e w' ⟨rfl,⟨nd,rfl⟩⟩; (try first | exact⟨rfl,_,World.drewN_drewN _ _ _⟩ | exact⟨rfl,_,Eq.trans (World.drewN_drewN _ _ _) (congrArg (World.drewN _) (Nat.add_assoc _ _ _))⟩))); try go_wp2_with (first | ((with_reducible refine zbD (N:=1) rfl ?_); refine zbC ?hg (N:=1) ?hd (cs:=#[.slice A0_0 l0_0.length c0_0,.slice A0_1 l0_1.length c0_1]) (t:=30) ?hr ?_; (case hd=>rfl); (case hg=>rfl); (case hr=>first | (go_simp; done) | (go_simp; rfl)); intro gb127 hg w6 hbox hb; have n0_:=Aside0.mk (zbm (qb HB.out) hb); have n1_:=Aside0.mk (hbox); have n2_:=Aside0.mk ((by rw [hg]; exact(zbp (qb HB.out)):w.heap.size≤gb127)); have n3_:=Aside0.mk ((by rw [hg]; exact(zbp (qb HB.out)):w.heap.size≤gb127)); clear HB; have HB:=n0_; have BK127:=n1_; have GW127:=n2_; have GE127:=n3_; clear n0_ n1_ n2_ n3_; clear hb hbox hg; have hcz7_0:w6.cell? ⟨gb127,0,none⟩=some (.slice A0_0 l0_0.length c0_0):=(zbq BK127.out 0).trans rfl; have hcz7_1:w6.cell? ⟨gb127,1,none⟩=some (.slice A0_1 l0_1.length c0_1):=(zbq BK127.out 1).trans rfl; have hfz7_0:=zbA BK127.out 0; have hfz7_1:=zbA BK127.out 1) | (go_at_call 24; (with_reducible refine(fluxionref06_May.calls k _ _ l0_0 t128 _ ?side1 ?side2 A2.out).mono ?_); (case side1=>exact qc (Kd.C_below HR0_0.out HB.out)); (case side2=>exact HC0_0.out); rintro e w' ⟨rfl,⟨nd,rfl⟩⟩; (try first | exact⟨rfl,_,World.drewN_drewN _ _ _⟩ | exact⟨rfl,_,Eq.trans (World.drewN_drewN _ _ _) (congrArg (World.drewN _) (Nat.add_assoc _ _ _))⟩)) | (go_at_call 32; (with_reducible refine(fluxionref06_Count.calls k _ _ l0_0 t129 _ ?side1 ?side2 A4.out).mono ?_); (case side1=>repeat (first | exact(Kd.C_below HR0_0.out (qb1 HB.out GE127.out)) | (with_reducible refine Kd.C_alloc ?_ _) | (with_reducible refine Kd.C_drewN ?_ _) | (with_reducible refine Kd.C_drew ?_))); (case side2=>exact HC0_0.out); rintro e w' ⟨rfl,⟨nd,rfl⟩⟩; (try first | exact⟨rfl,_,World.drewN_drewN _ _ _⟩ | exact⟨rfl,_,Eq.trans (World.drewN_drewN _ _ _) (congrArg (World.drewN _) (Nat.add_assoc _ _ _))⟩))))
   go_loopg [4] k (fun kq v4 w'=>∃ (x4_1:Int),v4=.int .i64 x4_1∧Aside0 (fluxionref07_May.l0 kq x4_1 l0_0 l0_1=some r)∧Aside0 (kq≤k)∧Aside0 (w'.heap[gb127]? = some (.cells #[(.slice A0_0 l0_0.length c0_0),(.slice A0_1 l0_1.length c0_1)] 30 (0,0)))∧Aside0 (Below w.heap.size w w'))
   case atStart=>exact⟨(0),(by first | rfl | (simp; done) | (simp [*]; done)),H',⟨Nat.le_refl _⟩,⟨by (with_reducible repeat (first | refine zbv ?_ _ | refine zbu ?_ | refine zbt ?_ _)); exact BK127.out⟩,⟨by repeat (first | (with_reducible first | exact HB.out | apply zbn | apply zbo | apply zbs | refine zbB ?_ GE127.out) | exact HB.out)⟩⟩
   case round =>
    clear H'
    try clear c2
    try clear p2
    try clear c3
    try clear c3b0
    try clear c3b1
    try clear c5
    try clear c5b0
    try clear c5b1
    try clear hcz7_0
    try clear hcz7_1
    try clear hfz7_0
    try clear hfz7_1
    obtain⟨x4_1,rfl,HA,HK1,BK127,HB⟩:=hrel
    cases gk with
    | zero=>exact absurd HA.out (by simp [fluxionref07_May.l0])
    | succ k1 =>
     have H:=HA.out
     clear HA
     simp only [fluxionref07_May.l0] at H
     by_cases c8:x4_1 < (l0_1.length:Int)
     ·
      rw [if_pos c8] at H
      have c8b0:decide (x4_1 < (l0_1.length:Int))=true:=decide_eq_true c8
      clear c8
      by_cases c9:0≤x4_1
      ·
       rw [if_pos c9] at H
       have c9b0:decide (0≤x4_1)=true:=decide_eq_true c9
       clear c9
       replace H:=Option.bind_eq_some_iff.mp H
       obtain⟨t131,A100,H⟩:=H
       replace H:(if t131=0 then (fluxionref07_May.l0 k1 (wrap64 (x4_1+1)) l0_0 l0_1) else (some 6))=some r:=H
       have A10:=Aside0.mk A100
       clear A100
       by_cases c11:t131=0
       ·
        rw [if_pos c11] at H
        have c11b0:(t131 == 0)=true:=beq_iff_eq.mpr c11
        have c11b1:(t131 != 0)=false:=bne_eq_false_iff_eq.mpr c11
        clear c11
        have H':=Aside0.mk H
        clear H
        have hcz12_0:wr.cell? ⟨gb127,0,none⟩=some (.slice A0_0 l0_0.length c0_0):=(zbq BK127.out 0).trans rfl
        have hcz12_1:wr.cell? ⟨gb127,1,none⟩=some (.slice A0_1 l0_1.length c0_1):=(zbq BK127.out 1).trans rfl
        have hfz12_0:=zbA BK127.out 0
        have hfz12_1:=zbA BK127.out 1
        have p130:0≤(x4_1:Int):=of_decide_eq_true qs
        have q130:x4_1 < (l0_1.length:Int):=of_decide_eq_true qs
        obtain⟨ad130,A130_1,c130_1,A130_2,c130_2,e130,hx130_0,hx130_1,hx130_2,hl130_1,hi130_1,hl130_2,hi130_2⟩:=at_T27 HR0_1.out x4_1 p130 q130
        cases e130
        replace hx130_0:=(HB.out.cell (World.block_lt_of_cell? w _ hx130_0)).trans hx130_0
        replace hx130_1:=(HB.out.cell (World.block_lt_of_cell? w _ hx130_1)).trans hx130_1
        replace hx130_2:=(HB.out.cell (World.block_lt_of_cell? w _ hx130_2)).trans hx130_2
        have HR130_1:=Aside0.mk hi130_1
        have HC130_1:=Aside0.mk hl130_1
        clear hi130_1 hl130_1
        have HR130_2:=Aside0.mk hi130_2
        have HC130_2:=Aside0.mk hl130_2
        clear hi130_2 hl130_2
        replace p130:=eq_true p130
        replace q130:=eq_true q130
        go_wp2_with (first | (go_at_call 83; (with_reducible refine(fluxionref03_May.calls k1 ((rd_T27 l0_1 x4_1).f0) _ _ ((rd_T27 l0_1 x4_1).f1) _ _ ((rd_T27 l0_1 x4_1).f2) t131 _ ?side1 ?side2 ?side3 ?side4 A10.out).mono ?_); (case side1=>exact qc (Kd.C_below HR130_1.out HB.out)); (case side2=>exact HC130_1.out); (case side3=>exact qc (Kd.C_below HR130_2.out HB.out)); (case side4=>exact HC130_2.out); rintro e w13 ⟨rfl,hb⟩; have n0_:=Aside0.mk (zbr (g:=gb127) (o:=.cells #[.slice A0_0 l0_0.length c0_0,.slice (some ad130) l0_1.length c0_1] 30 (0,0)) (qk BK127.out) hb); have n1_:=Aside0.mk (zbm (qb1 HB.out GE127.out) hb); clear BK127; clear HB; have BK127:=n0_; have HB:=n1_; clear n0_ n1_; (try clear hb); (try clear hb2); (try clear hk); (try clear hi)))
        repeat (go_quiet (first | (go_at_call 83; (with_reducible refine(fluxionref03_May.calls k1 ((rd_T27 l0_1 x4_1).f0) _ _ ((rd_T27 l0_1 x4_1).f1) _ _ ((rd_T27 l0_1 x4_1).f2) t131 _ ?side1 ?side2 ?side3 ?side4 A10.out).mono ?_); (case side1=>exact qc (Kd.C_below HR130_1.out HB.out)); (case side2=>exact HC130_1.out); (case side3=>exact qc (Kd.C_below HR130_2.out HB.out)); (case side4=>exact HC130_2.out); rintro e w13 ⟨rfl,hb⟩; have n0_:=Aside0.mk (zbr (g:=gb127) (o:=.cells #[.slice A0_0 l0_0.length c0_0,.slice (some ad130) l0_1.length c0_1] 30 (0,0)) (qk BK127.out) hb); have n1_:=Aside0.mk (zbm (qb1 HB.out GE127.out) hb); clear BK127; clear HB; have BK127:=n0_; have HB:=n1_; clear n0_ n1_; (try clear hb); (try clear hb2); (try clear hk); (try clear hi))); try go_wp2_with (first | (go_at_call 83; (with_reducible refine(fluxionref03_May.calls k1 ((rd_T27 l0_1 x4_1).f0) _ _ ((rd_T27 l0_1 x4_1).f1) _ _ ((rd_T27 l0_1 x4_1).f2) t131 _ ?side1 ?side2 ?side3 ?side4 A10.out).mono ?_); (case side1=>exact qc (Kd.C_below HR130_1.out HB.out)); (case side2=>exact HC130_1.out); (case side3=>exact qc (Kd.C_below HR130_2.out HB.out)); (case side4=>exact HC130_2.out); rintro e w13 ⟨rfl,hb⟩; have n0_:=Aside0.mk (zbr (g:=gb127) (o:=.cells #[.slice A0_0 l0_0.length c0_0,.slice (some ad130) l0_1.length c0_1] 30 (0,0)) (qk BK127.out) hb); have n1_:=Aside0.mk (zbm (qb1 HB.out GE127.out) hb); clear BK127; clear HB; have BK127:=n0_; have HB:=n1_; clear n0_ n1_; (try clear hb); (try clear hb2); (try clear hk); (try clear hi))))
        go_roundg k1
        case measure=>have:=HK1.out; omega
        case rel=>exact⟨(wrap64 (x4_1+1)),(by first | rfl | (simp; done) | (simp [*]; done)),H',⟨by have:=HK1.out; omega⟩,⟨by (with_reducible repeat (first | refine zbv ?_ _ | refine zbu ?_ | refine zbt ?_ _)); exact BK127.out⟩,⟨by repeat (first | (with_reducible first | exact HB.out | apply zbn | apply zbo | apply zbs | refine zbB ?_ GE127.out) | exact HB.out)⟩⟩
       ·
        rw [if_neg c11] at H
        have c11b0:(t131 == 0)=false:=beq_eq_false_iff_ne.mpr c11
        have c11b1:(t131 != 0)=true:=bne_iff_ne.mpr c11
        obtain rfl:=Option.some.inj H
        have hcz14_0:wr.cell? ⟨gb127,0,none⟩=some (.slice A0_0 l0_0.length c0_0):=(zbq BK127.out 0).trans rfl
        have hcz14_1:wr.cell? ⟨gb127,1,none⟩=some (.slice A0_1 l0_1.length c0_1):=(zbq BK127.out 1).trans rfl
        have hfz14_0:=zbA BK127.out 0
        have hfz14_1:=zbA BK127.out 1
        have p130:0≤(x4_1:Int):=of_decide_eq_true qs
        have q130:x4_1 < (l0_1.length:Int):=of_decide_eq_true qs
        obtain⟨ad130,A130_1,c130_1,A130_2,c130_2,e130,hx130_0,hx130_1,hx130_2,hl130_1,hi130_1,hl130_2,hi130_2⟩:=at_T27 HR0_1.out x4_1 p130 q130
        cases e130
        replace hx130_0:=(HB.out.cell (World.block_lt_of_cell? w _ hx130_0)).trans hx130_0
        replace hx130_1:=(HB.out.cell (World.block_lt_of_cell? w _ hx130_1)).trans hx130_1
        replace hx130_2:=(HB.out.cell (World.block_lt_of_cell? w _ hx130_2)).trans hx130_2
        have HR130_1:=Aside0.mk hi130_1
        have HC130_1:=Aside0.mk hl130_1
        clear hi130_1 hl130_1
        have HR130_2:=Aside0.mk hi130_2
        have HC130_2:=Aside0.mk hl130_2
        clear hi130_2 hl130_2
        replace p130:=eq_true p130
        replace q130:=eq_true q130
        go_wp2_with (first | (go_at_call 83; (with_reducible refine(fluxionref03_May.calls k1 ((rd_T27 l0_1 x4_1).f0) _ _ ((rd_T27 l0_1 x4_1).f1) _ _ ((rd_T27 l0_1 x4_1).f2) t131 _ ?side1 ?side2 ?side3 ?side4 A10.out).mono ?_); (case side1=>exact qc (Kd.C_below HR130_1.out HB.out)); (case side2=>exact HC130_1.out); (case side3=>exact qc (Kd.C_below HR130_2.out HB.out)); (case side4=>exact HC130_2.out); rintro e w15 ⟨rfl,hb⟩; have n0_:=Aside0.mk (zbr (g:=gb127) (o:=.cells #[.slice A0_0 l0_0.length c0_0,.slice (some ad130) l0_1.length c0_1] 30 (0,0)) (qk BK127.out) hb); have n1_:=Aside0.mk (zbm (qb1 HB.out GE127.out) hb); clear BK127; clear HB; have BK127:=n0_; have HB:=n1_; clear n0_ n1_; (try clear hb); (try clear hb2); (try clear hk); (try clear hi)))
        repeat (go_quiet (first | (go_at_call 83; (with_reducible refine(fluxionref03_May.calls k1 ((rd_T27 l0_1 x4_1).f0) _ _ ((rd_T27 l0_1 x4_1).f1) _ _ ((rd_T27 l0_1 x4_1).f2) t131 _ ?side1 ?side2 ?side3 ?side4 A10.out).mono ?_); (case side1=>exact qc (Kd.C_below HR130_1.out HB.out)); (case side2=>exact HC130_1.out); (case side3=>exact qc (Kd.C_below HR130_2.out HB.out)); (case side4=>exact HC130_2.out); rintro e w15 ⟨rfl,hb⟩; have n0_:=Aside0.mk (zbr (g:=gb127) (o:=.cells #[.slice A0_0 l0_0.length c0_0,.slice (some ad130) l0_1.length c0_1] 30 (0,0)) (qk BK127.out) hb); have n1_:=Aside0.mk (zbm (qb1 HB.out GE127.out) hb); clear BK127; clear HB; have BK127:=n0_; have HB:=n1_; clear n0_ n1_; (try clear hb); (try clear hb2); (try clear hk); (try clear hi))); try go_wp2_with (first | (go_at_call 83; (with_reducible refine(fluxionref03_May.calls k1 ((rd_T27 l0_1 x4_1).f0) _ _ ((rd_T27 l0_1 x4_1).f1) _ _ ((rd_T27 l0_1 x4_1).f2) t131 _ ?side1 ?side2 ?side3 ?side4 A10.out).mono ?_); (case side1=>exact qc (Kd.C_below HR130_1.out HB.out)); (case side2=>exact HC130_1.out); (case side3=>exact qc (Kd.C_below HR130_2.out HB.out)); (case side4=>exact HC130_2.out); rintro e w15 ⟨rfl,hb⟩; have n0_:=Aside0.mk (zbr (g:=gb127) (o:=.cells #[.slice A0_0 l0_0.length c0_0,.slice (some ad130) l0_1.length c0_1] 30 (0,0)) (qk BK127.out) hb); have n1_:=Aside0.mk (zbm (qb1 HB.out GE127.out) hb); clear BK127; clear HB; have BK127:=n0_; have HB:=n1_; clear n0_ n1_; (try clear hb); (try clear hb2); (try clear hk); (try clear hi))))
        go_ret
        exact⟨by first | rfl | (simp [zbx,zbw]<;>rfl) | (simp [*,zbx,zbw]<;>rfl),by repeat (first | (with_reducible first | exact HB.out | apply zbn | apply zbo | apply zbs | refine zbB ?_ GE127.out) | exact HB.out)⟩
      ·
       rw [if_neg c9] at H
       exact absurd H (by simp)
     ·
      rw [if_neg c8] at H
      have c8b0:decide (x4_1 < (l0_1.length:Int))=false:=decide_eq_false c8
      clear c8
      obtain rfl:=Option.some.inj H
      have hcz16_0:wr.cell? ⟨gb127,0,none⟩=some (.slice A0_0 l0_0.length c0_0):=(zbq BK127.out 0).trans rfl
      have hcz16_1:wr.cell? ⟨gb127,1,none⟩=some (.slice A0_1 l0_1.length c0_1):=(zbq BK127.out 1).trans rfl
      have hfz16_0:=zbA BK127.out 0
      have hfz16_1:=zbA BK127.out 1
      go_wp2
      repeat (go_quiet (fail); try go_wp2)
      go_ret
      exact⟨by first | rfl | (simp [zbx,zbw]<;>rfl) | (simp [*,zbx,zbw]<;>rfl),by repeat (first | (with_reducible first | exact HB.out | apply zbn | apply zbo | apply zbs | refine zbB ?_ GE127.out) | exact HB.out)⟩
  ·
   rw [if_neg c5] at H
   have c5b0:((l0_1.length:Int) == t129)=false:=beq_eq_false_iff_ne.mpr c5
   have c5b1:((l0_1.length:Int) != t129)=true:=bne_iff_ne.mpr c5
   obtain rfl:=Option.some.inj H
   go_enter Tryz.func28,Tryz.ntmps28
   go_wp2_with (first | ((with_reducible refine zbD (N:=1) rfl ?_); refine zbC ?hg (N:=1) ?hd (cs:=#[.slice A0_0 l0_0.length c0_0,.slice A0_1 l0_1.length c0_1]) (t:=30) ?hr ?_; (case hd=>rfl); (case hg=>rfl); (case hr=>first | (go_simp; done) | (go_simp; rfl)); intro gb127 hg w17 hbox hb; have n0_:=Aside0.mk (zbm (qb HB.out) hb); have n1_:=Aside0.mk (hbox); have n2_:=Aside0.mk ((by rw [hg]; exact(zbp (qb HB.out)):w.heap.size≤gb127)); have n3_:=Aside0.mk ((by rw [hg]; exact(zbp (qb HB.out)):w.heap.size≤gb127)); clear HB; have HB:=n0_; have BK127:=n1_; have GW127:=n2_; have GE127:=n3_; clear n0_ n1_ n2_ n3_; clear hb hbox hg; have hcz18_0:w17.cell? ⟨gb127,0,none⟩=some (.slice A0_0 l0_0.length c0_0):=(zbq BK127.out 0).trans rfl; have hcz18_1:w17.cell? ⟨gb127,1,none⟩=some (.slice A0_1 l0_1.length c0_1):=(zbq BK127.out 1).trans rfl; have hfz18_0:=zbA BK127.out 0; have hfz18_1:=zbA BK127.out 1) | (go_at_call 24; (with_reducible refine(fluxionref06_May.calls k _ _ l0_0 t128 _ ?side1 ?side2 A2.out).mono ?_); (case side1=>exact qc (Kd.C_below HR0_0.out HB.out)); (case side2=>exact HC0_0.out); rintro e w' ⟨rfl,⟨nd,rfl⟩⟩; (try first | exact⟨rfl,_,World.drewN_drewN _ _ _⟩ | exact⟨rfl,_,Eq.trans (World.drewN_drewN _ _ _) (congrArg (World.drewN _) (Nat.add_assoc _ _ _))⟩)) | (go_at_call 32; (with_reducible refine(fluxionref06_Count.calls k _ _ l0_0 t129 _ ?side1 ?side2 A4.out).mono ?_); (case side1=>repeat (first | exact(Kd.C_below HR0_0.out (qb1 HB.out GE127.out)) | (with_reducible refine Kd.C_alloc ?_ _) | (with_reducible refine Kd.C_drewN ?_ _) | (with_reducible refine Kd.C_drew ?_))); (case side2=>exact HC0_0.out); rintro e w' ⟨rfl,⟨nd,rfl⟩⟩; (try first | exact⟨rfl,_,World.drewN_drewN _ _ _⟩ | exact⟨rfl,_,Eq.trans (World.drewN_drewN _ _ _) (congrArg (World.drewN _) (Nat.add_assoc _ _ _))⟩)))
   repeat (go_quiet (first | ((with_reducible refine zbD (N:=1) rfl ?_); refine zbC ?hg (N:=1) ?hd (cs:=#[.slice A0_0 l0_0.length c0_0,.slice A0_1 l0_1.length c0_1]) (t:=30) ?hr ?_; (case hd=>rfl); (case hg=>rfl); (case hr=>first | (go_simp; done) | (go_simp; rfl)); intro gb127 hg w17 hbox hb; have n0_:=Aside0.mk (zbm (qb HB.out) hb); have n1_:=Aside0.mk (hbox); have n2_:=Aside0.mk ((by rw [hg]; exact(zbp (qb HB.out)):w.heap.size≤gb127)); have n3_:=Aside0.mk ((by rw [hg]; exact(zbp (qb HB.out)):w.heap.size≤gb127)); clear HB; have HB:=n0_; have BK127:=n1_; have GW127:=n2_; have GE127:=n3_; clear n0_ n1_ n2_ n3_; clear hb hbox hg; have hcz18_0:w17.cell? ⟨gb127,0,none⟩=some (.slice A0_0 l0_0.length c0_0):=(zbq BK127.out 0).trans rfl; have hcz18_1:w17.cell? ⟨gb127,1,none⟩=some (.slice A0_1 l0_1.length c0_1):=(zbq BK127.out 1).trans rfl; have hfz18_0:=zbA BK127.out 0; have hfz18_1:=zbA BK127.out 1) | (go_at_call 24; (with_reducible refine(fluxionref06_May.calls k _ _ l0_0 t128 _ ?side1 ?side2 A2.out).mono ?_); (case side1=>exact qc (Kd.C_below HR0_0.out HB.out)); (case side2=>exact HC0_0.out); rintro e w' ⟨rfl,⟨nd,rfl⟩⟩; (try first | exact⟨rfl,_,World.drewN_drewN _ _ _⟩ | exact⟨rfl,_,Eq.trans (World.drewN_drewN _ _ _) (congrArg (World.drewN _) (Nat.add_assoc _ _ _))⟩)) | (go_at_call 32; (with_reducible refine(fluxionref06_Count.calls k _ _ l0_0 t129 _ ?side1 ?side2 A4.out).mono ?_); (case side1=>repeat (first | exact(Kd.C_below HR0_0.out (qb1 HB.out GE127.out)) | (with_reducible refine Kd.C_alloc ?_ _) | (with_reducible refine Kd.C_drewN ?_ _) | (with_reducible refine Kd.C_drew ?_))); (case side2=>exact HC0_0.out); rintro e w' ⟨rfl,⟨nd,rfl⟩⟩; (try first | exact⟨rfl,_,World.drewN_drewN _ _ _⟩ | exact⟨rfl,_,Eq.trans (World.drewN_drewN _ _ _) (congrArg (World.drewN _) (Nat.add_assoc _ _ _))⟩))); try go_wp2_with (first | ((with_reducible refine zbD (N:=1) rfl ?_); refine zbC ?hg (N:=1) ?hd (cs:=#[.slice A0_0 l0_0.length c0_0,.slice A0_1 l0_1.length c0_1]) (t:=30) ?hr ?_; (case hd=>rfl); (case hg=>rfl); (case hr=>first | (go_simp; done) | (go_simp; rfl)); intro gb127 hg w17 hbox hb; have n0_:=Aside0.mk (zbm (qb HB.out) hb); have n1_:=Aside0.mk (hbox); have n2_:=Aside0.mk ((by rw [hg]; exact(zbp (qb HB.out)):w.heap.size≤gb127)); have n3_:=Aside0.mk ((by rw [hg]; exact(zbp (qb HB.out)):w.heap.size≤gb127)); clear HB; have HB:=n0_; have BK127:=n1_; have GW127:=n2_; have GE127:=n3_; clear n0_ n1_ n2_ n3_; clear hb hbox hg; have hcz18_0:w17.cell? ⟨gb127,0,none⟩=some (.slice A0_0 l0_0.length c0_0):=(zbq BK127.out 0).trans rfl; have hcz18_1:w17.cell? ⟨gb127,1,none⟩=some (.slice A0_1 l0_1.length c0_1):=(zbq BK127.out 1).trans rfl; have hfz18_0:=zbA BK127.out 0; have hfz18_1:=zbA BK127.out 1) | (go_at_call 24; (with_reducible refine(fluxionref06_May.calls k _ _ l0_0 t128 _ ?side1 ?side2 A2.out).mono ?_); (case side1=>exact qc (Kd.C_below HR0_0.out HB.out)); (case side2=>exact HC0_0.out); rintro e w' ⟨rfl,⟨nd,rfl⟩⟩; (try first | exact⟨rfl,_,World.drewN_drewN _ _ _⟩ | exact⟨rfl,_,Eq.trans (World.drewN_drewN _ _ _) (congrArg (World.drewN _) (Nat.add_assoc _ _ _))⟩)) | (go_at_call 32; (with_reducible refine(fluxionref06_Count.calls k _ _ l0_0 t129 _ ?side1 ?side2 A4.out).mono ?_); (case side1=>repeat (first | exact(Kd.C_below HR0_0.out (qb1 HB.out GE127.out)) | (with_reducible refine Kd.C_alloc ?_ _) | (with_reducible refine Kd.C_drewN ?_ _) | (with_reducible refine Kd.C_drew ?_))); (case side2=>exact HC0_0.out); rintro e w' ⟨rfl,⟨nd,rfl⟩⟩; (try first | exact⟨rfl,_,World.drewN_drewN _ _ _⟩ | exact⟨rfl,_,Eq.trans (World.drewN_drewN _ _ _) (congrArg (World.drewN _) (Nat.add_assoc _ _ _))⟩))))
   go_ret
   exact⟨by first | rfl | (simp [zbx,zbw]<;>rfl) | (simp [*,zbx,zbw]<;>rfl),by repeat (first | (with_reducible first | exact HB.out | apply zbn | apply zbo | apply zbs | refine zbB ?_ GE127.out) | exact HB.out)⟩
 ·
  rw [if_neg c3] at H
  have c3b0:(t128 == 0)=false:=beq_eq_false_iff_ne.mpr c3
  have c3b1:(t128 != 0)=true:=bne_iff_ne.mpr c3
  obtain rfl:=Option.some.inj H
  go_enter Tryz.func28,Tryz.ntmps28
  go_wp2_with (first | ((with_reducible refine zbD (N:=1) rfl ?_); refine zbC ?hg (N:=1) ?hd (cs:=#[.slice A0_0 l0_0.length c0_0,.slice A0_1 l0_1.length c0_1]) (t:=30) ?hr ?_; (case hd=>rfl); (case hg=>rfl); (case hr=>first | (go_simp; done) | (go_simp; rfl)); intro gb127 hg w19 hbox hb; have n0_:=Aside0.mk (zbm (qb HB.out) hb); have n1_:=Aside0.mk (hbox); have n2_:=Aside0.mk ((by rw [hg]; exact(zbp (qb HB.out)):w.heap.size≤gb127)); have n3_:=Aside0.mk ((by rw [hg]; exact(zbp (qb HB.out)):w.heap.size≤gb127)); clear HB; have HB:=n0_; have BK127:=n1_; have GW127:=n2_; have GE127:=n3_; clear n0_ n1_ n2_ n3_; clear hb hbox hg; have hcz20_0:w19.cell? ⟨gb127,0,none⟩=some (.slice A0_0 l0_0.length c0_0):=(zbq BK127.out 0).trans rfl; have hcz20_1:w19.cell? ⟨gb127,1,none⟩=some (.slice A0_1 l0_1.length c0_1):=(zbq BK127.out 1).trans rfl; have hfz20_0:=zbA BK127.out 0; have hfz20_1:=zbA BK127.out 1) | (go_at_call 24; (with_reducible refine(fluxionref06_May.calls k _ _ l0_0 t128 _ ?side1 ?side2 A2.out).mono ?_); (case side1=>exact qc (Kd.C_below HR0_0.out HB.out)); (case side2=>exact HC0_0.out); rintro e w' ⟨rfl,⟨nd,rfl⟩⟩; (try first | exact⟨rfl,_,World.drewN_drewN _ _ _⟩ | exact⟨rfl,_,Eq.trans (World.drewN_drewN _ _ _) (congrArg (World.drewN _) (Nat.add_assoc _ _ _))⟩)))
  repeat (go_quiet (first | ((with_reducible refine zbD (N:=1) rfl ?_); refine zbC ?hg (N:=1) ?hd (cs:=#[.slice A0_0 l0_0.length c0_0,.slice A0_1 l0_1.length c0_1]) (t:=30) ?hr ?_; (case hd=>rfl); (case hg=>rfl); (case hr=>first | (go_simp; done) | (go_simp; rfl)); intro gb127 hg w19 hbox hb; have n0_:=Aside0.mk (zbm (qb HB.out) hb); have n1_:=Aside0.mk (hbox); have n2_:=Aside0.mk ((by rw [hg]; exact(zbp (qb HB.out)):w.heap.size≤gb127)); have n3_:=Aside0.mk ((by rw [hg]; exact(zbp (qb HB.out)):w.heap.size≤gb127)); clear HB; have HB:=n0_; have BK127:=n1_; have GW127:=n2_; have GE127:=n3_; clear n0_ n1_ n2_ n3_; clear hb hbox hg; have hcz20_0:w19.cell? ⟨gb127,0,none⟩=some (.slice A0_0 l0_0.length c0_0):=(zbq BK127.out 0).trans rfl; have hcz20_1:w19.cell? ⟨gb127,1,none⟩=some (.slice A0_1 l0_1.length c0_1):=(zbq BK127.out 1).trans rfl; have hfz20_0:=zbA BK127.out 0; have hfz20_1:=zbA BK127.out 1) | (go_at_call 24; (with_reducible refine(fluxionref06_May.calls k _ _ l0_0 t128 _ ?side1 ?side2 A2.out).mono ?_); (case side1=>exact qc (Kd.C_below HR0_0.out HB.out)); (case side2=>exact HC0_0.out); rintro e w' ⟨rfl,⟨nd,rfl⟩⟩; (try first | exact⟨rfl,_,World.drewN_drewN _ _ _⟩ | exact⟨rfl,_,Eq.trans (World.drewN_drewN _ _ _) (congrArg (World.drewN _) (Nat.add_assoc _ _ _))⟩))); try go_wp2_with (first | ((with_reducible refine zbD (N:=1) rfl ?_); refine zbC ?hg (N:=1) ?hd (cs:=#[.slice A0_0 l0_0.length c0_0,.slice A0_1 l0_1.length c0_1]) (t:=30) ?hr ?_; (case hd=>rfl); (case hg=>rfl); (case hr=>first | (go_simp; done) | (go_simp; rfl)); intro gb127 hg w19 hbox hb; have n0_:=Aside0.mk (zbm (qb HB.out) hb); have n1_:=Aside0.mk (hbox); have n2_:=Aside0.mk ((by rw [hg]; exact(zbp (qb HB.out)):w.heap.size≤gb127)); have n3_:=Aside0.mk ((by rw [hg]; exact(zbp (qb HB.out)):w.heap.size≤gb127)); clear HB; have HB:=n0_; have BK127:=n1_; have GW127:=n2_; have GE127:=n3_; clear n0_ n1_ n2_ n3_; clear hb hbox hg; have hcz20_0:w19.cell? ⟨gb127,0,none⟩=some (.slice A0_0 l0_0.length c0_0):=(zbq BK127.out 0).trans rfl; have hcz20_1:w19.cell? ⟨gb127,1,none⟩=some (.slice A0_1 l0_1.length c0_1):=(zbq BK127.out 1).trans rfl; have hfz20_0:=zbA BK127.out 0; have hfz20_1:=zbA BK127.out 1) | (go_at_call 24; (with_reducible refine(fluxionref06_May.calls k _ _ l0_0 t128 _ ?side1 ?side2 A2.out).mono ?_); (case side1=>exact qc (Kd.C_below HR0_0.out HB.out)); (case side2=>exact HC0_0.out); rintro e w' ⟨rfl,⟨nd,rfl⟩⟩; (try first | exact⟨rfl,_,World.drewN_drewN _ _ _⟩ | exact⟨rfl,_,Eq.trans (World.drewN_drewN _ _ _) (congrArg (World.drewN _) (Nat.add_assoc _ _ _))⟩))))
  go_ret
  exact⟨by first | rfl | (simp [zbx,zbw]<;>rfl) | (simp [*,zbx,zbw]<;>rfl),by repeat (first | (with_reducible first | exact HB.out | apply zbn | apply zbo | apply zbs | refine zbB ?_ GE127.out) | exact HB.out)⟩
def api_Shape_int.l0:Nat→List Int→List Int→Int→Int→Option (Bool)
 | 0,_,_,_,_=>none
 | k+1,x0,x1,x12,x13=>if x13 < x12 then (if 0≤x13 then (if x13 < (x0.length:Int) then (if x13 < (x1.length:Int) then (if (rd x0 x13)=(rd x1 x13) then (api_Shape_int.l0 k x0 x1 x12 (wrap64 (x13+1))) else (some false)) else (none)) else (none)) else (none)) else (some true)
def api_Shape_int.f (k:Nat) (l0:List Int) (l1:List Int):Option (Bool):=if (l0.length:Int)=(l1.length:Int) then (api_Shape_int.l0 k l0 l1 (l0.length:Int) 0) else (some false)
theorem api_Shape_int.calls (k:Nat) (A0:Option Addr) (c0:Nat) (l0:List Int) (A1:Option Addr) (c1:Nat) (l1:List Int) (r:Bool) (w:World) (hr0:Kd.C (Kd.int .i64) w A0 l0.length l0) (hc0:l0.length≤c0) (hr1:Kd.C (Kd.int .i64) w A1 l1.length l1) (hc1:l1.length≤c1) (h:api_Shape_int.f k l0 l1=some r) :
  Calls Tryz.prog 92 #[.slice A0 l0.length c0,.slice A1 l1.length c1] w fun e w'=>e=.returned (.bool r)∧Drawn0 w w':=by
 have HR0:=Aside0.mk hr0
 have HC0:=Aside0.mk hc0
 clear hr0 hc0
 have HR1:=Aside0.mk hr1
 have HC1:=Aside0.mk hc1
 clear hr1 hc1
 have H:(if (l0.length:Int)=(l1.length:Int) then (api_Shape_int.l0 k l0 l1 (l0.length:Int) 0) else (some false))=some r:=h
 clear h
 by_cases c3:(l0.length:Int)=(l1.length:Int)
 ·
  rw [if_pos c3] at H
  have c3b0:((l0.length:Int) == (l1.length:Int))=true:=beq_iff_eq.mpr c3
  have c3b1:((l0.length:Int) != (l1.length:Int))=false:=bne_eq_false_iff_eq.mpr c3
  have c3b2:(l0.length == l1.length)=true:=by first | simpa using c3 | (simp at c3 ⊢; omega)
  clear c3
  have H':=Aside0.mk H
  clear H
  go_enter Tryz.func92,Tryz.ntmps92
  go_wp2
  repeat (go_quiet (fail); try go_wp2)
  go_loopg [13] k (fun kq v13 w'=>∃ (x13_1:Int),v13=.int .i64 x13_1∧Aside0 (api_Shape_int.l0 kq l0 l1 (l0.length:Int) x13_1=some r)∧Aside0 (kq≤k)∧Drawn0 w w')
  case atStart=>exact⟨(0),(by first | rfl | (simp; done) | (simp [*]; done)),H',⟨Nat.le_refl _⟩,by repeat (first | exact Drawn0.refl _ | apply Drawn0.step)⟩
  case round =>
   clear H'
   try clear c1
   try clear p2
   try clear c3
   try clear c3b0
   try clear c3b1
   try clear c3b2
   obtain⟨x13_1,rfl,HA,HK1,⟨m1,rfl⟩⟩:=hrel
   cases gk with
   | zero=>exact absurd HA.out (by simp [api_Shape_int.l0])
   | succ k1 =>
    have H:=HA.out
    clear HA
    simp only [api_Shape_int.l0] at H
    by_cases c4:x13_1 < (l0.length:Int)
    ·
     rw [if_pos c4] at H
     have c4b0:decide (x13_1 < (l0.length:Int))=true:=decide_eq_true c4
     clear c4
     by_cases c5:0≤x13_1
     ·
      rw [if_pos c5] at H
      have c5b0:decide (0≤x13_1)=true:=decide_eq_true c5
      clear c5
      by_cases c6:x13_1 < (l0.length:Int)
      ·
       rw [if_pos c6] at H
       have c6b0:decide (x13_1 < (l0.length:Int))=true:=decide_eq_true c6
       clear c6
       by_cases c7:x13_1 < (l1.length:Int)
       ·
        rw [if_pos c7] at H
        have c7b0:decide (x13_1 < (l1.length:Int))=true:=decide_eq_true c7
        clear c7
        by_cases c8:(rd l0 x13_1)=(rd l1 x13_1)
        ·
         rw [if_pos c8] at H
         have c8b0:((rd l0 x13_1) == (rd l1 x13_1))=true:=beq_iff_eq.mpr c8
         have c8b1:((rd l0 x13_1) != (rd l1 x13_1))=false:=bne_eq_false_iff_eq.mpr c8
         clear c8
         have H':=Aside0.mk H
         clear H
         have p132:0≤(x13_1:Int):=of_decide_eq_true qs
         have q132:x13_1 < (l0.length:Int):=of_decide_eq_true qs
         obtain⟨ad132,e132,hx132_0⟩:=Kd.at_int HR0.out x13_1 p132 q132
         cases e132
         replace p132:=eq_true p132
         replace q132:=eq_true q132
         have p133:0≤(x13_1:Int):=of_decide_eq_true qs
         have q133:x13_1 < (l1.length:Int):=of_decide_eq_true qs
         obtain⟨ad133,e133,hx133_0⟩:=Kd.at_int HR1.out x13_1 p133 q133
         cases e133
         replace p133:=eq_true p133
         replace q133:=eq_true q133
         go_wp2
         repeat (go_quiet (fail); try go_wp2)
         go_roundg k1
         case measure=>have:=HK1.out; omega
         case rel=>exact⟨(wrap64 (x13_1+1)),(by first | rfl | (simp; done) | (simp [*]; done)),H',⟨by have:=HK1.out; omega⟩,by repeat (first | exact Drawn0.refl _ | apply Drawn0.step)⟩
        ·
         rw [if_neg c8] at H
         have c8b0:((rd l0 x13_1) == (rd l1 x13_1))=false:=beq_eq_false_iff_ne.mpr c8
         have c8b1:((rd l0 x13_1) != (rd l1 x13_1))=true:=bne_iff_ne.mpr c8
         obtain rfl:=Option.some.inj H
         have p132:0≤(x13_1:Int):=of_decide_eq_true qs
         have q132:x13_1 < (l0.length:Int):=of_decide_eq_true qs
         obtain⟨ad132,e132,hx132_0⟩:=Kd.at_int HR0.out x13_1 p132 q132
         cases e132
         replace p132:=eq_true p132
         replace q132:=eq_true q132
         have p133:0≤(x13_1:Int):=of_decide_eq_true qs
         have q133:x13_1 < (l1.length:Int):=of_decide_eq_true qs
         obtain⟨ad133,e133,hx133_0⟩:=Kd.at_int HR1.out x13_1 p133 q133
         cases e133
         replace p133:=eq_true p133
         replace q133:=eq_true q133
         go_wp2
         repeat (go_quiet (fail); try go_wp2)
         go_ret
         exact⟨by first | rfl | (simp; done) | (simp [*]; done),by repeat (first | exact Drawn0.refl _ | apply Drawn0.step)⟩
       ·
        rw [if_neg c7] at H
        exact absurd H (by simp)
      ·
       rw [if_neg c6] at H
       exact absurd H (by simp)
     ·
      rw [if_neg c5] at H
      exact absurd H (by simp)
    ·
     rw [if_neg c4] at H
     have c4b0:decide (x13_1 < (l0.length:Int))=false:=decide_eq_false c4
     clear c4
     obtain rfl:=Option.some.inj H
     go_wp2
     repeat (go_quiet (fail); try go_wp2)
     go_ret
     exact⟨by first | rfl | (simp; done) | (simp [*]; done),by repeat (first | exact Drawn0.refl _ | apply Drawn0.step)⟩
 ·
  rw [if_neg c3] at H
  have c3b0:((l0.length:Int) == (l1.length:Int))=false:=beq_eq_false_iff_ne.mpr c3
  have c3b1:((l0.length:Int) != (l1.length:Int))=true:=bne_iff_ne.mpr c3
  have c3b2:(l0.length == l1.length)=false:=by first | simpa using c3 | (simp at c3 ⊢; omega)
  obtain rfl:=Option.some.inj H
  go_enter Tryz.func92,Tryz.ntmps92
  go_wp2
  repeat (go_quiet (fail); try go_wp2)
  go_ret
  exact⟨by first | rfl | (simp; done) | (simp [*]; done),by repeat (first | exact Drawn0.refl _ | apply Drawn0.step)⟩
end Go.Proofs.YtehghijlchpeaaaGreat.M
end
end
section
noncomputable section
namespace Go.Proofs.YtehghijlchpeaaaGreat.M
open Go.RowKit YtehghijlchpeaaaGreat.H YtehghijlchpeaaaGreat.J YtehghijlchpeaaaGreat.L YtehghijlchpeaaaGreat.Nat1 YtehghijlchpeaaaGreatW.PrintWords YtehghijlchpeaaaGreatW.PrintLast YtehghijlchpeaaaGreatW.PrintMore
attribute [local go_sem] zbX zbZ zb2 zb1 zbQ zbR zbW zbY   -- for this text's walks alone
def fluxionref01_Short.l0:Nat→List Int→Int→List Int→Int→Int→Option (List Int×Int)
 | 0,_,_,_,_,_=>none
 | k+1,x0,x1,x6,x7,x8=>if x8 ≥ 0 then (if 0≤x8 then (if x8 < (x0.length:Int) then (if x1=0 then (none) else (if x8 < (x6.length:Int) then (fluxionref01_Short.l0 k x0 x1 (x6.set (x8:Int).toNat (wrap64 (Int.tdiv (wrap64 ((wrap64 (x7*10000))+(rd x0 x8))) x1))) (Int.tmod (wrap64 ((wrap64 (x7*10000))+(rd x0 x8))) x1) (wrap64 (x8-1))) else (none))) else (none)) else (none)) else ((fluxionref01_trim.f k x6).bind fun t143=>(some (t143,x7)))
def fluxionref01_Short.f (k:Nat) (l0:List Int) (a1:Int):Option (List Int×Int):=if 0≤(l0.length:Int) then (if ((l0.length:Int):Int).toNat≤35184372088832 then (fluxionref01_Short.l0 k l0 a1 (List.replicate ((l0.length:Int):Int).toNat 0) 0 (wrap64 ((l0.length:Int)-1))) else (none)) else (none)
theorem fluxionref01_Short.calls (k:Nat) (A0:Option Addr) (c0:Nat) (l0:List Int) (a1:Int) (r1:List Int) (r2:Int) (w:World) (hr0:Kd.C (Kd.int .i64) w A0 l0.length l0) (hc0:l0.length≤c0) (h:fluxionref01_Short.f k l0 a1=some (r1,r2)) :
  Calls Tryz.prog 149 #[.slice A0 l0.length c0,.int .i64 a1] w fun e w'=>∃ v0_:Value,e=.returned (.tuple #[v0_,.int .i64 r2])∧Kd.R (Kd.int .i64) 3 w' w.heap.size (fun _=>True) v0_ r1∧Below w.heap.size w w':=by
 have HR0:=Aside0.mk hr0
 have HC0:=Aside0.mk hc0
 clear hr0 hc0
 have HB:=Aside0.mk (Below.refl w.heap.size w)
 have H:(if 0≤(l0.length:Int) then (if ((l0.length:Int):Int).toNat≤35184372088832 then (fluxionref01_Short.l0 k l0 a1 (List.replicate ((l0.length:Int):Int).toNat 0) 0 (wrap64 ((l0.length:Int)-1))) else (none)) else (none))=some (r1,r2):=h
 clear h
 by_cases c3:0≤(l0.length:Int)
 ·
  rw [if_pos c3] at H
  have c3b0:=eq_true c3
  have c3b1:decide (0≤(l0.length:Int))=true:=decide_eq_true c3
  clear c3
  by_cases c4:((l0.length:Int):Int).toNat≤35184372088832
  ·
   rw [if_pos c4] at H
   have c4b0:=eq_true c4
   have c4b1:decide (((l0.length:Int):Int).toNat≤35184372088832)=true:=decide_eq_true c4
   clear c4
   obtain⟨y138,hy138⟩:∃ y_:List Int,y_=(List.replicate ((l0.length:Int):Int).toNat 0):=⟨_,rfl⟩
   replace H:(fluxionref01_Short.l0 k l0 a1 y138 0 (wrap64 ((l0.length:Int)-1)))=some (r1,r2):=by first | (rw [hy138]; with_reducible exact H) | (have H2_:=(Option.bind_some _ _).symm.trans H; rw [hy138]; with_reducible exact H2_) | (have H2_:=(Option.bind_some _ _).symm.trans H; with_reducible exact H2_) | with_reducible exact H | (rw [hy138]; exact H) | exact H
   have Ny138:=Aside0.mk hy138
   clear hy138
   have H':=Aside0.mk H
   clear H
   go_enter Tryz.func149,Tryz.ntmps149
   go_wp2_with (first | ((with_reducible refine zbD (N:=12) rfl ?_); refine Kd.R_make (Kd.int .i64) _ 3 rfl (N:=12) rfl 38 _ _ rfl (l0.length:Int) rfl rfl Tryz.underlying38 (.int .i64 0) 8 info3 rfl (by decide) (by omega) 0 (ok:=fun _=>True) (okp:=fun _=>True) rfl (fun _ hk=>hk) trivial (of_decide_eq_true qs) (Nat.le_trans (Nat.mul_le_mul_right _ (of_decide_eq_true qs:(l0.length:Int).toNat≤35184372088832)) (by omega)) (Below.refl _ _) (Nat.le_refl _) ?_; intro v139 w5 ho6 hb hg_ hnew_; clear hg_ hnew_; (first | rw [← Ny138.out] at ho6 | (simp only [Int.reduceToNat] at ho6; rw [← Ny138.out] at ho6)); have n0_:=Aside0.mk (Kd.R_lower ho6 (zbp (qb HB.out))); have n1_:=Aside0.mk (zbm (qb HB.out) hb); clear HB; have HO140:=n0_; have HB:=n1_; clear n0_ n1_; clear hb ho6))
   go_loopg [7,8] k (fun kq v7 v8 w'=>∃ (x6_1:List Int) (x7_1:Int) (x8_1:Int),v7=.int .i64 x7_1∧v8=.int .i64 x8_1∧Aside0 (fluxionref01_Short.l0 kq l0 a1 x6_1 x7_1 x8_1=some (r1,r2))∧Aside0 (kq≤k)∧Aside0 (Kd.R (Kd.int .i64) 3 w' w.heap.size (fun _=>True) v139 x6_1)∧Aside0 (Below w.heap.size w w'))
   case atStart=>exact⟨(y138),(0),(wrap64 ((l0.length:Int)-1)),(by first | rfl | (simp; done) | (simp [*]; done)),(by first | rfl | (simp; done) | (simp [*]; done)),H',⟨Nat.le_refl _⟩,⟨by (with_reducible repeat (first | apply Kd.R_alloc | apply Kd.R_drewN | apply Kd.R_drew)); exact HO140.out⟩,⟨by repeat (first | (with_reducible first | exact HB.out | apply zbn | apply zbo | apply zbs) | exact HB.out)⟩⟩
   case round =>
    clear H'
    try clear c1
    try clear p2
    try clear c3
    try clear c3b0
    try clear c3b1
    try clear c4
    try clear c4b0
    try clear c4b1
    try clear p6
    obtain⟨x6_1,x7_1,x8_1,rfl,rfl,HA,HK1,HO_6,HB⟩:=hrel
    cases gk with
    | zero=>exact absurd HA.out (by simp [fluxionref01_Short.l0])
    | succ k1 =>
     have H:=HA.out
     clear HA
     simp only [fluxionref01_Short.l0] at H
     by_cases c7:x8_1 ≥ 0
     ·
      rw [if_pos c7] at H
      have c7b0:decide (0≤x8_1)=true:=decide_eq_true c7
      clear c7
      by_cases c8:0≤x8_1
      ·
       rw [if_pos c8] at H
       have c8b0:decide (0≤x8_1)=true:=decide_eq_true c8
       clear c8
       by_cases c9:x8_1 < (l0.length:Int)
       ·
        rw [if_pos c9] at H
        have c9b0:decide (x8_1 < (l0.length:Int))=true:=decide_eq_true c9
        clear c9
        by_cases c10:a1=0
        ·
         rw [if_pos c10] at H
         exact absurd H (by simp)
        ·
         rw [if_neg c10] at H
         have c10b0:(a1 == 0)=false:=beq_eq_false_iff_ne.mpr c10
         have c10b1:(a1 != 0)=true:=bne_iff_ne.mpr c10
         by_cases c11:x8_1 < (x6_1.length:Int)
         ·
          rw [if_pos c11] at H
          have c11b0:decide (x8_1 < (x6_1.length:Int))=true:=decide_eq_true c11
          clear c11
          obtain⟨y142,hy142⟩:∃ y_:List Int,y_=(x6_1.set (x8_1:Int).toNat (wrap64 (Int.tdiv (wrap64 ((wrap64 (x7_1*10000))+(rd l0 x8_1))) a1))):=⟨_,rfl⟩
          replace H:(fluxionref01_Short.l0 k1 l0 a1 y142 (Int.tmod (wrap64 ((wrap64 (x7_1*10000))+(rd l0 x8_1))) a1) (wrap64 (x8_1-1)))=some (r1,r2):=by first | (rw [hy142]; with_reducible exact H) | (have H2_:=(Option.bind_some _ _).symm.trans H; rw [hy142]; with_reducible exact H2_) | (have H2_:=(Option.bind_some _ _).symm.trans H; with_reducible exact H2_) | with_reducible exact H | (rw [hy142]; exact H) | exact H
          have Ny142:=Aside0.mk hy142
          clear hy142
          have H':=Aside0.mk H
          clear H
          have p141:0≤(x8_1:Int):=of_decide_eq_true qs
          have q141:x8_1 < (l0.length:Int):=of_decide_eq_true qs
          obtain⟨ad141,e141,hx141_0⟩:=Kd.at_int HR0.out x8_1 p141 q141
          cases e141
          replace hx141_0:=(HB.out.cell (World.block_lt_of_cell? w _ hx141_0)).trans hx141_0
          replace p141:=eq_true p141
          replace q141:=eq_true q141
          have p12:0≤(x8_1:Int):=of_decide_eq_true qs
          have q12:(x8_1:Int) < ((x6_1.length:Int):Int):=of_decide_eq_true qs
          obtain⟨go12,co12,eo12,gb12,gl12,cl12,HG12⟩:=Kd.R_form HO_6.out (by omega)
          (first | cases eo12 | (injection eo12 with ea_ en_ ec_; (first | subst ea_ | (injection ea_ with ea_; subst ea_)); subst ec_; clear en_))
          have GB12:=Aside0.mk gb12
          have GG12:=Aside0.mk HG12
          clear gb12 gl12 HG12
          obtain⟨hx12_0,hf12_0⟩:=Kd.R_celln 0 HO_6.out (x8_1:Int) p12 q12
          replace p12:=eq_true p12
          replace q12:=eq_true q12
          have HP13:=Kd.R_putg HO_6.out (x8_1:Int) (wrap64 (Int.tdiv (wrap64 ((wrap64 (x7_1*10000))+(rd l0 x8_1))) a1))
          go_wp2_with (first | ((with_reducible refine gate_store (t:=3) (p:=32) rfl ?_); refine store_event (t:=3) (p:=32) (v:=?vo_w14) (w1:=(wr.setCell ⟨go12,(x8_1:Int).toNat,none⟩ (.int .i64 (wrap64 (Int.tdiv (wrap64 ((wrap64 (x7_1*10000))+(rd l0 x8_1))) a1))))) ?hg ?ho ?hn ?hr ?_; (case ho=>rfl); (case hg=>rfl); (case hn=>rfl); (case hr=>first | (go_simp; done) | (go_simp; rfl)); intro w14 hw; have hg:wr.grownBy w14 (some go12):=(by rw [hw]; exact HP13.2); have hp_:Kd.R (Kd.int .i64) 3 w14 w.heap.size (fun _=>True) (.slice (some ⟨go12,0,none⟩) x6_1.length co12) y142:=(by rw [hw,Ny142.out]; exact HP13.1); clear HP13; have n0_:=Aside0.mk (hp_); have n1_:=Aside0.mk ((by rw [hw]; exact zbB (HB.out) GB12.out:Below w.heap.size w w14)); clear HO_6; clear HB; have HO_6:=n0_; have HB:=n1_; clear n0_ n1_; clear hg hw hp_))
          go_roundg k1
          case measure=>have:=HK1.out; omega
          case rel=>exact⟨(y142),(Int.tmod (wrap64 ((wrap64 (x7_1*10000))+(rd l0 x8_1))) a1),(wrap64 (x8_1-1)),(by first | rfl | (simp; done) | (simp [*]; done)),(by first | rfl | (simp; done) | (simp [*]; done)),H',⟨by have:=HK1.out; omega⟩,⟨by (with_reducible repeat (first | apply Kd.R_alloc | apply Kd.R_drewN | apply Kd.R_drew)); exact HO_6.out⟩,⟨by repeat (first | (with_reducible first | exact HB.out | apply zbn | apply zbo | apply zbs) | exact HB.out)⟩⟩
         ·
          rw [if_neg c11] at H
          exact absurd H (by simp)
       ·
        rw [if_neg c9] at H
        exact absurd H (by simp)
      ·
       rw [if_neg c8] at H
       exact absurd H (by simp)
     ·
      rw [if_neg c7] at H
      have c7b0:decide (0≤x8_1)=false:=decide_eq_false c7
      clear c7
      replace H:=Option.bind_eq_some_iff.mp H
      obtain⟨t143,A150,H⟩:=H
      replace H:(some (t143,x7_1))=some (r1,r2):=H
      have A15:=Aside0.mk A150
      clear A150
      simp only [Option.some.injEq,Prod.mk.injEq] at H
      obtain⟨rfl,rfl⟩:=H
      obtain⟨Ao16,co16,eo16⟩:=Kd.R_slice HO_6.out
      subst eo16
      go_wp2_with (first | ((with_reducible refine zbz (f:=155) rfl ?_); refine zbK (some 37) rfl rfl Tryz.func155 (by kernel_rfl) rfl #[.slice Ao16 x6_1.length co16] rfl (by (try simp only [List.map_toArray,List.map_cons,List.map_nil]); first | done | rfl | (simp only [List.length_drop,List.length_take]; rfl)) ?_; (with_reducible refine(fluxionref01_trim.calls k1 (fun k_=>some k_=(.slice Ao16 x6_1.length co16:Value).ownBlock) (.slice Ao16 x6_1.length co16) x6_1 t143 w _ ?side1 ?side2 A15.out).mono ?_); (case side1=>repeat (first | (with_reducible first | exact HB.out | apply zbn | apply zbo | apply zbs) | exact HB.out)); (case side2=>exact Kd.R_tight rfl HO_6.out); rintro e w17 ⟨v144,rfl,ho0,hb,hkp⟩; refine⟨_,rfl,?_⟩; have n0_:=Aside0.mk (Kd.R_mono (ok':=fun k_=>True) ho0 (fun k_ hk_=>trivial)); have n1_:=Aside0.mk (hb); clear HB; clear HO_6; have HO145:=n0_; have HB:=n1_; clear n0_ n1_; (try clear hb); (try clear hkp); (try clear ho0)))
      go_ret2
      exact⟨_,by first | rfl | (simp [zbx,zbw]<;>rfl) | (simp [*,zbx,zbw]<;>rfl),by (with_reducible repeat (first | apply Kd.R_alloc | apply Kd.R_drewN | apply Kd.R_drew)); exact HO145.out,by repeat (first | (with_reducible first | exact HB.out | apply zbn | apply zbo | apply zbs) | exact HB.out)⟩
  ·
   rw [if_neg c4] at H
   exact absurd H (by simp)
 ·
  rw [if_neg c3] at H
  exact absurd H (by simp)
def fluxionref01_Limbs.l0:Nat→List Int→List Int→Option (List Int)
 | 0,_,_=>none
 | k+1,x0,x3=>if (x0.length:Int) > 0 then ((fluxionref01_Short.f k x0 65536).bind fun bt146=>((fluxionref01_Short.f k bt146.1 65536).bind fun bt150=>(if x3.length < 35184372088832 then (fluxionref01_Limbs.l0 k bt150.1 (x3++[(bt150.2 % 4294967296*65536+bt146.2) % 4294967296])) else (none)))) else (some x3)
def fluxionref01_Limbs.f (k:Nat) (l0:List Int):Option (List Int):=fluxionref01_Limbs.l0 k l0 ([]:List Int)
theorem fluxionref01_Limbs.calls (k:Nat) (P0_:Nat→Prop) (A0:Option Addr) (c0:Nat) (l0:List Int) (r:List Int) (w:World) (hs0:Kd.V (Kd.int .i64) 3 w w.heap.size (fun k_=>P0_ k_) (.slice A0 l0.length c0) l0) (h:fluxionref01_Limbs.f k l0=some r) :
  Calls Tryz.prog 118 #[.slice A0 l0.length c0] w fun e w'=>∃ v0_:Value,e=.returned (v0_)∧Kd.R (Kd.int .u32) 81 w' w.heap.size (fun k_=>(w.heap.size≤k_)) v0_ r∧Below w.heap.size w w':=by
 have HO0:=Aside0.mk (show Kd.V (Kd.int .i64) 3 w w.heap.size (fun k_=>(P0_ k_∨w.heap.size≤k_)) (.slice A0 l0.length c0) l0 from Kd.V_mono hs0 (fun k_ hk=>.inl hk))
 have HB:=Aside0.mk (Below.refl w.heap.size w)
 have H:(fluxionref01_Limbs.l0 k l0 ([]:List Int))=some r:=h
 clear h
 have H':=Aside0.mk H
 clear H
 go_enter Tryz.func118,Tryz.ntmps118
 go_wp2
 go_loopg [0,3] k (fun kq v0 v3 w'=>∃ (x0_1:List Int) (x3_1:List Int),Aside0 (fluxionref01_Limbs.l0 kq x0_1 x3_1=some r)∧Aside0 (kq≤k)∧Aside0 (Kd.V (Kd.int .i64) 3 w' w.heap.size (fun k_=>(P0_ k_∨w.heap.size≤k_)∧some k_≠(v3:Value).ownBlock) v0 x0_1)∧Aside0 (Kd.R (Kd.int .u32) 81 w' w.heap.size (fun k_=>(w.heap.size≤k_)) v3 x3_1)∧Aside0 (Below w.heap.size w w'))
 case atStart=>exact⟨(l0),(([]:List Int)),H',⟨Nat.le_refl _⟩,⟨by (with_reducible repeat (first | apply Kd.V_alloc | apply Kd.V_drewN | apply Kd.V_drew)); exact Kd.V_mono HO0.out (fun _ hk=>⟨hk,(by simp [Value.ownBlock])⟩)⟩,⟨by first | exact Kd.R_nil _ _ _ _ _ | exact Kd.N_nil _ _ _ _ _ | exact Kd.V_nil _ _ _ _ _ | exact Kd.Q_nil _ _ _ _ _ | exact Kd.S_nil _ _ _ _ _⟩,⟨by repeat (first | (with_reducible first | exact HB.out | apply zbn | apply zbo | apply zbs) | exact HB.out)⟩⟩
 case round =>
  clear H'
  try clear c1
  obtain⟨x0_1,x3_1,HA,HK1,HO_0,HO_3,HB⟩:=hrel
  cases gk with
  | zero=>exact absurd HA.out (by simp [fluxionref01_Limbs.l0])
  | succ k1 =>
   have H:=HA.out
   clear HA
   simp only [fluxionref01_Limbs.l0] at H
   by_cases c2:(x0_1.length:Int) > 0
   ·
    rw [if_pos c2] at H
    have c2b0:decide (0 < (x0_1.length:Int))=true:=decide_eq_true c2
    have c2b1:decide (0 < x0_1.length)=true:=decide_eq_true (by omega)
    clear c2
    replace H:=Option.bind_eq_some_iff.mp H
    obtain⟨⟨t146,t147⟩,A30,H⟩:=H
    replace H:((fluxionref01_Short.f k1 t146 65536).bind fun bt150=>(if x3_1.length < 35184372088832 then (fluxionref01_Limbs.l0 k1 bt150.1 (x3_1++[(bt150.2 % 4294967296*65536+t147) % 4294967296])) else (none)))=some r:=H
    have A3:=Aside0.mk A30
    clear A30
    replace H:=Option.bind_eq_some_iff.mp H
    obtain⟨⟨t150,t151⟩,A40,H⟩:=H
    replace H:(if x3_1.length < 35184372088832 then (fluxionref01_Limbs.l0 k1 t150 (x3_1++[(t151 % 4294967296*65536+t147) % 4294967296])) else (none))=some r:=H
    have A4:=Aside0.mk A40
    clear A40
    by_cases c5:x3_1.length < 35184372088832
    ·
     rw [if_pos c5] at H
     have LMc5:=Aside0.mk c5
     clear c5
     obtain⟨y154,hy154⟩:∃ y_:List Int,y_=(x3_1++[(t151 % 4294967296*65536+t147) % 4294967296]):=⟨_,rfl⟩
     replace H:(fluxionref01_Limbs.l0 k1 t150 y154)=some r:=by first | (rw [hy154]; with_reducible exact H) | (have H2_:=(Option.bind_some _ _).symm.trans H; rw [hy154]; with_reducible exact H2_) | (have H2_:=(Option.bind_some _ _).symm.trans H; with_reducible exact H2_) | with_reducible exact H | (rw [hy154]; exact H) | exact H
     have Ny154:=Aside0.mk hy154
     clear hy154
     have H':=Aside0.mk H
     clear H
     obtain⟨Ao6,co6,eo6⟩:=Kd.V_slice HO_0.out
     subst eo6
     go_wp2_with (first | ((with_reducible refine zbz (f:=149) rfl ?_); refine zbK (some 13) rfl rfl Tryz.func149 (by kernel_rfl) rfl #[.slice Ao6 x0_1.length co6,.int .i64 65536] rfl (by (try simp only [List.map_toArray,List.map_cons,List.map_nil]); first | done | rfl | (simp only [List.length_drop,List.length_take]; rfl)) ?_; (with_reducible refine(fluxionref01_Short.calls k1 _ _ x0_1 65536 t146 t147 _ ?side1 ?side2 A3.out).mono ?_); (case side1=>exact qc (Kd.V_reads' HO_0.out).2.2); (case side2=>exact(Kd.V_reads' HO_0.out).2.1); rintro e w7 ⟨v148,rfl,ho0,hb⟩; refine⟨_,rfl,?_⟩; have n0_:=Aside0.mk (Kd.V_elder' (by (with_reducible repeat (first | apply Kd.V_alloc | apply Kd.V_drewN | apply Kd.V_drew)); exact HO_0.out) (Kd.R_base ho0) hb); have n1_:=Aside0.mk (Kd.R_below (qr HO_3.out) hb); have n2_:=Aside0.mk (Kd.R_lower (Kd.R_newM (M:=fun k_=>(w.heap.size≤k_)) ho0 (zbp (qb HB.out)) (fun k_ h_=>h_)) (zbp (qb HB.out))); have n3_:=Aside0.mk (zbm (qb HB.out) hb); clear HO_0; clear HO_3; clear HB; have HO_0:=n0_; have HO_3:=n1_; have HO149:=n2_; have HB:=n3_; clear n0_ n1_ n2_ n3_; (try clear hb); (try clear hb2); (try clear hk); (try clear hi); (try clear ho0); obtain⟨Ao8,co8,eo8⟩:=Kd.R_slice HO149.out; subst eo8) | ((with_reducible refine zbz (f:=149) rfl ?_); refine zbK (some 18) rfl rfl Tryz.func149 (by kernel_rfl) rfl #[.slice Ao8 t146.length co8,.int .i64 65536] rfl (by (try simp only [List.map_toArray,List.map_cons,List.map_nil]); first | done | rfl | (simp only [List.length_drop,List.length_take]; rfl)) ?_; (with_reducible refine(fluxionref01_Short.calls k1 _ _ t146 65536 t150 t151 _ ?side1 ?side2 A4.out).mono ?_); (case side1=>exact qc (Kd.R_reads' HO149.out).2.2); (case side2=>exact(Kd.R_reads' HO149.out).2.1); rintro e w9 ⟨v152,rfl,ho0,hb⟩; refine⟨_,rfl,?_⟩; have n0_:=Aside0.mk (Kd.V_elder' (by (with_reducible repeat (first | apply Kd.V_alloc | apply Kd.V_drewN | apply Kd.V_drew)); exact HO_0.out) (Kd.R_base ho0) hb); have n1_:=Aside0.mk (Kd.R_below (qr HO_3.out) hb); have n2_:=Aside0.mk (Kd.R_elder' (qr HO149.out) (Kd.R_base ho0) hb); have n3_:=Aside0.mk (Kd.R_lower (Kd.R_new' (Kd.R_newM (M:=fun k_=>(w.heap.size≤k_)) ho0 (zbp (qb HB.out)) (fun k_ h_=>h_)) (Kd.R_lt (qr HO149.out))) (zbp (qb HB.out))); have n4_:=Aside0.mk (zbm (qb HB.out) hb); clear HO_0; clear HO_3; clear HO149; clear HB; have HO_0:=n0_; have HO_3:=n1_; have HO149:=n2_; have HO153:=n3_; have HB:=n4_; clear n0_ n1_ n2_ n3_ n4_; (try clear hb); (try clear hb2); (try clear hk); (try clear hi); (try clear ho0)) | ((with_reducible refine zbO (b:=.append) (xs:=#[.tmp 21,.tmp 28]) rfl ?_); at_builtin; refine Kd.R_append (Kd.int .u32) (w0:=w) w.heap.size rfl (.tmp 21) (.tmp 28) 25 81 (.int .u32 0) 4 rfl Tryz.underlying25 info81 rfl (by decide) (by omega) u3 x3_1 ((t151 % 4294967296*65536+t147) % 4294967296) [.int .u32 ((t151 % 4294967296*65536+t147) % 4294967296)] (fun k_=>(w.heap.size≤k_)) (fun _=>False) rfl rfl ?aP (fun _ hk=>hk.elim) ?aF ?aO ?aB ?aS ?aL ?_; (case aP=>exact rfl); (case aB=>exact(qb HB.out)); (case aF=>exact(fun k_ hk=>(Nat.le_trans (zbp (qb HB.out)) hk))); (case aO=>exact(qr HO_3.out)); (case aS=>exact(zbp (qb HB.out))); (case aL=>have:=LMc5.out; omega); intro v155 w10 ho hb hg hat; rw [← Ny154.out] at ho; have n0_:=Aside0.mk (Kd.V_afterv (ok:=(fun k_=>(P0_ k_∨w.heap.size≤k_)∧some k_≠(.slice Ao8 t146.length co8:Value).ownBlock∧some k_≠(v152:Value).ownBlock)) (by (with_reducible repeat (first | apply Kd.V_alloc | apply Kd.V_drewN | apply Kd.V_drew)); exact Kd.V_mono HO_0.out (fun _ hk=>⟨⟨hk.1.1.1,⟨hk.1.2,hk.2⟩⟩,hk.1.1.2⟩)) hg hat); have n1_:=Aside0.mk (Kd.R_over' (qr HO149.out) (Kd.R_typed (qr HO_3.out)) (by decide) hg); have n2_:=Aside0.mk (Kd.R_over' (qr HO153.out) (Kd.R_typed (qr HO_3.out)) (by decide) hg); have n3_:=Aside0.mk (hb); have n4_:=Aside0.mk (ho); clear HO_0; clear HO149; clear HO153; clear HB; clear HO_3; have HO_0:=n0_; have HO149:=n1_; have HO153:=n2_; have HB:=n3_; have HO156:=n4_; clear n0_ n1_ n2_ n3_ n4_; clear ho hb hg hat))
     go_roundg k1
     case measure=>have:=HK1.out; omega
     case rel=>exact⟨(t150),(y154),H',⟨by have:=HK1.out; omega⟩,⟨Kd.V_mono (Kd.R_V (by (with_reducible repeat (first | apply Kd.R_alloc | apply Kd.R_drewN | apply Kd.R_drew)); exact Kd.R_mono (ok':=fun k_=>w.heap.size≤k_∧some k_≠(v155:Value).ownBlock) (Kd.R_apart' HO153.out (Kd.R_typed HO156.out) (by decide)) (fun _ hk=>⟨hk.1.1.1,hk.2⟩))) (fun k_ hk=>by first | exact⟨(.inr (hk.1)),hk.2⟩ | exact(.inr (hk)))⟩,⟨by (with_reducible repeat (first | apply Kd.R_alloc | apply Kd.R_drewN | apply Kd.R_drew)); exact HO156.out⟩,⟨by repeat (first | (with_reducible first | exact HB.out | apply zbn | apply zbo | apply zbs) | exact HB.out)⟩⟩
    ·
     rw [if_neg c5] at H
     exact absurd H (by simp)
   ·
    rw [if_neg c2] at H
    have c2b0:decide (0 < (x0_1.length:Int))=false:=decide_eq_false c2
    have c2b1:decide (0 < x0_1.length)=false:=decide_eq_false (by omega)
    clear c2
    obtain rfl:=Option.some.inj H
    obtain⟨Ao11,co11,eo11⟩:=Kd.V_slice HO_0.out
    subst eo11
    go_wp2
    go_ret
    exact⟨_,by first | rfl | (simp [zbx,zbw]<;>rfl) | (simp [*,zbx,zbw]<;>rfl),by (with_reducible repeat (first | apply Kd.R_alloc | apply Kd.R_drewN | apply Kd.R_drew)); exact HO_3.out,by repeat (first | (with_reducible first | exact HB.out | apply zbn | apply zbo | apply zbs) | exact HB.out)⟩
def fluxionref03_Back.f (k:Nat) (a0_0:Bool) (l0_1:List Int) (l0_2:List Int):Option (Bool×List Int×List Int):=(fluxionref01_Limbs.f k l0_1).bind fun t159=>((fluxionref01_Limbs.f k l0_2).bind fun t162=>(some (a0_0,t159,t162)))
def fluxionref03_Back.T1:Bool×List (List Nat×List Nat):=(true,[([],[]),([0],[0]),([],[]),([2],[2]),([3],[3]),([],[]),([5],[5]),([6,4],[6]),([1,4,7],[1,4,7]),([8,7,0,1,2,3,4,5,6,7,8],[8])])
def fluxionref03_Back.B1:List Nat:=[0,1,0,4,12,0,32,124,255,511]
theorem fluxionref03_Back.tab1:rtab .any (opsOf Tryz.f64 1)=fluxionref03_Back.T1:=by kernel_rfl
theorem fluxionref03_Back.bits1:zct fluxionref03_Back.T1.2 fluxionref03_Back.B1=true:=by kernel_rfl
theorem fluxionref03_Back.calls (k:Nat) (a0_0:Bool) (A0_1:Option Addr) (c0_1:Nat) (l0_1:List Int) (A0_2:Option Addr) (c0_2:Nat) (l0_2:List Int) (r1:Bool) (r2:List Int) (r3:List Int) (w:World) (hr0_1:Kd.C (Kd.int .i64) w A0_1 l0_1.length l0_1) (hc0_1:l0_1.length≤c0_1) (hr0_2:Kd.C (Kd.int .i64) w A0_2 l0_2.length l0_2) (hc0_2:l0_2.length≤c0_2) (h:fluxionref03_Back.f k a0_0 l0_1 l0_2=some (r1,r2,r3)) :
  Calls Tryz.prog 64 #[.agg #[.bool a0_0,.slice A0_1 l0_1.length c0_1,.slice A0_2 l0_2.length c0_2]] w fun e w'=>∃ v1_ v2_:Value,e=.returned (.agg #[.bool r1,v1_,v2_])∧Kd.R (Kd.int .u32) 81 w' w.heap.size (fun k_=>some k_≠(v2_:Value).ownBlock) v1_ r2∧Kd.R (Kd.int .u32) 81 w' w.heap.size (fun k_=>some k_≠(v1_:Value).ownBlock) v2_ r3∧Below w.heap.size w w':=by
 have hu40:=Tryz.underlying40
 have hu27:=Tryz.underlying27
 have HR0_1:=Aside0.mk hr0_1
 have HC0_1:=Aside0.mk hc0_1
 clear hr0_1 hc0_1
 have HR0_2:=Aside0.mk hr0_2
 have HC0_2:=Aside0.mk hc0_2
 clear hr0_2 hc0_2
 have HB:=Aside0.mk (Below.refl w.heap.size w)
 have H:((fluxionref01_Limbs.f k l0_1).bind fun t159=>((fluxionref01_Limbs.f k l0_2).bind fun t162=>(some (a0_0,t159,t162))))=some (r1,r2,r3):=h
 clear h
 replace H:=Option.bind_eq_some_iff.mp H
 obtain⟨t159,A20,H⟩:=H
 replace H:((fluxionref01_Limbs.f k l0_2).bind fun t162=>(some (a0_0,t159,t162)))=some (r1,r2,r3):=H
 have A2:=Aside0.mk A20
 clear A20
 replace H:=Option.bind_eq_some_iff.mp H
 obtain⟨t162,A30,H⟩:=H
 replace H:(some (a0_0,t159,t162))=some (r1,r2,r3):=H
 have A3:=Aside0.mk A30
 clear A30
 simp only [Option.some.injEq,Prod.mk.injEq] at H
 obtain⟨rfl,rfl,rfl⟩:=H
 go_enter Tryz.func64,Tryz.ntmps64
 try go_wp2_with (first | ((with_reducible refine zbD (N:=1) rfl ?_); refine zbC ?hg (N:=1) ?hd (cs:=#[.bool a0_0,.slice A0_1 l0_1.length c0_1,.slice A0_2 l0_2.length c0_2]) (t:=40) ?hr ?_; (case hd=>rfl); (case hg=>rfl); (case hr=>first | (go_simp; done) | (go_simp; rfl)); intro gb157 hg w4 hbox hb; have n0_:=Aside0.mk (zbm (qb HB.out) hb); have n1_:=Aside0.mk (hbox); have n2_:=Aside0.mk ((by rw [hg]; exact(zbp (qb HB.out)):w.heap.size≤gb157)); have n3_:=Aside0.mk ((by rw [hg]; exact(zbp (qb HB.out)):w.heap.size≤gb157)); clear HB; have HB:=n0_; have BK157:=n1_; have GW157:=n2_; have GE157:=n3_; clear n0_ n1_ n2_ n3_; clear hb hbox hg) | ((with_reducible refine zbD (N:=2) rfl ?_); refine zbC ?hg (N:=2) ?hd (cs:=#[.bool false,.slice none 0 0,.slice none 0 0]) (t:=27) ?hr ?_; (case hd=>rfl); (case hg=>rfl); (case hr=>first | (go_simp; done) | (go_simp; rfl)); intro gb158 hg w5 hbox hb; have n0_:=Aside0.mk (zbr (g:=gb157) (o:=.cells #[.bool a0_0,.slice A0_1 l0_1.length c0_1,.slice A0_2 l0_2.length c0_2] 40 (0,0)) (qk BK157.out) hb); have n1_:=Aside0.mk (zbm (qb1 HB.out GE157.out) hb); have n2_:=Aside0.mk (hbox); have n3_:=Aside0.mk ((by rw [hg]; exact(zbp (qb1 HB.out GE157.out)):w.heap.size≤gb158)); have n4_:=Aside0.mk ((by rw [hg]; exact(zbp (qb1 HB.out GE157.out)):w.heap.size≤gb158)); have n5_:=Aside0.mk ((by rw [hg]; exact Nat.ne_of_lt (zbL (g:=gb157) (o:=.cells #[.bool a0_0,.slice A0_1 l0_1.length c0_1,.slice A0_2 l0_2.length c0_2] 40 (0,0)) (qk BK157.out)):gb157≠gb158)); have n6_:=Aside0.mk ((by rw [hg]; exact Nat.ne_of_gt (zbL (g:=gb157) (o:=.cells #[.bool a0_0,.slice A0_1 l0_1.length c0_1,.slice A0_2 l0_2.length c0_2] 40 (0,0)) (qk BK157.out)):gb158≠gb157)); clear BK157; clear HB; have BK157:=n0_; have HB:=n1_; have BK158:=n2_; have GW158:=n3_; have GE158:=n4_; have NB157_158:=n5_; have NB158_157:=n6_; clear n0_ n1_ n2_ n3_ n4_ n5_ n6_; clear hb hbox hg))
 have n0_:=Aside0.mk (zbu BK157.out)
 have n1_:=Aside0.mk (zbu BK158.out)
 have n2_:=Aside0.mk (zbs HB.out)
 clear BK157
 clear BK158
 clear HB
 have BK157:=n0_
 have BK158:=n1_
 have HB:=n2_
 clear n0_ n1_ n2_
 refine zco (n:=10) (S:=fun w'=>w'.cell? ⟨gb157,0,none⟩=some (.bool a0_0)∧w'.cell? ⟨gb157,1,none⟩=some (.slice A0_1 l0_1.length c0_1)∧w'.cell? ⟨gb157,2,none⟩=some (.slice A0_2 l0_2.length c0_2)) (ds:=[]) #[zf,zf,zf,zf,zf,zf,zf,zf,zf,zf] (by kernel_rfl) rfl rfl ⟨(zbq BK157.out 0).trans rfl,(zbq BK157.out 1).trans rfl,(zbq BK157.out 2).trans rfl⟩ (fun hHeld=>?_); refine zcf fluxionref03_Back.tab1 fluxionref03_Back.bits1 (fun HT_ HW_=>?_)
 generalize w5.drew=w6 at BK157 BK158 HB hHeld ⊢
 refine qpT 0 (some 3) ?_
 refine qpT 2 (some 5) ?_
 refine qpT 5 (some 8) ?_
 refine take_ (i:=1) (N:=some 4) (v:=?_) (a':=?_) #[zt,zt,zt,zf,zf,zt,zf,zf,zf,zf] rfl rfl (zb9 HT_.out HW_.out (by kernel_rfl)) (fun _ _ _ h=>h) (Or.inl ⟨by rfl,?_⟩) hHeld ?_ ?_
 rotate_left
 ·
  rintro w' ⟨s0,s1,s2⟩
  go_simp
  with_reducible rfl
 rotate_left
 ·
  simp only [Act.put,zA1,zA2,zA3,zcb,zcw]
  rfl
 refine take_ (i:=3) (N:=some 6) (v:=?_) (a':=?_) #[zt,zt,zt,zt,zf,zt,zf,zf,zf,zf] rfl rfl (zb9 HT_.out HW_.out (by kernel_rfl)) (fun _ _ _ h=>h) (Or.inl ⟨by rfl,?_⟩) hHeld ?_ ?_
 rotate_left
 ·
  rintro w' ⟨s0,s1,s2⟩
  go_simp
  with_reducible rfl
 rotate_left
 ·
  simp only [Act.put,zA1,zA2,zA3,zcb,zcw]
  rfl
 refine take_ (i:=6) (N:=some 9) (v:=?_) (a':=?_) #[zt,zt,zt,zt,zf,zt,zt,zf,zf,zf] rfl rfl (zb9 HT_.out HW_.out (by kernel_rfl)) (fun _ _ _ h=>h) (Or.inl ⟨by rfl,?_⟩) hHeld ?_ ?_
 rotate_left
 ·
  rintro w' ⟨s0,s1,s2⟩
  go_simp
  with_reducible rfl
 rotate_left
 ·
  simp only [Act.put,zA1,zA2,zA3,zcb,zcw]
  rfl
 refine qoT 4 (some 7) (fun K hK=>?_)
 refine goes_ Tryz.func118 (by kernel_rfl) rfl #[.slice A0_1 l0_1.length c0_1] (by rfl) rfl rfl (by (try simp only [List.map_toArray,List.map_cons,List.map_nil]); first | done | rfl | (simp only [List.length_drop,List.length_take]; rfl)) ?_
 with_reducible refine(fluxionref01_Limbs.calls k (fun k_=>k_ < w.heap.size) _ _ l0_1 t159 _ ?side1 A2.out).mono ?_
 (case side1=>exact Kd.V_mk HC0_1.out (Kd.F_below (Kd.C_F (Kd.heap_int .i64) HR0_1.out) (qb2 HB.out GE157.out GE158.out)))
 rintro e w7 ⟨v160,rfl,ho0,hb⟩
 refine⟨_,rfl,?_⟩
 have n0_:=Aside0.mk (Kd.R_lower (Kd.R_mono (ok':=fun k_=>True) ho0 (fun _ hk_=>trivial)) (zbp (qb2 HB.out GE157.out GE158.out)))
 have n1_:=Aside0.mk (zbr (g:=gb157) (o:=.cells #[.bool a0_0,.slice A0_1 l0_1.length c0_1,.slice A0_2 l0_2.length c0_2] 40 (0,0)) (qk BK157.out) hb)
 have n2_:=Aside0.mk (zbr (g:=gb158) (o:=.cells #[.bool false,.slice none 0 0,.slice none 0 0] 27 (0,0)) (qk BK158.out) hb)
 have n3_:=Aside0.mk (zbm (qb2 HB.out GE157.out GE158.out) hb)
 clear BK157
 clear BK158
 clear HB
 have HO161:=n0_
 have BK157:=n1_
 have BK158:=n2_
 have HB:=n3_
 clear n0_ n1_ n2_ n3_
 (try clear hb)
 (try clear hb2)
 (try clear hk)
 (try clear hi)
 (try clear ho0)
 refine hK.out _ _ ⟨(zbq BK157.out 0).trans rfl,(zbq BK157.out 1).trans rfl,(zbq BK157.out 2).trans rfl⟩ (fun hHeld=>?_)
 clear hK K
 refine qn ?_
 refine qoT 7 (some 10) (fun K hK=>?_)
 refine goes_ Tryz.func118 (by kernel_rfl) rfl #[.slice A0_2 l0_2.length c0_2] (by rfl) rfl rfl (by (try simp only [List.map_toArray,List.map_cons,List.map_nil]); first | done | rfl | (simp only [List.length_drop,List.length_take]; rfl)) ?_
 with_reducible refine(fluxionref01_Limbs.calls k (fun k_=>k_ < w.heap.size) _ _ l0_2 t162 _ ?side1 A3.out).mono ?_
 (case side1=>exact Kd.V_mk HC0_2.out (Kd.F_below (Kd.C_F (Kd.heap_int .i64) HR0_2.out) (qb2 HB.out GE157.out GE158.out)))
 rintro e w8 ⟨v163,rfl,ho0,hb⟩
 refine⟨_,rfl,?_⟩
 have n0_:=Aside0.mk (Kd.R_elder' (qr HO161.out) (Kd.R_base ho0) hb)
 have n1_:=Aside0.mk (Kd.R_lower (Kd.R_new' (Kd.R_mono (ok':=fun k_=>True) ho0 (fun _ hk_=>trivial)) (Kd.R_lt (qr HO161.out))) (zbp (qb2 HB.out GE157.out GE158.out)))
 have n2_:=Aside0.mk (zbr (g:=gb157) (o:=.cells #[.bool a0_0,.slice A0_1 l0_1.length c0_1,.slice A0_2 l0_2.length c0_2] 40 (0,0)) (qk BK157.out) hb)
 have n3_:=Aside0.mk (zbr (g:=gb158) (o:=.cells #[.bool false,.slice none 0 0,.slice none 0 0] 27 (0,0)) (qk BK158.out) hb)
 have n4_:=Aside0.mk (zbm (qb2 HB.out GE157.out GE158.out) hb)
 clear HO161
 clear BK157
 clear BK158
 clear HB
 have HO161:=n0_
 have HO164:=n1_
 have BK157:=n2_
 have BK158:=n3_
 have HB:=n4_
 clear n0_ n1_ n2_ n3_ n4_
 (try clear hb)
 (try clear hb2)
 (try clear hk)
 (try clear hi)
 (try clear ho0)
 obtain⟨Ao9,co9,eo9⟩:=Kd.R_slice HO164.out
 (first | subst eo9 | (injection eo9 with f1_ f2_ f3_; have f4_:=f1_.symm; have f5_:=f3_.symm; clear f1_ f2_ f3_; subst f4_; subst f5_))
 obtain⟨Ao10,co10,eo10⟩:=Kd.R_slice HO161.out
 (first | subst eo10 | (injection eo10 with f1_ f2_ f3_; have f4_:=f1_.symm; have f5_:=f3_.symm; clear f1_ f2_ f3_; subst f4_; subst f5_))
 refine hK.out _ _ ⟨(zbq BK157.out 0).trans rfl,(zbq BK157.out 1).trans rfl,(zbq BK157.out 2).trans rfl⟩ (fun hHeld=>?_)
 clear hK K
 refine qn ?_
 refine qpT 8 (some 11) ?_
 refine qoT 9 none (fun K hK=>?_)
 have hs11:w8.cell? ⟨gb158,0,none⟩=some (.bool false):=(zbq BK158.out 0).trans rfl
 have hfs11:=zbA BK158.out 0
 have hns11_0:=NB157_158.out
 have hms11_0:=NB158_157.out
 have hs12:w8.cell? ⟨gb158,1,none⟩=some (.slice none 0 0):=(zbq BK158.out 1).trans rfl
 have hfs12:=zbA BK158.out 1
 have hns12_0:=NB157_158.out
 have hms12_0:=NB158_157.out
 have hs13:w8.cell? ⟨gb158,2,none⟩=some (.slice none 0 0):=(zbq BK158.out 2).trans rfl
 have hfs13:=zbA BK158.out 2
 have hns13_0:=NB157_158.out
 have hms13_0:=NB158_157.out
 refine qx ?_
 refine hK.out _ _ ⟨((zb4 (p:=⟨gb158,_,none⟩) NB157_158.out _).trans (((zb4 (p:=⟨gb158,_,none⟩) NB157_158.out _).trans (((zb4 (p:=⟨gb158,_,none⟩) NB157_158.out _).trans (hHeld.1)))))),((zb4 (p:=⟨gb158,_,none⟩) NB157_158.out _).trans (((zb4 (p:=⟨gb158,_,none⟩) NB157_158.out _).trans (((zb4 (p:=⟨gb158,_,none⟩) NB157_158.out _).trans (hHeld.2.1)))))),((zb4 (p:=⟨gb158,_,none⟩) NB157_158.out _).trans (((zb4 (p:=⟨gb158,_,none⟩) NB157_158.out _).trans (((zb4 (p:=⟨gb158,_,none⟩) NB157_158.out _).trans (hHeld.2.2))))))⟩ (fun hHeld=>?_)
 clear hK K
 refine done_ (done_of HT_.out (by kernel_rfl)) ?_
 try go_wp2
 refine bodyPost_ret (results_cell_row rfl _ _ gb158 27 #[.bool a0_0,.slice Ao10 t159.length co10,.slice Ao9 t162.length co9] (0,0) _ rfl (by (with_reducible repeat (first | refine zbv ?_ _ | refine zbu ?_ | refine zbt ?_ _)); refine zbF (cs:=#[.bool a0_0,.slice Ao10 t159.length co10,.slice none 0 0]) ?_ 2 _ rfl; (with_reducible repeat (first | refine zbv ?_ _ | refine zbu ?_ | refine zbt ?_ _)); refine zbF (cs:=#[.bool a0_0,.slice none 0 0,.slice none 0 0]) ?_ 1 _ rfl; (with_reducible repeat (first | refine zbv ?_ _ | refine zbu ?_ | refine zbt ?_ _)); refine zbF (cs:=#[.bool false,.slice none 0 0,.slice none 0 0]) ?_ 0 _ rfl; (with_reducible repeat (first | refine zbv ?_ _ | refine zbu ?_ | refine zbt ?_ _)); exact BK158.out) Tryz.underlying27 rfl (by kernel_rfl)) rfl ?_
 exact⟨_,_,by first | rfl | (simp [zbx,zbw]<;>rfl) | (simp [*,zbx,zbw]<;>rfl),by (with_reducible repeat (first | apply Kd.R_alloc | apply Kd.R_drewN | apply Kd.R_drew)); exact Kd.R_mono (Kd.R_far (p:=⟨gb158,2,none⟩) (Kd.R_far (p:=⟨gb158,1,none⟩) (Kd.R_far (p:=⟨gb158,0,none⟩) (Kd.R_types HO161.out BK158.out (by decide)) (fun _ hk=>hk.2) (.bool a0_0)) (fun _ hk=>hk.2) (.slice Ao10 t159.length co10)) (fun _ hk=>hk.2) (.slice Ao9 t162.length co9)) (fun _ hk=>hk.1.2),by (with_reducible repeat (first | apply Kd.R_alloc | apply Kd.R_drewN | apply Kd.R_drew)); exact Kd.R_mono (Kd.R_far (p:=⟨gb158,2,none⟩) (Kd.R_far (p:=⟨gb158,1,none⟩) (Kd.R_far (p:=⟨gb158,0,none⟩) (Kd.R_types HO164.out BK158.out (by decide)) (fun _ hk=>hk.2) (.bool a0_0)) (fun _ hk=>hk.2) (.slice Ao10 t159.length co10)) (fun _ hk=>hk.2) (.slice Ao9 t162.length co9)) (fun _ hk=>hk.1.2),by repeat (first | (with_reducible first | exact HB.out | apply zbn | apply zbo | apply zbs | refine zbB ?_ GE157.out | refine zbB ?_ GE158.out) | exact HB.out)⟩
end Go.Proofs.YtehghijlchpeaaaGreat.M
end
end
section
noncomputable section
namespace Go.Proofs.YtehghijlchpeaaaGreat.M
open Go.RowKit YtehghijlchpeaaaGreat.H YtehghijlchpeaaaGreat.J YtehghijlchpeaaaGreat.L YtehghijlchpeaaaGreat.Nat1 YtehghijlchpeaaaGreatW.PrintWords YtehghijlchpeaaaGreatW.PrintLast YtehghijlchpeaaaGreatW.PrintMore
attribute [local go_sem] zbX zbZ zb2 zb1 zbQ zbR zbW zbY   -- for this text's walks alone
end Go.Proofs.YtehghijlchpeaaaGreat.M
end
end
section
namespace Go.Proofs.YtehghijlchpeaaaGreat.Ev
open Go.RowKit YtehghijlchpeaaaGreatW.PrintWords YtehghijlchpeaaaGreatW.PrintLast YtehghijlchpeaaaGreatW.PrintMore L Nt Nat1
def mayS (s:List Int):Int:=if 4 < s.length then 14 else if s.all (fun d=>decide (1≤d))=true then (if 1024 < pdF 1 s then 14 else 0) else 13
def cntS (s:List Int):Int:=if mayS s=0 then pdF 1 s else 0
theorem all_drop {s:List Int} {i:Nat} (h:i < s.length):(s.drop i).all (fun d=>decide (1≤d))=(decide (1≤rd s (i:Int)) && (s.drop (i+1)).all (fun d=>decide (1≤d))):=by
 rw [drop_rd h,List.all_cons]
theorem shapeMay_loop {s:List Int} (hl:s.length≤4) (n:Nat):∀ i,i+n=s.length→(s.all (fun d=>decide (1≤d))=(s.drop i).all (fun d=>decide (1≤d))) →
  Ev (fun k=>M.shape_May.l0 k s s (s.length:Int) (i:Int)) (if s.all (fun d=>decide (1≤d))=true then (if 1024 < pdF 1 s then 14 else 0) else 13):=by
 induction n with
 | zero =>
  intro i hi ha
  have hall:s.all (fun d=>decide (1≤d))=true:=by rw [ha,List.drop_eq_nil_of_le (by omega)]; rfl
  rw [if_pos hall]
  refine Ev.succ (Ev.congr (Ev.some _) (fun k=>?_))
  rw [M.shape_May.l0,if_neg (by omega),shape_product.f,if_pos ⟨hall,by omega⟩,Option.bind_some]
  by_cases h:1024 < pdF 1 s
  ·
   rw [if_pos h,if_pos h]
  ·
   rw [if_neg h,if_neg (by omega)]
 | succ n ih =>
  intro i hi ha
  have hlt:i < s.length:=by omega
  have e:=all_drop hlt
  by_cases h1:1≤rd s (i:Int)
  ·
   rw [decide_eq_true h1,Bool.true_and] at e
   refine Ev.succ (Ev.congr (ih (i+1) (by omega) (ha.trans e)) (fun k=>?_))
   rw [M.shape_May.l0,if_pos (by omega),if_pos (by omega),if_pos (by omega),if_neg (by omega),w_succ (by omega)]
  ·
   rw [decide_eq_false h1,Bool.false_and] at e
   rw [if_neg (by rw [ha,e]; decide)]
   refine Ev.succ (Ev.congr (Ev.some _) (fun k=>?_))
   rw [M.shape_May.l0,if_pos (by omega),if_pos (by omega),if_pos (by omega),if_pos (by omega)]
theorem shapeMay_ev (s:List Int):Ev (fun k=>M.shape_May.f k s) (mayS s):=by
 unfold mayS
 by_cases h:4 < s.length
 ·
  rw [if_pos h]
  refine Ev.congr (Ev.some _) (fun k=>?_)
  rw [M.shape_May.f,if_pos (by omega)]
 ·
  rw [if_neg h]
  refine Ev.congr (shapeMay_loop (by omega) s.length 0 (by omega) (by rw [List.drop_zero])) (fun k=>?_)
  rw [M.shape_May.f,if_neg (by omega)]
  rfl
theorem refMay_loop1 {s:List Int} (hl:s.length≤4) (ha:∀ d∈s,1≤d) (j:Nat):∀ i n:Nat,i+j=s.length→1≤n→n≤1024→Ev (fun k=>M.fluxionref06_May.l1 k s (n:Int) (i:Int)) (if 1024 < pdF n (s.drop i) then 14 else 0):=by
 induction j with
 | zero =>
  intro i n hi h1 h2
  rw [List.drop_eq_nil_of_le (by omega),pdF,if_neg (by omega)]
  refine Ev.succ (Ev.congr (Ev.some _) (fun k=>?_))
  rw [M.fluxionref06_May.l1,if_neg (by omega)]
 | succ j ih =>
  intro i n hi h1 h2
  have hlt:i < s.length:=by omega
  have hd:=rd_one ha hlt
  rw [drop_rd hlt,pdF]
  generalize hrd:rd s (i:Int)=d at *
  by_cases hb:1024 < d
  ·
   rw [if_pos (show 1024 < n*d.toNat from Nat.lt_of_lt_of_le (show 1024 < d.toNat by omega) (Nat.le_mul_of_pos_left _ h1)),if_pos (by omega)]
   refine Ev.succ (Ev.congr (Ev.some _) (fun k=>?_))
   rw [M.fluxionref06_May.l1,if_pos (by omega),if_pos (by omega),hrd,if_pos (by omega)]
  ·
   have hN:(n:Int)*d=((n*d.toNat:Nat):Int):=by rw [Int.natCast_mul,Int.toNat_of_nonneg (by omega)]
   have hM:n*d.toNat≤1024*1024:=Nat.mul_le_mul h2 (by omega)
   have hw:wrap64 ((n:Int)*d)=((n*d.toNat:Nat):Int):=by rw [hN]; exact w64 (by omega) (by omega)
   have hp:1≤n*d.toNat:=Nat.mul_pos h1 (by omega)
   by_cases hc:1024 < n*d.toNat
   ·
    rw [if_pos hc,if_pos (by omega)]
    refine Ev.succ (Ev.congr (Ev.some _) (fun k=>?_))
    rw [M.fluxionref06_May.l1,if_pos (by omega),if_pos (by omega),hrd,if_neg (by omega),hw,if_pos (by omega)]
   ·
    rw [if_neg hc]
    refine Ev.succ (Ev.congr (ih (i+1) (n*d.toNat) (by omega) hp (by omega)) (fun k=>?_))
    rw [M.fluxionref06_May.l1,if_pos (by omega),if_pos (by omega),hrd,if_neg (by omega),hw,if_neg (by omega),w_succ (by omega)]
theorem refMay_loop0 {s:List Int} (hl:s.length≤4) (n:Nat):∀ i,i+n=s.length→(s.all (fun d=>decide (1≤d))=(s.drop i).all (fun d=>decide (1≤d))) →
  Ev (fun k=>M.fluxionref06_May.l0 k s (i:Int)) (if s.all (fun d=>decide (1≤d))=true then (if 1024 < pdF 1 s then 14 else 0) else 13):=by
 induction n with
 | zero =>
  intro i hi ha
  have hall:s.all (fun d=>decide (1≤d))=true:=by rw [ha,List.drop_eq_nil_of_le (by omega)]; rfl
  rw [if_pos hall]
  have:=refMay_loop1 hl (fun d hd=>by simpa using List.all_eq_true.1 hall d hd) s.length 0 1 (by omega) (by omega) (by omega)
  rw [List.drop_zero] at this
  refine Ev.succ (Ev.congr this (fun k=>?_))
  rw [M.fluxionref06_May.l0,if_neg (by omega)]
  rfl
 | succ n ih =>
  intro i hi ha
  have hlt:i < s.length:=by omega
  have e:=all_drop hlt
  by_cases h1:1≤rd s (i:Int)
  ·
   rw [decide_eq_true h1,Bool.true_and] at e
   refine Ev.succ (Ev.congr (ih (i+1) (by omega) (ha.trans e)) (fun k=>?_))
   rw [M.fluxionref06_May.l0,if_pos (by omega),if_pos (by omega),if_neg (by omega),w_succ (by omega)]
  ·
   rw [decide_eq_false h1,Bool.false_and] at e
   rw [if_neg (by rw [ha,e]; decide)]
   refine Ev.succ (Ev.congr (Ev.some _) (fun k=>?_))
   rw [M.fluxionref06_May.l0,if_pos (by omega),if_pos (by omega),if_pos (by omega)]
theorem refMay6_ev (s:List Int):Ev (fun k=>M.fluxionref06_May.f k s) (mayS s):=by
 unfold mayS
 by_cases h:4 < s.length
 ·
  rw [if_pos h]
  refine Ev.congr (Ev.some _) (fun k=>?_)
  rw [M.fluxionref06_May.f,if_pos (by omega)]
 ·
  rw [if_neg h]
  refine Ev.congr (refMay_loop0 (by omega) s.length 0 (by omega) (by rw [List.drop_zero])) (fun k=>?_)
  rw [M.fluxionref06_May.f,if_neg (by omega)]
  rfl
theorem mayS_zero {s:List Int} (h:mayS s=0):s.length≤4∧s.all (fun d=>decide (1≤d))=true∧(∀ d∈s,1≤d)∧pdF 1 s≤1024:=by
 unfold mayS at h
 split at h
 ·
  exact absurd h (by decide)
 ·
  split at h
  ·
   rename_i hall
   split at h
   ·
    exact absurd h (by decide)
   ·
    exact⟨by omega,hall,fun d hd=>by simpa using List.all_eq_true.1 hall d hd,by omega⟩
  ·
   exact absurd h (by decide)
theorem shapeCount_ev (s:List Int):Ev (fun k=>M.shape_Count.f k s) (cntS s):=by
 have h0:=shapeMay_ev s
 unfold cntS
 by_cases h:mayS s=0
 ·
  obtain⟨g1,g2,g3,g4⟩:=mayS_zero h
  rw [if_pos h]
  refine Ev.congr (Ev.bind h0 (G:=fun k t=>if t=0 then ((shape_product.f s).bind fun u=>some u) else some 0) (b:=pdF 1 s) (Ev.congr (Ev.some _) (fun k=>?_))) (fun k=>?_)
  ·
   rw [if_pos h,shape_product.f,if_pos ⟨g2,by omega⟩,Option.bind_some]
  ·
   rw [M.shape_Count.f]
 ·
  rw [if_neg h]
  refine Ev.congr (Ev.bind h0 (G:=fun k t=>if t=0 then ((shape_product.f s).bind fun u=>some u) else some 0) (b:=0) (Ev.congr (Ev.some _) (fun k=>?_))) (fun k=>?_)
  ·
   rw [if_neg h]
  ·
   rw [M.shape_Count.f]
theorem refCount_loop {s:List Int} (hl:s.length≤4) (ha:∀ d∈s,1≤d) (j:Nat):∀ i n:Nat,i+j=s.length→1≤n→n≤1024→pdF n (s.drop i)≤1024→Ev (fun k=>M.fluxionref06_Count.l0 k s (n:Int) (i:Int)) (pdF n (s.drop i)):=by
 induction j with
 | zero =>
  intro i n hi h1 h2 hp
  rw [List.drop_eq_nil_of_le (by omega),pdF]
  refine Ev.succ (Ev.congr (Ev.some _) (fun k=>?_))
  rw [M.fluxionref06_Count.l0,if_neg (by omega)]
 | succ j ih =>
  intro i n hi h1 h2 hp
  have hlt:i < s.length:=by omega
  have hd:=rd_one ha hlt
  rw [drop_rd hlt,pdF] at hp ⊢
  generalize hrd:rd s (i:Int)=d at *
  by_cases hc:1024 < n*d.toNat
  ·
   rw [if_pos hc] at hp
   omega
  ·
   rw [if_neg hc] at hp ⊢
   have hN:(n:Int)*d=((n*d.toNat:Nat):Int):=by rw [Int.natCast_mul,Int.toNat_of_nonneg (by omega)]
   have hw:wrap64 ((n:Int)*d)=((n*d.toNat:Nat):Int):=by rw [hN]; exact w64 (by omega) (by omega)
   refine Ev.succ (Ev.congr (ih (i+1) (n*d.toNat) (by omega) (Nat.mul_pos h1 (by omega)) (by omega) hp) (fun k=>?_))
   rw [M.fluxionref06_Count.l0,if_pos (by omega),if_pos (by omega),hrd,hw,w_succ (by omega)]
theorem refCount6_ev (s:List Int):Ev (fun k=>M.fluxionref06_Count.f k s) (cntS s):=by
 have h0:=refMay6_ev s
 unfold cntS
 by_cases h:mayS s=0
 ·
  obtain⟨g1,g2,g3,g4⟩:=mayS_zero h
  rw [if_pos h]
  have h1:=refCount_loop g1 g3 s.length 0 1 (by omega) (by omega) (by omega) (by rw [List.drop_zero]; exact g4)
  rw [List.drop_zero] at h1
  refine Ev.congr (Ev.bind h0 (G:=fun k t=>if t=0 then M.fluxionref06_Count.l0 k s 1 0 else some 0) (b:=pdF 1 s) (Ev.congr h1 (fun k=>?_))) (fun k=>?_)
  ·
   rw [if_pos h]; rfl
  ·
   rw [M.fluxionref06_Count.f]
 ·
  rw [if_neg h]
  refine Ev.congr (Ev.bind h0 (G:=fun k t=>if t=0 then M.fluxionref06_Count.l0 k s 1 0 else some 0) (b:=0) (Ev.congr (Ev.some _) (fun k=>?_))) (fun k=>?_)
  ·
   rw [if_neg h]
  ·
   rw [M.fluxionref06_Count.f]
end Go.Proofs.YtehghijlchpeaaaGreat.Ev
end
section
namespace Go.Proofs.YtehghijlchpeaaaGreat.Nat1
open Go.RowKit Go.Shelf YtehghijlchpeaaaGreatW.PrintWords YtehghijlchpeaaaGreatW.PrintLast YtehghijlchpeaaaGreatW.PrintMore L Nt
attribute [local go_sem] Oper.semAt_some
def EL (w:World) (v:Value) (x:M.S27):Prop:=∃ (A1:Option Addr) (c1:Nat) (A2:Option Addr) (c2:Nat),v=.agg #[.bool x.f0,.slice A1 x.f1.length c1,.slice A2 x.f2.length c2] ∧
 (Kd.C (Kd.int .u32) w A1 x.f1.length x.f1∧x.f1.length≤c1)∧(Kd.C (Kd.int .u32) w A2 x.f2.length x.f2∧x.f2.length≤c2)
theorem EL.below {w w':World} {v:Value} {x:M.S27} (h:EL w v x) (hb:Below w.heap.size w w'):EL w' v x:=by
 obtain⟨A1,c1,A2,c2,rfl,h1,h2⟩:=h
 exact⟨A1,c1,A2,c2,rfl,⟨Kd.C_below h1.1 hb,h1.2⟩,⟨Kd.C_below h2.1 hb,h2.2⟩⟩
def ECells (w:World) (B:Option Addr) (n:Nat) (ev:Nat→Value):Prop :=
 ∀ i,i < n→∃ (ad:Addr) (x:Bool) (A1:Option Addr) (m1 c1:Nat) (A2:Option Addr) (m2 c2:Nat),B=some ad∧ev i=.agg #[.bool x,.slice A1 m1 c1,.slice A2 m2 c2]∧w.cell? (ad.add (i*3))=some (.bool x)∧w.cell? ⟨(ad.add (i*3)).block,(ad.add (i*3)).off+1,none⟩=some (.slice A1 m1 c1)∧w.cell? ⟨(ad.add (i*3)).block,(ad.add (i*3)).off+2,none⟩=some (.slice A2 m2 c2)
theorem evs {w:World} {B:Option Addr} {es:List M.S27} (h:M.k27.C w B es.length es):∃ ev:Nat→Value,(∀ i,EL w (ev i) (M.rd_T27 es (i:Int)))∧ECells w B es.length ev:=by
 have key:∀ i:Nat,∃ v:Value,EL w v (M.rd_T27 es (i:Int))∧(i < es.length→∃ (ad:Addr) (x:Bool) (A1:Option Addr) (m1 c1:Nat) (A2:Option Addr) (m2 c2:Nat),B=some ad∧v=.agg #[.bool x,.slice A1 m1 c1,.slice A2 m2 c2]∧w.cell? (ad.add (i*3))=some (.bool x)∧w.cell? ⟨(ad.add (i*3)).block,(ad.add (i*3)).off+1,none⟩=some (.slice A1 m1 c1)∧w.cell? ⟨(ad.add (i*3)).block,(ad.add (i*3)).off+2,none⟩=some (.slice A2 m2 c2)):=by
  intro i
  by_cases hi:i < es.length
  ·
   obtain⟨ad,A1,c1,A2,c2,e,q0,q1,q2,l1,g1,l2,g2⟩:=M.at_T27 h (i:Int) (by omega) (by omega)
   rw [Int.toNat_natCast] at q0 q1 q2
   exact⟨_,⟨A1,c1,A2,c2,rfl,⟨g1,l1⟩,⟨g2,l2⟩⟩,fun _=>⟨ad,_,_,_,_,_,_,_,e,rfl,q0,q1,q2⟩⟩
  ·
   have hz:M.rd_T27 es (i:Int)=M.z27:=by
    unfold M.rd_T27
    rw [Int.toNat_natCast,List.getD_eq_getElem?_getD,List.getElem?_eq_none (by omega)]
    rfl
   rw [hz]
   exact⟨.agg #[.bool false,.slice none 0 0,.slice none 0 0],⟨none,0,none,0,rfl,⟨C_none w,Nat.le_refl _⟩,⟨C_none w,Nat.le_refl _⟩⟩,fun h=>absurd h hi⟩
 refine⟨fun i=>(key i).choose,fun i=>(key i).choose_spec.1,fun i hi=>(key i).choose_spec.2 hi⟩
theorem all_calls (sv lv:Value) (w:World) :
  Calls Tryz.prog 87 #[.agg #[sv,lv]] w fun e w'=>e=.returned (.func (.func 134) #[] #[.pointer (some ⟨w.heap.size,0,none⟩)]) ∧
   w'.heap[w.heap.size]? = some (.cells #[sv,lv] 91 (0,0))∧Below w.heap.size w w':=by
 have hu:=Tryz.underlying91
 go_enter Tryz.func87,Tryz.ntmps87
 go_wp2
 go_ret
 exact⟨rfl,zbI w _,zbn (Below.refl _ _) _⟩
theorem take_succ_range {n k:Nat} (h:k < n):List.range n=List.range k++[k]++(List.range n).drop (k+1):=by
 have h1:(List.range n).take (k+1)=List.range (k+1):=by rw [List.take_range]; congr 1; omega
 have h2:=List.take_append_drop (k+1) (List.range n)
 rw [h1,List.range_succ] at h2
 exact h2.symm
theorem all1_in (F : Fence) (fl : Nat) (hF : F.fn 134) (hro : F.round = none) (hn : 1 ≤ fl) (l Bn n₀ : Nat) (n : Nat) (sv : Value) (B : Option Addr) (cp : Nat) (ev : Nat → Value) (hnb : n ≤ 4398046511104) (J Jx : List Nat → World → Prop) (w0 : World) (hn0 : w0.heap.size ≤ n₀) (hE : ECells w0 B n ev)
    (hJ : ∀ pre W W', J pre W → Below W.heap.size W W' → J pre W')
    (hY : ∀ (pre : List Nat) (x : Nat) (W : World), J pre W → pre = List.range x → x < n → YieldAt F (fl - 1) Tryz.prog l #[.int .i64 (x : Int), ev x] W fun e W' =>
      (e = .returned (.bool true) ∧ J (pre ++ [x]) W' ∧ Below n₀ W W') ∨ (e = .returned (.bool false) ∧ Jx (pre ++ [x]) W'))
    (W : World) (hnW : n₀ ≤ W.heap.size) (hW : Below w0.heap.size w0 W) (hBn : W.heap[Bn]? = some (.cells #[sv, .slice B n cp] 91 (0, 0))) (h0 : J [] W) :
    CallsIn F fl Tryz.prog 134 #[.func (.yield l) #[] #[], .pointer (some ⟨Bn, 0, none⟩)] W fun e W' => (∃ v, e = .returned v) ∧
      ((∃ ys, ys = List.range n ∧ J ys W') ∨ (∃ pre, pre <+: List.range n ∧ Jx pre W')) := by
  have hu := Tryz.underlying91
  have hu25 := Tryz.underlying27
  have hc1 := (zbq hBn 1)
  have hc1 : W.cell? ⟨Bn, 1, none⟩ = some (.slice B n cp) := hc1.trans rfl
  refine callsIn_of_wp Tryz.func134 rfl hF ?_ hro
  simp only [Tryz.ntmps134, List.size_toArray, List.length_cons, List.length_nil, Nat.reduceAdd, Nat.reduceSub, Array.replicate_succ, Array.replicate_zero, List.push_toArray, List.append_toArray, List.nil_append, List.cons_append]
  gi_wp2
  gi_loopw [8] (fun p wr => ∃ (k : Nat), p = .int .i64 (k : Int) ∧ k ≤ n ∧ Aside0 (J (List.range k) wr ∧ Below n₀ W wr)) (fun p wr => n - (intOf p).toNat)
  case atStart =>
    exact ⟨0, rfl, Nat.zero_le _, ⟨h0, Below.refl _ _⟩⟩
  case round =>
    obtain ⟨k, rfl, hk, HI⟩ := hrel
    by_cases hlt : k < n
    · obtain ⟨ad, x, A1, m1, c1, A2, m2, c2, rfl, hev, q0, q1, q2⟩ := hE k hlt
      have hb := hW.trans (HI.out.2.mono hn0)
      have r0 := (hb.cell (World.block_lt_of_cell? w0 _ q0)).trans q0
      have r1 := (hb.cell (World.block_lt_of_cell? w0 _ q1)).trans q1
      have r2 := (hb.cell (World.block_lt_of_cell? w0 _ q2)).trans q2
      have hJ2 := hJ _ _ (wr.alloc (.cells #[.bool x, .slice A1 m1 c1, .slice A2 m2 c2] 27)) HI.out.1 (zbn (Below.refl _ _) _)
      have HB2 := Aside0.mk (HI.out.2.trans ((zbn (Below.refl wr.heap.size wr) (.cells #[.bool x, .slice A1 m1 c1, .slice A2 m2 c2] 27)).mono (Nat.le_trans hnW HI.out.2.size)))
      have hYk := hY _ k _ hJ2 rfl hlt
      rw [hev] at hYk
      obtain ⟨fn, tmps, assign, body, hy, hR⟩ := hYk
      have HR := Aside0.mk hR
      clear hR hJ2 hb q0 q1 q2
      gi_wp2
      refine HR.out.mono ?_
      rintro e W3 (⟨rfl, hJ3, hk3⟩ | ⟨rfl, hJx3⟩)
      · gi_wp2
        go_roundw
        case rel => exact ⟨k + 1, by go_num, by omega, ⟨by rw [List.range_succ]; exact hJ3, HB2.out.trans hk3⟩⟩
        case measure => simp [intOf]; omega
      · gi_wp2
        refine bodyPost_ret (results_none rfl _ _ _) rfl ?_
        exact ⟨⟨_, rfl⟩, .inr ⟨List.range k ++ [k], ⟨(List.range n).drop (k + 1), (take_succ_range hlt).symm⟩, hJx3⟩⟩
    · gi_wp2
      go_end0
      exact ⟨⟨_, rfl⟩, .inl ⟨_, rfl, by have : k = n := by omega
                                        subst this; exact HI.out.1⟩⟩
theorem grown_of_below {W W':World} (h:Below W.heap.size W W'):W.grownBy W' none:=⟨h.os,h.tape,h.output,h.size,fun k hk _=>h.block k hk⟩
theorem all_stops (F:Fence) (n:Nat) (hF:F.fn 134) (hro:F.round=none) (hn:1≤n) (Bn n₀:Nat) (m:Nat) (hm:m≤4398046511104) (sv:Value) (B:Option Addr) (cp:Nat) (ev:Nat→Value) (w0 w:World) (hw:Below w0.heap.size w0 w) (hn1:w0.heap.size≤n₀) (hn2:n₀≤w.heap.size)
  (hE:ECells w0 B m ev) (hBn:w.heap[Bn]? = some (.cells #[sv,.slice B m cp] 91 (0,0))) :
  SeqStopsK F n Tryz.prog 134 #[.pointer (some ⟨Bn,0,none⟩)] (fun x:Nat=>#[Value.int .i64 (x:Int),ev x]) (Below n₀) (fun ys=>ys=List.range m) (fun pre=>pre <+: List.range m) m w:=fun l J Jx W hW hA _ hY h0 =>
 all1_in F n hF hro hn l Bn n₀ m sv B cp ev hm J Jx w0 hn1 hE (fun pre W1 W2 hJ hB=>hA pre W1 W2 none hJ (grown_of_below hB) (fun r e=>by cases e)) (fun pre x W1 hJ e hx=>hY pre x W1 hJ (by rw [e,List.length_range]; exact hx)) W (Nat.le_trans hn2 hW.size) (hw.trans (hW.mono hw.size)) (zbr hBn hW) h0
theorem all_stopsF (F:Fence) (n:Nat) (hF:F.fn 134) (hro:F.round=none) (hn:1≤n) (Bn n₀:Nat) (m:Nat) (hm:m≤4398046511104) (sv:Value) (B:Option Addr) (cp:Nat) (ev:Nat→Value) (w0 w:World) (hw:Below w0.heap.size w0 w) (hn1:w0.heap.size≤n₀) (hn2:n₀≤w.heap.size)
  (hE:ECells w0 B m ev) (hBn:w.heap[Bn]? = some (.cells #[sv,.slice B m cp] 91 (0,0))) :
  SeqStopsK F n Tryz.prog 134 #[.pointer (some ⟨Bn,0,none⟩)] (fun x:Fin m=>#[Value.int .i64 (x.val:Int),ev x.val]) (Below n₀) (fun ys=>ys.map Fin.val=List.range m) (fun pre=>pre.map Fin.val <+: List.range m) m w:=fun l J Jx W hW hA _ hY h0 =>
 (all1_in F n hF hro hn l Bn n₀ m sv B cp ev hm (fun pre W=>∃ p:List (Fin m),p.map Fin.val=pre∧J p W) (fun pre W=>∃ p:List (Fin m),p.map Fin.val=pre∧Jx p W) w0 hn1 hE
  (fun pre W1 W2 hJ hB=>by
   obtain⟨p,e,hj⟩:=hJ
   exact⟨p,e,hA p W1 W2 none hj (grown_of_below hB) (fun r e=>by cases e)⟩)
  (fun pre x W1 hJ e hx=>by
   obtain⟨p,ep,hj⟩:=hJ
   have hl:p.length=x:=by
    have:=congrArg List.length (ep.trans e)
    rwa [List.length_map,List.length_range] at this
   obtain⟨fn,tmps,assign,body,hy,hR⟩:=hY p ⟨x,hx⟩ W1 hj (by rw [hl]; exact hx)
   refine⟨fn,tmps,assign,body,hy,hR.mono ?_⟩
   rintro e2 W2 (⟨h1,h2,h3⟩ | ⟨h1,h2⟩)
   ·
    exact .inl ⟨h1,⟨p++[⟨x,hx⟩],by rw [List.map_append,ep]; rfl,h2⟩,h3⟩
   ·
    exact .inr ⟨h1,⟨p++[⟨x,hx⟩],by rw [List.map_append,ep]; rfl,h2⟩⟩)
  W (Nat.le_trans hn2 hW.size) (hw.trans (hW.mono hw.size)) (zbr hBn hW) ⟨[],rfl,h0⟩).mono (fun e W' h=>⟨h.1,h.2.imp (fun ⟨ys,h1,p,h2,h3⟩=>⟨p,h2.trans h1,h3⟩) (fun ⟨pre,h1,p,h2,h3⟩=>⟨p,by show p.map Fin.val <+: List.range m; rw [h2]; exact h1,h3⟩)⟩)
end Go.Proofs.YtehghijlchpeaaaGreat.Nat1
end
section
namespace Go.Proofs.YtehghijlchpeaaaGreat.Ev
open Go.RowKit YtehghijlchpeaaaGreatW.PrintWords YtehghijlchpeaaaGreatW.PrintLast YtehghijlchpeaaaGreatW.PrintMore L Nt Nat1
def fitV (sh:List Int) (n:Nat):Int:=if mayS sh=0 then (if (n:Int)=cntS sh then 0 else 13) else mayS sh
theorem fits_ev (sh:List Int) (es:List M.S27):Ev (fun k=>M.tensor_fits.f k sh es) (fitV sh es.length):=by
 have h0:=shapeMay_ev sh
 have h1:=shapeCount_ev sh
 unfold fitV
 by_cases h:mayS sh=0
 ·
  rw [if_pos h]
  refine Ev.congr (Ev.bind h0 (G:=fun k t=>if t=0 then ((M.shape_Count.f k sh).bind fun u=>if (es.length:Int)=u then some 0 else some 13) else some t) (b:=if (es.length:Int)=cntS sh then 0 else 13) ?_) (fun k=>?_)
  ·
   refine Ev.congr (Ev.bind h1 (G:=fun k u=>if (es.length:Int)=u then some 0 else some 13) (b:=if (es.length:Int)=cntS sh then 0 else 13) (Ev.congr (Ev.some _) (fun k=>?_))) (fun k=>?_)
   ·
    split<;>rfl
   ·
    rw [if_pos h]
  ·
   rw [M.tensor_fits.f]
 ·
  rw [if_neg h]
  refine Ev.congr (Ev.bind h0 (G:=fun k t=>if t=0 then ((M.shape_Count.f k sh).bind fun u=>if (es.length:Int)=u then some 0 else some 13) else some t) (b:=mayS sh) (Ev.congr (Ev.some _) (fun k=>?_))) (fun k=>?_)
  ·
   rw [if_neg h]
  ·
   rw [M.tensor_fits.f]
end Go.Proofs.YtehghijlchpeaaaGreat.Ev
namespace Go.Proofs.YtehghijlchpeaaaGreat.Nat1
open Go.RowKit Go.Shelf YtehghijlchpeaaaGreatW.PrintWords YtehghijlchpeaaaGreatW.PrintLast YtehghijlchpeaaaGreatW.PrintMore L Nt Ev
attribute [local go_sem] Oper.semAt_some
def eOk (x:M.S27):Prop:=okS x.f1∧okS x.f2
theorem rd_ok {es:List M.S27} (h:∀ x∈es,eOk x) (i:Nat):eOk (M.rd_T27 es (i:Int)):=by
 unfold M.rd_T27
 rw [Int.toNat_natCast,List.getD_eq_getElem?_getD]
 rcases Nat.lt_or_ge i es.length with hi | hi
 ·
  rw [List.getElem?_eq_getElem hi]
  exact h _ (List.getElem_mem hi)
 ·
  rw [List.getElem?_eq_none hi]
  exact⟨okS_nil,okS_nil⟩
def eV (x:M.S27):Int:=mayV x.f0 x.f1 x.f2
theorem el_may {W:World} {v:Value} {x:M.S27} (h:EL W v x) (hk:eOk x):Calls Tryz.prog 88 #[v] W fun e w'=>e=.returned (.int .i64 (eV x))∧Below W.heap.size W w':=by
 obtain⟨A1,c1,A2,c2,rfl,h1,h2⟩:=h
 exact J.rat_May.calls x.f0 A1 c1 x.f1 A2 c2 x.f2 _ W h1.1 h1.2 h2.1 h2.2 (may_f hk.1 hk.2)
theorem eV_or (x:M.S27):eV x=0∨eV x=6:=by
 unfold eV mayV
 split
 ·
  exact Or.inl rfl
 ·
  exact Or.inr rfl
theorem of_t (W:World) (A:Option Addr) (n c:Nat) (B:Option Addr) (m d:Nat):Calls Tryz.prog 72 #[.agg #[.slice A n c,.slice B m d]] W fun e w'=>e=.returned (.agg #[.slice A n c,.slice B m d])∧Below W.heap.size W w':=by
 have hu:=Tryz.underlying91
 have hu67:=Tryz.underlying30
 go_enter Tryz.func72,Tryz.ntmps72
 go_wp2
 have hn:=zbI (W.alloc (.cells #[.slice A n c,.slice B m d] 30)) (.cells #[.slice A n c,.slice B m d] 91)
 rw [show (W.alloc (.cells #[.slice A n c,.slice B m d] 30)).heap.size=W.heap.size+1 by simp] at hn
 refine bodyPost_ret (results_cell_row rfl _ _ (W.heap.size+1) 91 _ (0,0) _ rfl hn hu rfl (by kernel_rfl)) rfl ?_
 exact⟨rfl,zbn (zbn (Below.refl _ _) _) _⟩
theorem rd_mem {es:List M.S27} {i:Nat} (h:i < es.length):M.rd_T27 es (i:Int)∈es:=by
 unfold M.rd_T27
 rw [Int.toNat_natCast,List.getD_eq_getElem?_getD,List.getElem?_eq_getElem h]
 exact List.getElem_mem h
theorem all_of_rd {es:List M.S27} (h:∀ i:Nat,i < es.length→eV (M.rd_T27 es (i:Int))=0):∀ x∈es,eV x=0:=by
 intro x hx
 obtain⟨i,hi,rfl⟩:=List.getElem_of_mem hx
 have:=h i hi
 unfold M.rd_T27 at this
 rwa [Int.toNat_natCast,List.getD_eq_getElem?_getD,List.getElem?_eq_getElem hi] at this
open Classical in
noncomputable def tmayV (sh:List Int) (es:List M.S27):Int:=if fitV sh es.length=0 then (if ∀ x∈es,eV x=0 then 0 else 6) else fitV sh es.length
theorem tmay_n (A:Option Addr) (c:Nat) (sh:List Int) (B:Option Addr) (d:Nat) (es:List M.S27) (w:World) (hr1:Kd.C (Kd.int .i64) w A sh.length sh) (hc1:sh.length≤c) (hr2:Kd.C M.k27 w B es.length es) (hc2:es.length≤d) (hlen:es.length≤4398046511104) (hok:∀ x∈es,eOk x) :
  Calls Tryz.prog 34 #[.agg #[.slice A sh.length c,.slice B es.length d]] w fun e w'=>e=.returned (.int .i64 (tmayV sh es))∧Below w.heap.size w w':=by
 have hu67:=Tryz.underlying30
 have hu25:=Tryz.underlying27
 have HFIT:=Aside0.mk (fun (W:World) (hb:Below w.heap.size w W)=>by
  obtain⟨k,hk⟩:=fits_ev sh es
  exact M.tensor_fits.calls k A c sh B d es _ W (Kd.C_below hr1 hb) hc1 (Kd.C_below hr2 hb) hc2 (hk k (Nat.le_refl _)))
 obtain⟨ev,hev,hec⟩:=evs hr2
 have HEV:=Aside0.mk hev
 have HEC:=Aside0.mk hec
 have HOK:=Aside0.mk (fun i:Nat=>rd_ok hok i)
 obtain⟨f,hf⟩:∃ f,f=fitV sh es.length:=⟨_,rfl⟩
 rw [← hf] at HFIT
 have HFV:=Aside0.mk hf
 clear hr1 hr2 hok hev hec hf
 refine(callsIn_wide (n:=3)).1 ?_
 refine callsIn_of_wp_marks Tryz.func34 rfl trivial ?_ rfl
 simp only [Tryz.ntmps34,List.size_toArray,List.length_cons,List.length_nil,Nat.reduceAdd,Nat.reduceSub,Array.replicate_succ,Array.replicate_zero,List.push_toArray,List.append_toArray,List.nil_append,List.cons_append]
 gi_wp2_with fail
 have hx0:=zbt (zbI w (.cells #[.slice A sh.length c,.slice B es.length d] 30)) (.cells #[.int .i64 0] 31 (0,0))
 have hx1:=zbI (w.alloc (.cells #[.slice A sh.length c,.slice B es.length d] 30)) (.cells #[.int .i64 0] 31 (0,0))
 rw [show (w.alloc (.cells #[.slice A sh.length c,.slice B es.length d] 30)).heap.size=w.heap.size+1 by simp] at hx1
 have hbw:Below w.heap.size w ((w.alloc (.cells #[.slice A sh.length c,.slice B es.length d] 30)).alloc (.cells #[.int .i64 0] 31 (0,0))):=zbn (zbn (Below.refl _ _) _) _
 generalize (w.alloc (.cells #[.slice A sh.length c,.slice B es.length d] 30)).alloc (.cells #[.int .i64 0] 31 (0,0))=W0 at hx0 hx1 hbw ⊢
 refine⟨trivial,(callsIn_wide.2 (HFIT.out W0 hbw)).mono ?_⟩
 rintro e W1 ⟨rfl,hB⟩
 replace hx0:=zbr hx0 hB
 replace hx1:=zbr hx1 hB
 replace hbw:=zbm hbw hB
 have c0:=(zbq hx0 0).trans rfl
 have c1:=(zbq hx0 1).trans rfl
 have c2:=(zbq hx1 0).trans rfl
 have f2:=zbA hx1 0
 have c0:W1.cell? ⟨w.heap.size,0,none⟩=some (.slice A sh.length c):=c0
 have c1:W1.cell? ⟨w.heap.size,1,none⟩=some (.slice B es.length d):=c1
 have c2:W1.cell? ⟨w.heap.size+1,0,none⟩=some (.int .i64 0):=c2
 have HX:=Aside0.mk (And.intro hx0 (And.intro hx1 hbw))
 clear hx0 hx1 hbw hB HFIT
 by_cases hf0:f=0
 ·
  have HF0:=Aside0.mk (hf0.symm.trans HFV.out)
  subst hf0
  gi_wp2_with fail
  clear c0 c1 c2 f2
  refine⟨trivial,(callsIn_wide.2 (of_t W1 A sh.length c B es.length d)).mono ?_⟩
  rintro e W2 ⟨rfl,hB⟩
  replace HX:=Aside0.mk (And.intro (zbr HX.out.1 hB) (And.intro (zbr HX.out.2.1 hB) (zbm HX.out.2.2 hB)))
  clear hB
  gi_wp2_with fail
  refine⟨trivial,(callsIn_wide.2 (all_calls (.slice A sh.length c) (.slice B es.length d) W2)).mono ?_⟩
  rintro e W3 ⟨rfl,hG,hB⟩
  replace HX:=Aside0.mk (And.intro (zbr HX.out.1 hB) (And.intro (zbr HX.out.2.1 hB) (zbm HX.out.2.2 hB)))
  have HG:=Aside0.mk hG
  clear hG hB
  gi_wp2_with fail
  refine wpIn_rangeFunc_ownH rfl (by omega) (gf:=134) (lb:=#[.pointer (some ⟨W2.heap.size,0,none⟩)]) rfl trivial (zcr Tryz.func134 (by kernel_rfl) rfl)
   (all_stops Fence.wide _ trivial rfl (by omega) W2.heap.size w.heap.size es.length hlen (.slice A sh.length c) B d ev w W3 HX.out.2.2 (Nat.le_refl _) HX.out.2.2.size HEC.out HG.out) belowK_t (belowK_b HX.out.2.2.size) (Below.refl _ _) (fun _=>rfl)
   (fun (pre:List Nat) W=>(Below w.heap.size w W∧W.heap[w.heap.size+1]? = some (.cells #[.int .i64 0] 31 (0,0)))∧∀ y∈pre,eV (M.rd_T27 es (y:Int))=0)
   (fun cd (pre:List Nat) W=>(Below w.heap.size w W∧W.heap[w.heap.size+1]? = some (.cells #[.int .i64 6] 31 (0,0)))∧cd=.ret∧∃ (p:List Nat) (x:Nat),pre=p++[x]∧eV (M.rd_T27 es (x:Int))≠0)
   ?hI ?hIx ?h0
   (fun (x:Nat) a' W=>∃ (b:Nat) (p q r:Value),a'={ tmps:=#[.agg #[.slice A sh.length c,.slice B es.length d],.pointer (some ⟨w.heap.size,0,none⟩),.pointer (some ⟨w.heap.size+1,0,none⟩),.int .i64 0,undef,.pointer (some ⟨b,0,none⟩),undef,.agg #[.slice A sh.length c,.slice B es.length d],.int .i64 0,.int .i64 0,.bool false,undef,.agg #[.slice A sh.length c,.slice B es.length d],.agg #[.slice A sh.length c,.slice B es.length d],.func (.func 134) #[] #[.pointer (some ⟨W2.heap.size,0,none⟩)],.int .i64 (x:Int),ev x,undef,undef,undef,undef,undef],defers:=[] }∧ev x=.agg #[p,q,r]∧w.heap.size≤b∧W.heap[b]? = some (.cells #[p,q,r] 27 (0,0)))
   ?hAx ?assign ?body ?done ?stop
  case hI=>exact OwnFrom.and (OwnFrom.and (ownFrom_below (Nat.le_refl _) HX.out.2.2.size) (zcA (lt_of_block HX.out.2.1))) (ownFrom_pure _ _)
  case hIx=>exact fun c=>OwnFrom.and (OwnFrom.and (ownFrom_below (Nat.le_refl _) HX.out.2.2.size) (zcA (lt_of_block HX.out.2.1))) (ownFrom_pure _ _)
  case h0=>exact⟨⟨HX.out.2.2,HX.out.2.1⟩,fun y hy=>by cases hy⟩
  case hAx =>
   rintro x a' s X Y row ⟨b,p,q,r,h1,h2,h3,h4⟩ hg hr
   refine⟨b,p,q,r,h1,h2,h3,(hg.block b (lt_of_block h4) (fun e=>?_)).trans h4⟩
   obtain⟨_,o,ho,hc⟩:=hr b e.symm
   rw [h4] at ho
   cases ho
   cases hc
  case assign =>
   rintro l pre x W K ⟨⟨hB,hc⟩,he⟩ hK
   obtain⟨A1,c1,A2,c2,hex,-,-⟩:=HEV.out x
   rw [hex]
   have HK2:=Aside0.mk hK
   clear hK
   gi_wp2_with fail
   have hA:=zbn (Below.refl W.heap.size W) (.cells #[.bool (M.rd_T27 es (x:Int)).f0,.slice A1 (M.rd_T27 es (x:Int)).f1.length c1,.slice A2 (M.rd_T27 es (x:Int)).f2.length c2] 27)
   exact HK2.out _ _ ((keepsO hA).from _) (hA.mono hB.size) ⟨⟨zbn hB _,zbt hc _⟩,he⟩ ⟨W.heap.size,_,_,_,by rw [hex],hex,hB.size,zbI W _⟩
  case body =>
   rintro l pre x a' W hl hr ⟨⟨hB,hc⟩,he⟩ ⟨b,p,q,r,rfl,hex,hb,hbk⟩ hlen
   have HM:=Aside0.mk (el_may ((HEV.out x).below hB) (HOK.out x))
   rw [hex] at HM
   obtain⟨⟨k0,k1,k2⟩,-⟩:=zbH hbk
   have HY:=Aside0.mk (And.intro hB (And.intro hc he))
   clear hB hc he hr hbk
   rcases eV_or (M.rd_T27 es (x:Int)) with h0 | h0
   ·
    rw [h0] at HM
    gi_wp2_with fail
    refine⟨trivial,CallsIn.inRound l (callsIn_wide.2 (HM.out.mono ?_))⟩
    rintro e w2 ⟨rfl,hB2⟩
    have HB2:=Aside0.mk hB2
    clear hB2 HM
    gi_wp2
    refine⟨(keepsO HB2.out).from _,HB2.out.mono HY.out.1.size,⟨⟨zbm HY.out.1 HB2.out,zbr HY.out.2.1 HB2.out⟩,fun y hy=>?_⟩⟩
    rcases List.mem_append.1 hy with hy | hy
    ·
     exact HY.out.2.2 y hy
    ·
     simp at hy
     subst hy
     exact h0
   ·
    rw [h0] at HM
    gi_wp2_with fail
    refine⟨trivial,CallsIn.inRound l (callsIn_wide.2 (HM.out.mono ?_))⟩
    rintro e w2 ⟨rfl,hB2⟩
    have hr2:=zbr HY.out.2.1 hB2
    have q2:=cell_of_one hr2
    have f2:=free_of_one hr2
    have HB2:=Aside0.mk (And.intro hB2 hr2)
    clear hB2 HM hr2
    gi_wp2
    refine⟨((keepsO HB2.out.1).trans (KeepsOthers.setCell _ _ _)).from _,⟨⟨(zbm HY.out.1 HB2.out.1).setCell (p:=⟨w.heap.size+1,0,none⟩) (by simp) _,one_setCell HB2.out.2⟩,rfl,pre,x,rfl,by omega⟩⟩
  case done =>
   rintro D ys W hD rfl ⟨⟨hB,y2⟩,he⟩ hK
   have q2:=cell_of_one y2
   have f2:=free_of_one y2
   gi_wp2
   have hK':=(KeepsOthers.setCell W ⟨w.heap.size+1,0,none⟩ (.int .i64 0)).same D _ hK rfl
   refine⟨by simp,.inl ⟨_,_,rfl,run_takeDeferred hK',?_⟩⟩
   have hc5:=cell_kept (cell_of_one (one_setCell y2 (u:=.int .i64 0))) (grownBy_putObj' _ D (.deferred none)) (fun r e=>by cases e; exact⟨_,hK',rfl⟩)
   refine⟨.int .i64 0,?_,?_,(hB.setCell (p:=⟨w.heap.size+1,0,none⟩) (by simp) _).trans (belowK_b (w:=w) (Nat.le_refl _) _ D _ _ (Nat.le_trans HX.out.2.2.size hD) hK' rfl rfl)⟩
   ·
    simp [results,Tryz.f34,go_sem,hc5]
   ·
    rw [tmayV,if_pos HF0.out.symm,if_pos]
    exact all_of_rd (fun i hi=>he i (List.mem_range.2 hi))
  case stop =>
   rintro D cd pre W hD hpre ⟨⟨hB,y2⟩,rfl,p,x,rfl,hne⟩ hK
   gi_wp2
   refine⟨by simp,.inl ⟨_,_,rfl,run_takeDeferred hK,?_⟩⟩
   have hc5:=cell_kept (cell_of_one y2) (grownBy_putObj' _ D (.deferred none)) (fun r e=>by cases e; exact⟨_,hK,rfl⟩)
   refine⟨.int .i64 6,?_,?_,hB.trans (belowK_b (w:=w) (Nat.le_refl _) W D _ _ (Nat.le_trans HX.out.2.2.size hD) hK rfl rfl)⟩
   ·
    simp [results,Tryz.f34,go_sem,hc5]
   ·
    rw [tmayV,if_pos HF0.out.symm,if_neg]
    have hx:x∈List.range es.length:=List.IsPrefix.subset hpre (by simp)
    exact fun hall=>hne (hall _ (rd_mem (List.mem_range.1 hx)))
 ·
  have hf1:(f == 0)=false:=by rw [beq_eq_false_iff_ne]; exact hf0
  have hf2:(f != 0)=true:=by rw [bne_iff_ne]; exact hf0
  gi_wp2
  have hc5:=cell_of_one (one_setCell HX.out.2.1 (u:=.int .i64 f))
  refine⟨.int .i64 f,?_,?_,HX.out.2.2.setCell (p:=⟨w.heap.size+1,0,none⟩) (by simp) _⟩
  ·
   simp [results,Tryz.f34,go_sem,hc5]
  ·
   rw [tmayV,← HFV.out,if_neg hf0]
end Go.Proofs.YtehghijlchpeaaaGreat.Nat1
end
