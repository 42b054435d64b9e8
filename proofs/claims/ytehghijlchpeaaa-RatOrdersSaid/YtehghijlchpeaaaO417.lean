/- Part 18 of the proof of ratOrders_holds: what it uses, in build order. -/
import Derived.Test.YtehghijlchpeaaaO416
import Derived.Below
import Derived.ChangeOld
import Derived.Lib.SmallJoins
import Derived.OpenShut
import Derived.ProofKit
import Derived.SizedLaws
import Derived.Test.YtehghijlchpeaaaRows
import Derived.WalkKit
section
namespace Go.Proofs.Ytehghijlchpeaaa.Nat1
open Go.ChangeShapes Go.WideShapes Go.ChangeAt Go.RowKit Go.Joins Go.Proofs.YtehghijlchpeaaaW.PrintWords Go.Proofs.YtehghijlchpeaaaW.PrintLast Go.Proofs.YtehghijlchpeaaaW.PrintMore Go.Proofs.Ytehghijlchpeaaa.L Go.Proofs.Ytehghijlchpeaaa.Nt
set_option linter.unusedVariables false
set_option linter.unusedSimpArgs false
set_option linter.unusedSectionVars false
theorem nat_arg {H:Type} {enc:TypeId×Value→H} {W:World} {m:Nat} {v:Value} {y:DataW H×List MemPlace} (h:DataW.trod enc Try.prog W 0 (fun _=>true) true m 23 [v]=some y) :
  ∃ (A:Option Addr) (c:Nat) (l:List Int),v=.slice A l.length c∧Kd.C (Kd.int .u32) W A l.length l∧l.length≤c∧ok B32 l:=by
 obtain⟨a,len,cap,zs,rfl,hz⟩:∃ a len cap zs,v=.slice a len cap∧((a=none∧len=0∧cap=0∧zs=[])∨∃ x,a=some x∧len≤cap∧cap≤maxLen∧zs.length=cap∧(∀ i,i < zs.length→W.cell? (x.add i)=some (.int .u32 (zs.getD i 0)))∧∀ n∈zs,(Lit.int .u32 n).wf=true):=by
  rcases open_ints Try.underlying23 Try.underlying63 (by kernel_rfl) h with ⟨hcs,_⟩ | ⟨x,l,c,zs,hcs,_,hl,hm,hz,_,hcell,hwz⟩
  ·
   injection hcs with hcs _
   exact⟨none,0,0,[],hcs,.inl ⟨rfl,rfl,rfl,rfl⟩⟩
  ·
   injection hcs with hcs _
   exact⟨some x,l,c,zs,hcs,.inr ⟨_,rfl,hl,hm,by simpa using hz,hcell,hwz⟩⟩
 obtain⟨l,rfl,hr,hm,hw,hc⟩:=zcb.ofRowC hz
 refine⟨a,cap,l,rfl,Kd.C_of_reads (d:=(0:Int)) (h1:=fun _=>rfl) hr,hc,fun x hx=>?_⟩
 have:=hw x hx
 simp [Lit.wf,IntKind.min,IntKind.max,IntKind.bits,IntKind.signed] at this
 unfold B32
 omega
set_option maxRecDepth 100000 in
theorem rat_arg {H:Type} {enc:TypeId×Value→H} {W:World} {r:Reach} {b0:Nat} {v:Value} {d:DataW H} {p:List MemPlace} (hv:Value.okWide Try.prog W r b0 25 v) (h:DataW.Trod enc Try.prog W 0 (fun _=>true) true 25 v d p) :
  ∃ (n:Bool) (A1:Option Addr) (c1:Nat) (p:List Int) (A2:Option Addr) (c2:Nat) (q:List Int),v=.agg #[.bool n,.slice A1 p.length c1,.slice A2 q.length c2] ∧
   (Kd.C (Kd.int .u32) W A1 p.length p∧p.length≤c1∧ok B32 p)∧(Kd.C (Kd.int .u32) W A2 q.length q∧q.length≤c2∧ok B32 q):=by
 obtain⟨b0,b1,b2,y0,y1,y2,m,rfl,rfl,rfl,hy0,hy1,hy2⟩:=open_agg3 Try.underlying25 (by kernel_rfl) (by kernel_rfl) hv h
 obtain⟨n,e0,_⟩:=DataW.trod_bool Try.underlying4 hy0
 obtain⟨A1,c1,p,rfl,h1⟩:=nat_arg hy1
 obtain⟨A2,c2,q,rfl,h2⟩:=nat_arg hy2
 simp at e0
 subst e0
 exact⟨n,A1,c1,p,A2,c2,q,rfl,h1,h2⟩
end Go.Proofs.Ytehghijlchpeaaa.Nat1
end
section
namespace Go.Proofs.Ytehghijlchpeaaa.Nat1
open Go.RowKit Go.Proofs.YtehghijlchpeaaaW.PrintWords Go.Proofs.YtehghijlchpeaaaW.PrintLast Go.Proofs.YtehghijlchpeaaaW.PrintMore Go.Proofs.Ytehghijlchpeaaa.L Go.Proofs.Ytehghijlchpeaaa.Nt Go.Proofs.Ytehghijlchpeaaa.Ev
set_option linter.unusedVariables false
set_option linter.unusedSimpArgs false
set_option linter.unusedSectionVars false
theorem dg_lit {n:Nat} (h0:0 < n) (h:n < B32):dg B32 n=[(n:Int)]:=by
 rw [dg_pos zbE h0,Nat.mod_eq_of_lt h,Nat.div_eq_of_lt h,zb5]
theorem bits4 {W:World} {b1:Nat} {u:Value} {X:QN} (e:X=(false,3,8)) (hu:RT W b1 u X) (rX:red X) (kX:okQ X):Calls Try.prog 46 #[u] W fun e w'=>e=.returned (.int .i64 4)∧Below W.heap.size W w':=by
 have:=bitsR_d hu rX kX
 rwa [show mx (nb X.2.1:Int) (nb X.2.2:Int)=4 by rw [e]; decide] at this
theorem okS_lit {x:Int} (h:0≤x∧x < 4294967296):okS [x]:=⟨fun y hy=>by rw [List.mem_singleton.1 hy]; exact h,by simp⟩
theorem okS_nil:okS []:=⟨ok_nil _,by simp⟩
theorem may24 {W:World} {A1 A2:Addr} (h1:Kd.C (Kd.int .u32) W (some A1) 1 [2]) (h2:Kd.C (Kd.int .u32) W (some A2) 1 [4]):Calls Try.prog 18 #[.agg #[.bool false,.slice (some A1) 1 1,.slice (some A2) 1 1]] W fun e w'=>e=.returned (.int .i64 6)∧Below W.heap.size W w':=by
 refine J.rat_May.calls false (some A1) 1 [2] (some A2) 1 [4] 6 W h1 (Nat.le_refl _) h2 (Nat.le_refl _) ?_
 rw [may_f (okS_lit (by decide)) (okS_lit (by decide)),mayV,show nrm false (val B32 [2]) (val B32 [4])=(false,1,2) by decide,if_neg]
 rintro⟨_,h,_⟩
 rw [dg_lit (by decide) (by decide)] at h
 exact absurd h (by decide)
theorem C_none (W:World):Kd.C (Kd.int .u32) W none 0 []:=⟨rfl,by omega,fun h=>absurd h (by omega)⟩
theorem may_5 {W:World} {A2:Addr} (h2:Kd.C (Kd.int .u32) W (some A2) 1 [5]):Calls Try.prog 18 #[.agg #[.bool false,.slice none 0 0,.slice (some A2) 1 1]] W fun e w'=>e=.returned (.int .i64 6)∧Below W.heap.size W w':=by
 refine J.rat_May.calls false none 0 [] (some A2) 1 [5] 6 W (C_none W) (Nat.le_refl _) h2 (Nat.le_refl _) ?_
 rw [may_f okS_nil (okS_lit (by decide)),mayV,show nrm false (val B32 []) (val B32 [5])=(false,0,1) by decide,if_neg]
 rintro⟨_,_,h⟩
 rw [dg_lit (by decide) (by decide)] at h
 exact absurd h (by decide)
theorem may3_ {W:World} {A1:Addr} (h1:Kd.C (Kd.int .u32) W (some A1) 1 [3]):Calls Try.prog 18 #[.agg #[.bool false,.slice (some A1) 1 1,.slice none 0 0]] W fun e w'=>e=.returned (.int .i64 6)∧Below W.heap.size W w':=by
 refine J.rat_May.calls false (some A1) 1 [3] none 0 [] 6 W h1 (Nat.le_refl _) (C_none W) (Nat.le_refl _) ?_
 rw [may_f (okS_lit (by decide)) okS_nil,mayV,show nrm false (val B32 [3]) (val B32 [])=(false,0,1) by decide,if_neg]
 rintro⟨_,h,_⟩
 rw [zb5] at h
 exact absurd h (by decide)
def known.T6:Bool×List (List Nat×List Nat):=(true,[([],[]),([0],[0]),([1],[1]),([2],[2]),([3,2],[2,3]),([2,4],[2,4]),([5,2],[5]),([6,6],[6]),([6],[6]),([6],[6]),([8,9,7,6],[6,8,9]),([7,10,10,6],[6,7,10]),([6,11],[6,11]),([12,11],[12]),([13,13],[13]),([13],[13]),([13],[13]),([15,16,14,13],[13,15,16]),([14,17,17,13],[13,14,17]),([13,18],[13,18]),([19,18],[19]),([20,20],[20]),([20],[20]),([20],[20]),([22,23,21,20],[20,22,23]),([21,24,24,20],[20,21,24]),([20,25],[20,25]),([26,25],[26]),([27],[27]),([28,27],[27,28]),([27,29],[27,29]),([30,27],[30]),([31,31],[31]),([31],[31]),([32,33,32,31],[31,32,33]),([31,34],[31,34]),([35,34],[35]),([36],[36]),([37,36],[36,37]),([36,38],[36,38]),([39,36],[39]),([40,40],[40]),([40],[40]),([41,42,41,40],[40,41,42]),([40,43],[40,43]),([44,43],[44]),([45],[45]),([46,45],[45,46]),([45,47],[45,47]),([48,45],[48]),([49],[49]),([50,49,49],[49,50]),([51,49],[49,51]),([49,52],[49,52]),([53,51],[53]),([54],[54]),([54],[54]),([55,56,54],[54,55,56]),([57,54,54],[54,57]),([58,54],[54,58]),([54,59],[54,59]),([60,58],[60]),([61],[61]),([62,61],[61,62]),([63,61,61],[61,63]),([64,61],[61,64]),([61,65],[61,65]),([66,64],[66]),([67],[67]),([68,67],[67,68]),([69,67,67],[67,69]),([70,67],[67,70]),([67,71],[67,71]),([72,70,0,1,2,3,4,5,6,7,8,9,10,11,12,13,14,15,16,17,18,19,20,21,22,23,24,25,26,27,28,29,30,31,32,33,34,35,36,37,38,39,40,41,42,43,44,45,46,47,48,49,50,51,52,53,54,55,56,57,58,59,60,61,62,63,64,65,66,67,68,69,70,71,72],[72])])
def known.B6:List Nat:=[0,1,3,7,15,31,63,127,127,127,1023,2047,4095,8191,16383,16383,16383,131071,262143,524287,1048575,2097151,2097151,2097151,16777215,33554431,67108863,134217727,268435455,536870911,1073741823,2147483647,4294967295,4294967295,17179869183,34359738367,68719476735,137438953471,274877906943,549755813887,1099511627775,2199023255551,2199023255551,8796093022207,17592186044415,35184372088831,70368744177663,140737488355327,281474976710655,562949953421311,1125899906842623,2251799813685247,4503599627370495,9007199254740991,18014398509481983,36028797018963967,36028797018963967,144115188075855871,288230376151711743,576460752303423487,1152921504606846975,2305843009213693951,4611686018427387903,9223372036854775807,18446744073709551615,36893488147419103231,73786976294838206463,147573952589676412927,295147905179352825855,590295810358705651711,1180591620717411303423,2361183241434822606847,4722366482869645213695,9444732965739290427391]
theorem known.tab6:rtab .any (opsOf Try.f15 6)=known.T6:=by kernel_rfl
theorem known.bits6:zcI known.T6.2 known.B6=true:=by kernel_rfl
set_option maxHeartbeats 8000000 in
set_option maxRecDepth 100000 in
theorem known_q (w:World):Calls Try.prog 15 #[] w fun e w'=>e=.returned (.bool true)∧Below w.heap.size w w':=by
 have hu25:=Try.underlying25
 obtain⟨H,hH⟩:∃ H:QN,H=(false,1,2):=⟨_,rfl⟩
 have EH:=Aside0.mk hH
 have KH:=Aside0.mk (show red H∧okQ H from by rw [hH]; exact⟨⟨by decide,by decide,by decide⟩,okQ_small (by decide) (by decide)⟩)
 obtain⟨T,hT⟩:∃ T:QN,T=(false,1,3):=⟨_,rfl⟩
 have ET:=Aside0.mk hT
 have KT:=Aside0.mk (show red T∧okQ T from by rw [hT]; exact⟨⟨by decide,by decide,by decide⟩,okQ_small (by decide) (by decide)⟩)
 obtain⟨Q,hQ⟩:∃ Q:QN,Q=(false,3,2):=⟨_,rfl⟩
 have EQ:=Aside0.mk hQ
 have KQ:=Aside0.mk (show red Q∧okQ Q from by rw [hQ]; exact⟨⟨by decide,by decide,by decide⟩,okQ_small (by decide) (by decide)⟩)
 obtain⟨M,hM⟩:∃ M:QN,M=(true,3,2):=⟨_,rfl⟩
 have EM:=Aside0.mk hM
 have KM:=Aside0.mk (show red M∧okQ M from by rw [hM]; exact⟨⟨by decide,by decide,by decide⟩,okQ_small (by decide) (by decide)⟩)
 obtain⟨B,hB⟩:∃ B:QN,B=(false,3,8):=⟨_,rfl⟩
 have EB:=Aside0.mk hB
 have KB:=Aside0.mk (show red B∧okQ B from by rw [hB]; exact⟨⟨by decide,by decide,by decide⟩,okQ_small (by decide) (by decide)⟩)
 clear hH hT hQ hM hB
 go_enter Try.func15,Try.ntmps15
 go_wp2_with fail
 refine(frac_d (x:=1) (y:=2) w (by decide) (by decide) (by decide) (by decide) (by decide) (show _=H from EH.out ▸ (by decide))).mono ?_
 rintro e u0 ⟨AH1,cH1,AH2,cH2,rfl,hR,hB⟩
 have hA:Below u0.heap.size u0 (u0.alloc (.cells #[.bool H.1,.slice AH1 (dg B32 H.2.1).length cH1,.slice AH2 (dg B32 H.2.2).length cH2] 25)):=zbt (Below.refl _ _) _
 have hN:=zb3 u0 (.cells #[.bool H.1,.slice AH1 (dg B32 H.2.1).length cH1,.slice AH2 (dg B32 H.2.2).length cH2] 25)
 obtain⟨W1,hW⟩:∃ W,W=u0.alloc (.cells #[.bool H.1,.slice AH1 (dg B32 H.2.1).length cH1,.slice AH2 (dg B32 H.2.2).length cH2] 25):=⟨_,rfl⟩
 rw [← hW] at hA hN
 obtain⟨gH,hg⟩:∃ g,g=u0.heap.size:=⟨_,rfl⟩
 rw [← hg] at hN
 have hB2:Below w.heap.size w W1:=zbx hB hA
 have XH1:=Aside0.mk (And.intro hN ((hR.below hA).lower (base':=w.heap.size) (Nat.le_refl _)))
 have HB1:=Aside0.mk (hB2)
 have HW:=Aside0.mk hW
 have HG:=Aside0.mk hg
 clear hA hN hB hB2 hR hW hg
 go_wp2_with fail
 rw [← HW.out,← HG.out]
 clear HW HG
 refine(frac_d (x:=1) (y:=3) W1 (by decide) (by decide) (by decide) (by decide) (by decide) (show _=T from ET.out ▸ (by decide))).mono ?_
 rintro e u1 ⟨AT1,cT1,AT2,cT2,rfl,hR,hB⟩
 have hA:Below u1.heap.size u1 (u1.alloc (.cells #[.bool T.1,.slice AT1 (dg B32 T.2.1).length cT1,.slice AT2 (dg B32 T.2.2).length cT2] 25)):=zbt (Below.refl _ _) _
 have hN:=zb3 u1 (.cells #[.bool T.1,.slice AT1 (dg B32 T.2.1).length cT1,.slice AT2 (dg B32 T.2.2).length cT2] 25)
 obtain⟨W2,hW⟩:∃ W,W=u1.alloc (.cells #[.bool T.1,.slice AT1 (dg B32 T.2.1).length cT1,.slice AT2 (dg B32 T.2.2).length cT2] 25):=⟨_,rfl⟩
 rw [← hW] at hA hN
 obtain⟨gT,hg⟩:∃ g,g=u1.heap.size:=⟨_,rfl⟩
 rw [← hg] at hN
 have hB2:Below W1.heap.size W1 W2:=zbx hB hA
 have XH2:=Aside0.mk (And.intro (zbC XH1.out.1 hB2) (XH1.out.2.below hB2))
 have XT2:=Aside0.mk (And.intro hN ((hR.below hA).lower (base':=w.heap.size) (HB1.out.size)))
 have HB2:=Aside0.mk (zbx HB1.out hB2)
 have HW:=Aside0.mk hW
 have HG:=Aside0.mk hg
 have hl0:=zbV (zbC XH1.out.1 hB)
 obtain⟨⟨x00,x01,x02⟩,y00,y01,y02⟩:=zbK (zbC XH1.out.1 hB)
 clear hA hN hB hB2 hR hW hg XH1 HB1
 go_wp2_with fail
 rw [← HW.out,← HG.out]
 clear HW HG hl0 x00 x01 x02 y00 y01 y02
 have hdiv:=divR_d XH2.out.2 XT2.out.2 KH.out.1 KT.out.1 KH.out.2 KT.out.2 (by rw [ET.out]; decide)
 rw [show divQ H T=Q by rw [EH.out,ET.out,EQ.out]; decide] at hdiv
 refine hdiv.mono ?_
 clear hdiv
 rintro e u2 ⟨AQ1,cQ1,AQ2,cQ2,rfl,hR,hB⟩
 have hA:Below u2.heap.size u2 (u2.alloc (.cells #[.bool Q.1,.slice AQ1 (dg B32 Q.2.1).length cQ1,.slice AQ2 (dg B32 Q.2.2).length cQ2] 25)):=zbt (Below.refl _ _) _
 have hN:=zb3 u2 (.cells #[.bool Q.1,.slice AQ1 (dg B32 Q.2.1).length cQ1,.slice AQ2 (dg B32 Q.2.2).length cQ2] 25)
 obtain⟨W3,hW⟩:∃ W,W=u2.alloc (.cells #[.bool Q.1,.slice AQ1 (dg B32 Q.2.1).length cQ1,.slice AQ2 (dg B32 Q.2.2).length cQ2] 25):=⟨_,rfl⟩
 rw [← hW] at hA hN
 obtain⟨gQ,hg⟩:∃ g,g=u2.heap.size:=⟨_,rfl⟩
 rw [← hg] at hN
 have hB2:Below W2.heap.size W2 W3:=zbx hB hA
 have XH3:=Aside0.mk (And.intro (zbC XH2.out.1 hB2) (XH2.out.2.below hB2))
 have XT3:=Aside0.mk (And.intro (zbC XT2.out.1 hB2) (XT2.out.2.below hB2))
 have XQ3:=Aside0.mk (And.intro hN ((hR.below hA).lower (base':=w.heap.size) (HB2.out.size)))
 have HB3:=Aside0.mk (zbx HB2.out hB2)
 have HW:=Aside0.mk hW
 have HG:=Aside0.mk hg
 have hl0:=zbV (zbC XH2.out.1 hB)
 obtain⟨⟨x00,x01,x02⟩,y00,y01,y02⟩:=zbK (zbC XH2.out.1 hB)
 have hl1:=zbV (zbC XT2.out.1 hB)
 obtain⟨⟨x10,x11,x12⟩,y10,y11,y12⟩:=zbK (zbC XT2.out.1 hB)
 clear hA hN hB hB2 hR hW hg XH2 XT2 HB2
 go_wp2_with fail
 rw [← HW.out,← HG.out]
 clear HW HG hl0 x00 x01 x02 y00 y01 y02 hl1 x10 x11 x12 y10 y11 y12
 refine(frac_d (x:=6) (y:=-4) W3 (by decide) (by decide) (by decide) (by decide) (by decide) (show _=M from EM.out ▸ (by decide))).mono ?_
 rintro e u3 ⟨AM1,cM1,AM2,cM2,rfl,hR,hB⟩
 have hA:Below u3.heap.size u3 (u3.alloc (.cells #[.bool M.1,.slice AM1 (dg B32 M.2.1).length cM1,.slice AM2 (dg B32 M.2.2).length cM2] 25)):=zbt (Below.refl _ _) _
 have hN:=zb3 u3 (.cells #[.bool M.1,.slice AM1 (dg B32 M.2.1).length cM1,.slice AM2 (dg B32 M.2.2).length cM2] 25)
 obtain⟨W4,hW⟩:∃ W,W=u3.alloc (.cells #[.bool M.1,.slice AM1 (dg B32 M.2.1).length cM1,.slice AM2 (dg B32 M.2.2).length cM2] 25):=⟨_,rfl⟩
 rw [← hW] at hA hN
 obtain⟨gM,hg⟩:∃ g,g=u3.heap.size:=⟨_,rfl⟩
 rw [← hg] at hN
 have hB2:Below W3.heap.size W3 W4:=zbx hB hA
 have XH4:=Aside0.mk (And.intro (zbC XH3.out.1 hB2) (XH3.out.2.below hB2))
 have XT4:=Aside0.mk (And.intro (zbC XT3.out.1 hB2) (XT3.out.2.below hB2))
 have XQ4:=Aside0.mk (And.intro (zbC XQ3.out.1 hB2) (XQ3.out.2.below hB2))
 have XM4:=Aside0.mk (And.intro hN ((hR.below hA).lower (base':=w.heap.size) (HB3.out.size)))
 have HB4:=Aside0.mk (zbx HB3.out hB2)
 have HW:=Aside0.mk hW
 have HG:=Aside0.mk hg
 have hl0:=zbV (zbC XH3.out.1 hB)
 obtain⟨⟨x00,x01,x02⟩,y00,y01,y02⟩:=zbK (zbC XH3.out.1 hB)
 have hl1:=zbV (zbC XT3.out.1 hB)
 obtain⟨⟨x10,x11,x12⟩,y10,y11,y12⟩:=zbK (zbC XT3.out.1 hB)
 have hl2:=zbV (zbC XQ3.out.1 hB)
 obtain⟨⟨x20,x21,x22⟩,y20,y21,y22⟩:=zbK (zbC XQ3.out.1 hB)
 clear hA hN hB hB2 hR hW hg XH3 XT3 XQ3 HB3
 go_wp2_with fail
 rw [← HW.out,← HG.out]
 clear HW HG hl0 x00 x01 x02 y00 y01 y02 hl1 x10 x11 x12 y10 y11 y12 hl2 x20 x21 x22 y20 y21 y22
 refine(frac_d (x:=3) (y:=8) W4 (by decide) (by decide) (by decide) (by decide) (by decide) (show _=B from EB.out ▸ (by decide))).mono ?_
 rintro e u4 ⟨AB1,cB1,AB2,cB2,rfl,hR,hB⟩
 have hA:Below u4.heap.size u4 (u4.alloc (.cells #[.bool B.1,.slice AB1 (dg B32 B.2.1).length cB1,.slice AB2 (dg B32 B.2.2).length cB2] 25)):=zbt (Below.refl _ _) _
 have hN:=zb3 u4 (.cells #[.bool B.1,.slice AB1 (dg B32 B.2.1).length cB1,.slice AB2 (dg B32 B.2.2).length cB2] 25)
 obtain⟨W5,hW⟩:∃ W,W=u4.alloc (.cells #[.bool B.1,.slice AB1 (dg B32 B.2.1).length cB1,.slice AB2 (dg B32 B.2.2).length cB2] 25):=⟨_,rfl⟩
 rw [← hW] at hA hN
 obtain⟨gB,hg⟩:∃ g,g=u4.heap.size:=⟨_,rfl⟩
 rw [← hg] at hN
 have hB2:Below W4.heap.size W4 W5:=zbx hB hA
 have XH5:=Aside0.mk (And.intro (zbC XH4.out.1 hB2) (XH4.out.2.below hB2))
 have XT5:=Aside0.mk (And.intro (zbC XT4.out.1 hB2) (XT4.out.2.below hB2))
 have XQ5:=Aside0.mk (And.intro (zbC XQ4.out.1 hB2) (XQ4.out.2.below hB2))
 have XM5:=Aside0.mk (And.intro (zbC XM4.out.1 hB2) (XM4.out.2.below hB2))
 have XB5:=Aside0.mk (And.intro hN ((hR.below hA).lower (base':=w.heap.size) (HB4.out.size)))
 have HB5:=Aside0.mk (zbx HB4.out hB2)
 have HW:=Aside0.mk hW
 have HG:=Aside0.mk hg
 have hl0:=zbV (zbC XH4.out.1 hB)
 obtain⟨⟨x00,x01,x02⟩,y00,y01,y02⟩:=zbK (zbC XH4.out.1 hB)
 have hl1:=zbV (zbC XT4.out.1 hB)
 obtain⟨⟨x10,x11,x12⟩,y10,y11,y12⟩:=zbK (zbC XT4.out.1 hB)
 have hl2:=zbV (zbC XQ4.out.1 hB)
 obtain⟨⟨x20,x21,x22⟩,y20,y21,y22⟩:=zbK (zbC XQ4.out.1 hB)
 have hl3:=zbV (zbC XM4.out.1 hB)
 obtain⟨⟨x30,x31,x32⟩,y30,y31,y32⟩:=zbK (zbC XM4.out.1 hB)
 clear hA hN hB hB2 hR hW hg XH4 XT4 XQ4 XM4 HB4
 go_wp2_with fail
 rw [← HW.out,← HG.out]
 clear HW HG hl0 x00 x01 x02 y00 y01 y02 hl1 x10 x11 x12 y10 y11 y12 hl2 x20 x21 x22 y20 y21 y22 hl3 x30 x31 x32 y30 y31 y32
 have HF:Aside0 (∀ w':World,Below W5.heap.size W5 w'→(w'.cell? ⟨gH,0,none⟩=some (.bool H.1)∧w'.cell? ⟨gH,1,none⟩=some (.slice AH1 (dg B32 H.2.1).length cH1)∧w'.cell? ⟨gH,2,none⟩=some (.slice AH2 (dg B32 H.2.2).length cH2)∧w'.cell? ⟨gT,0,none⟩=some (.bool T.1)∧w'.cell? ⟨gT,1,none⟩=some (.slice AT1 (dg B32 T.2.1).length cT1)∧w'.cell? ⟨gT,2,none⟩=some (.slice AT2 (dg B32 T.2.2).length cT2)∧w'.cell? ⟨gQ,0,none⟩=some (.bool Q.1)∧w'.cell? ⟨gQ,1,none⟩=some (.slice AQ1 (dg B32 Q.2.1).length cQ1)∧w'.cell? ⟨gQ,2,none⟩=some (.slice AQ2 (dg B32 Q.2.2).length cQ2)∧w'.cell? ⟨gM,0,none⟩=some (.bool M.1)∧w'.cell? ⟨gM,1,none⟩=some (.slice AM1 (dg B32 M.2.1).length cM1)∧w'.cell? ⟨gM,2,none⟩=some (.slice AM2 (dg B32 M.2.2).length cM2)∧w'.cell? ⟨gB,0,none⟩=some (.bool B.1)∧w'.cell? ⟨gB,1,none⟩=some (.slice AB1 (dg B32 B.2.1).length cB1)∧w'.cell? ⟨gB,2,none⟩=some (.slice AB2 (dg B32 B.2.2).length cB2))∧RT w' w.heap.size (.agg #[.bool H.1,.slice AH1 (dg B32 H.2.1).length cH1,.slice AH2 (dg B32 H.2.2).length cH2]) H∧RT w' w.heap.size (.agg #[.bool T.1,.slice AT1 (dg B32 T.2.1).length cT1,.slice AT2 (dg B32 T.2.2).length cT2]) T∧RT w' w.heap.size (.agg #[.bool Q.1,.slice AQ1 (dg B32 Q.2.1).length cQ1,.slice AQ2 (dg B32 Q.2.2).length cQ2]) Q∧RT w' w.heap.size (.agg #[.bool M.1,.slice AM1 (dg B32 M.2.1).length cM1,.slice AM2 (dg B32 M.2.2).length cM2]) M∧RT w' w.heap.size (.agg #[.bool B.1,.slice AB1 (dg B32 B.2.1).length cB1,.slice AB2 (dg B32 B.2.2).length cB2]) B):=⟨fun W hb=>⟨⟨(zbv (zbC XH5.out.1 hb) 0).trans rfl,(zbv (zbC XH5.out.1 hb) 1).trans rfl,(zbv (zbC XH5.out.1 hb) 2).trans rfl,(zbv (zbC XT5.out.1 hb) 0).trans rfl,(zbv (zbC XT5.out.1 hb) 1).trans rfl,(zbv (zbC XT5.out.1 hb) 2).trans rfl,(zbv (zbC XQ5.out.1 hb) 0).trans rfl,(zbv (zbC XQ5.out.1 hb) 1).trans rfl,(zbv (zbC XQ5.out.1 hb) 2).trans rfl,(zbv (zbC XM5.out.1 hb) 0).trans rfl,(zbv (zbC XM5.out.1 hb) 1).trans rfl,(zbv (zbC XM5.out.1 hb) 2).trans rfl,(zbv (zbC XB5.out.1 hb) 0).trans rfl,(zbv (zbC XB5.out.1 hb) 1).trans rfl,(zbv (zbC XB5.out.1 hb) 2).trans rfl⟩,XH5.out.2.below hb,XT5.out.2.below hb,XQ5.out.2.below hb,XM5.out.2.below hb,XB5.out.2.below hb⟩⟩
 clear XH5 XT5 XQ5 XM5 XB5
 refine zcM (n:=74) (S:=fun w'=>(w'.cell? ⟨gH,0,none⟩=some (.bool H.1)∧w'.cell? ⟨gH,1,none⟩=some (.slice AH1 (dg B32 H.2.1).length cH1)∧w'.cell? ⟨gH,2,none⟩=some (.slice AH2 (dg B32 H.2.2).length cH2)∧w'.cell? ⟨gT,0,none⟩=some (.bool T.1)∧w'.cell? ⟨gT,1,none⟩=some (.slice AT1 (dg B32 T.2.1).length cT1)∧w'.cell? ⟨gT,2,none⟩=some (.slice AT2 (dg B32 T.2.2).length cT2)∧w'.cell? ⟨gQ,0,none⟩=some (.bool Q.1)∧w'.cell? ⟨gQ,1,none⟩=some (.slice AQ1 (dg B32 Q.2.1).length cQ1)∧w'.cell? ⟨gQ,2,none⟩=some (.slice AQ2 (dg B32 Q.2.2).length cQ2)∧w'.cell? ⟨gM,0,none⟩=some (.bool M.1)∧w'.cell? ⟨gM,1,none⟩=some (.slice AM1 (dg B32 M.2.1).length cM1)∧w'.cell? ⟨gM,2,none⟩=some (.slice AM2 (dg B32 M.2.2).length cM2)∧w'.cell? ⟨gB,0,none⟩=some (.bool B.1)∧w'.cell? ⟨gB,1,none⟩=some (.slice AB1 (dg B32 B.2.1).length cB1)∧w'.cell? ⟨gB,2,none⟩=some (.slice AB2 (dg B32 B.2.2).length cB2))) (ds:=[]) #[zf,zf,zf,zf,zf,zf,zf,zf,zf,zf,zf,zf,zf,zf,zf,zf,zf,zf,zf,zf,zf,zf,zf,zf,zf,zf,zf,zf,zf,zf,zf,zf,zf,zf,zf,zf,zf,zf,zf,zf,zf,zf,zf,zf,zf,zf,zf,zf,zf,zf,zf,zf,zf,zf,zf,zf,zf,zf,zf,zf,zf,zf,zf,zf,zf,zf,zf,zf,zf,zf,zf,zf,zf,zf] (by kernel_rfl) rfl rfl ((HF.out _ (zbu (Below.refl _ _))).1) (fun hHeld=>?_)
 refine zcA known.tab6 known.bits6 (fun HT_ HW_=>?_)
 have hb0:=Aside0.mk (show Below W5.heap.size W5 W5.drew from zbu (Below.refl _ _))
 generalize W5.drew=V0 at hb0 hHeld ⊢
 refine zbS (i:=0) (N:=some 33) (v:=?_) (a':=?_) #[zt,zf,zf,zf,zf,zf,zf,zf,zf,zf,zf,zf,zf,zf,zf,zf,zf,zf,zf,zf,zf,zf,zf,zf,zf,zf,zf,zf,zf,zf,zf,zf,zf,zf,zf,zf,zf,zf,zf,zf,zf,zf,zf,zf,zf,zf,zf,zf,zf,zf,zf,zf,zf,zf,zf,zf,zf,zf,zf,zf,zf,zf,zf,zf,zf,zf,zf,zf,zf,zf,zf,zf,zf,zf] rfl rfl (zbP HT_.out (by kernel_rfl)) (fun _ _ _ h=>h) (Or.inl ⟨by rfl,?_⟩) ?_ ?_
 rotate_left
 ·
  intro w'
  go_simp
  with_reducible rfl
 rotate_left
 ·
  simp only [Act.put,zA1,zA2,zA3,zbI,zbJ]
  rfl
 refine zbS (i:=1) (N:=some 34) (v:=?_) (a':=?_) #[zt,zt,zf,zf,zf,zf,zf,zf,zf,zf,zf,zf,zf,zf,zf,zf,zf,zf,zf,zf,zf,zf,zf,zf,zf,zf,zf,zf,zf,zf,zf,zf,zf,zf,zf,zf,zf,zf,zf,zf,zf,zf,zf,zf,zf,zf,zf,zf,zf,zf,zf,zf,zf,zf,zf,zf,zf,zf,zf,zf,zf,zf,zf,zf,zf,zf,zf,zf,zf,zf,zf,zf,zf,zf] rfl rfl (zbP HT_.out (by kernel_rfl)) (fun _ _ _ h=>h) (Or.inl ⟨by rfl,?_⟩) ?_ ?_
 rotate_left
 ·
  intro w'
  go_simp
  with_reducible rfl
 rotate_left
 ·
  simp only [Act.put,zA1,zA2,zA3,zbI,zbJ]
  rfl
 refine zbS (i:=2) (N:=some 35) (v:=?_) (a':=?_) #[zt,zt,zt,zf,zf,zf,zf,zf,zf,zf,zf,zf,zf,zf,zf,zf,zf,zf,zf,zf,zf,zf,zf,zf,zf,zf,zf,zf,zf,zf,zf,zf,zf,zf,zf,zf,zf,zf,zf,zf,zf,zf,zf,zf,zf,zf,zf,zf,zf,zf,zf,zf,zf,zf,zf,zf,zf,zf,zf,zf,zf,zf,zf,zf,zf,zf,zf,zf,zf,zf,zf,zf,zf,zf] rfl rfl (zbP HT_.out (by kernel_rfl)) (fun _ _ _ h=>h) (Or.inl ⟨by rfl,?_⟩) ?_ ?_
 rotate_left
 ·
  intro w'
  go_simp
  with_reducible rfl
 rotate_left
 ·
  simp only [Act.put,zA1,zA2,zA3,zbI,zbJ]
  rfl
 refine zbS (i:=3) (N:=some 36) (v:=?_) (a':=?_) #[zt,zt,zt,zt,zf,zf,zf,zf,zf,zf,zf,zf,zf,zf,zf,zf,zf,zf,zf,zf,zf,zf,zf,zf,zf,zf,zf,zf,zf,zf,zf,zf,zf,zf,zf,zf,zf,zf,zf,zf,zf,zf,zf,zf,zf,zf,zf,zf,zf,zf,zf,zf,zf,zf,zf,zf,zf,zf,zf,zf,zf,zf,zf,zf,zf,zf,zf,zf,zf,zf,zf,zf,zf,zf] rfl rfl (zbP HT_.out (by kernel_rfl)) (fun _ _ _ h=>h) (Or.inl ⟨by rfl,?_⟩) ?_ ?_
 rotate_left
 ·
  intro w'
  go_simp
  with_reducible rfl
 rotate_left
 ·
  simp only [Act.put,zA1,zA2,zA3,zbI,zbJ]
  rfl
 refine zbS (i:=4) (N:=some 37) (v:=?_) (a':=?_) #[zt,zt,zt,zt,zt,zf,zf,zf,zf,zf,zf,zf,zf,zf,zf,zf,zf,zf,zf,zf,zf,zf,zf,zf,zf,zf,zf,zf,zf,zf,zf,zf,zf,zf,zf,zf,zf,zf,zf,zf,zf,zf,zf,zf,zf,zf,zf,zf,zf,zf,zf,zf,zf,zf,zf,zf,zf,zf,zf,zf,zf,zf,zf,zf,zf,zf,zf,zf,zf,zf,zf,zf,zf,zf] rfl rfl (zbP HT_.out (by kernel_rfl)) (fun _ _ _ h=>h) (Or.inl ⟨by rfl,?_⟩) ?_ ?_
 rotate_left
 ·
  intro w'
  go_simp
  with_reducible rfl
 rotate_left
 ·
  simp only [Act.put,zA1,zA2,zA3,zbI,zbJ]
  rfl
 refine zbS (i:=5) (N:=some 38) (v:=?_) (a':=?_) #[zt,zt,zt,zt,zt,zt,zf,zf,zf,zf,zf,zf,zf,zf,zf,zf,zf,zf,zf,zf,zf,zf,zf,zf,zf,zf,zf,zf,zf,zf,zf,zf,zf,zf,zf,zf,zf,zf,zf,zf,zf,zf,zf,zf,zf,zf,zf,zf,zf,zf,zf,zf,zf,zf,zf,zf,zf,zf,zf,zf,zf,zf,zf,zf,zf,zf,zf,zf,zf,zf,zf,zf,zf,zf] rfl rfl (zbP HT_.out (by kernel_rfl)) (fun _ _ _ h=>h) (Or.inl ⟨by rfl,?_⟩) ?_ ?_
 rotate_left
 ·
  intro w'
  go_simp
  with_reducible rfl
 rotate_left
 ·
  simp only [Act.put,zA1,zA2,zA3,zbI,zbJ]
  rfl
 refine zbS (i:=6) (N:=some 39) (v:=?_) (a':=?_) #[zt,zt,zt,zt,zt,zt,zt,zf,zf,zf,zf,zf,zf,zf,zf,zf,zf,zf,zf,zf,zf,zf,zf,zf,zf,zf,zf,zf,zf,zf,zf,zf,zf,zf,zf,zf,zf,zf,zf,zf,zf,zf,zf,zf,zf,zf,zf,zf,zf,zf,zf,zf,zf,zf,zf,zf,zf,zf,zf,zf,zf,zf,zf,zf,zf,zf,zf,zf,zf,zf,zf,zf,zf,zf] rfl rfl (zbP HT_.out (by kernel_rfl)) (fun _ _ _ h=>h) (Or.inl ⟨by rfl,?_⟩) ?_ ?_
 rotate_left
 ·
  intro w'
  go_simp
  with_reducible rfl
 rotate_left
 ·
  simp only [Act.put,zA1,zA2,zA3,zbI,zbJ]
  rfl
 refine take_ (i:=8) (N:=some 41) (v:=?_) (a':=?_) #[zt,zt,zt,zt,zt,zt,zt,zf,zt,zf,zf,zf,zf,zf,zf,zf,zf,zf,zf,zf,zf,zf,zf,zf,zf,zf,zf,zf,zf,zf,zf,zf,zf,zf,zf,zf,zf,zf,zf,zf,zf,zf,zf,zf,zf,zf,zf,zf,zf,zf,zf,zf,zf,zf,zf,zf,zf,zf,zf,zf,zf,zf,zf,zf,zf,zf,zf,zf,zf,zf,zf,zf,zf,zf] rfl rfl (zbY HT_.out HW_.out (by kernel_rfl)) (fun _ _ _ h=>h) (Or.inl ⟨by rfl,?_⟩) hHeld ?_ ?_
 rotate_left
 ·
  intro w' s0
  go_simp
  with_reducible rfl
 rotate_left
 ·
  simp only [Act.put,zA1,zA2,zA3,zbI,zbJ]
  rfl
 refine take_ (i:=9) (N:=some 42) (v:=?_) (a':=?_) #[zt,zt,zt,zt,zt,zt,zt,zf,zt,zt,zf,zf,zf,zf,zf,zf,zf,zf,zf,zf,zf,zf,zf,zf,zf,zf,zf,zf,zf,zf,zf,zf,zf,zf,zf,zf,zf,zf,zf,zf,zf,zf,zf,zf,zf,zf,zf,zf,zf,zf,zf,zf,zf,zf,zf,zf,zf,zf,zf,zf,zf,zf,zf,zf,zf,zf,zf,zf,zf,zf,zf,zf,zf,zf] rfl rfl (zbY HT_.out HW_.out (by kernel_rfl)) (fun _ _ _ h=>h) (Or.inl ⟨by rfl,?_⟩) hHeld ?_ ?_
 rotate_left
 ·
  intro w' s0
  go_simp
  with_reducible rfl
 rotate_left
 ·
  simp only [Act.put,zA1,zA2,zA3,zbI,zbJ]
  rfl
 refine zct (i:=7) (N:=some 40) #[zt,zt,zt,zt,zt,zt,zt,zt,zt,zt,zf,zf,zf,zf,zf,zf,zf,zf,zf,zf,zf,zf,zf,zf,zf,zf,zf,zf,zf,zf,zf,zf,zf,zf,zf,zf,zf,zf,zf,zf,zf,zf,zf,zf,zf,zf,zf,zf,zf,zf,zf,zf,zf,zf,zf,zf,zf,zf,zf,zf,zf,zf,zf,zf,zf,zf,zf,zf,zf,zf,zf,zf,zf,zf] rfl rfl (zbZ HT_.out (by kernel_rfl)) (by decide) (fun K hK=>?_)
 refine zb8 Try.func58 (by kernel_rfl) rfl #[.int .i64 5,.int .i64 6] (by rfl) rfl rfl (by (try simp only [List.map_toArray,List.map_cons,List.map_nil]); first | done | rfl) ?_
 refine(ref_frac_q (x:=5) (y:=6) V0 (by decide) (by decide) (by decide) (by decide)).mono ?_
 rintro e V1 ⟨f7,rfl,hQ,hB⟩
 refine⟨_,rfl,?_⟩
 have HQ7:=Aside0.mk hQ
 clear hQ
 have hb1:=Aside0.mk (zbx hb0.out hB)
 clear hB hb0
 refine hK.out _ _ ((HF.out _ hb1.out).1) (fun hHeld=>?_)
 clear hK K
 refine zbR (a':=?_) ?_ ?_
 rotate_left
 ·
  show Act.put _ (some 40) _=_
  simp only [Act.put,zA1,zA2,zA3,zbI,zbJ]
  rfl
 refine zct (i:=10) (N:=some 43) #[zt,zt,zt,zt,zt,zt,zt,zt,zt,zt,zt,zf,zf,zf,zf,zf,zf,zf,zf,zf,zf,zf,zf,zf,zf,zf,zf,zf,zf,zf,zf,zf,zf,zf,zf,zf,zf,zf,zf,zf,zf,zf,zf,zf,zf,zf,zf,zf,zf,zf,zf,zf,zf,zf,zf,zf,zf,zf,zf,zf,zf,zf,zf,zf,zf,zf,zf,zf,zf,zf,zf,zf,zf,zf] rfl rfl (zbZ HT_.out (by kernel_rfl)) (by decide) (fun K hK=>?_)
 refine zb8 Try.func31 (by kernel_rfl) rfl #[.agg #[.bool H.1,.slice AH1 (dg B32 H.2.1).length cH1,.slice AH2 (dg B32 H.2.2).length cH2],.agg #[.bool T.1,.slice AT1 (dg B32 T.2.1).length cT1,.slice AT2 (dg B32 T.2.2).length cT2]] (by rfl) rfl rfl (by (try simp only [List.map_toArray,List.map_cons,List.map_nil]); first | done | rfl) ?_
 refine(addR_d (HF.out _ hb1.out).2.1 (HF.out _ hb1.out).2.2.1 KH.out.1 KT.out.1 KH.out.2 KT.out.2).mono ?_
 rintro e V2 ⟨z10,rfl,hR,hB⟩
 refine⟨_,rfl,?_⟩
 have HR10:=Aside0.mk hR
 have HQ7b:=Aside0.mk (HQ7.out.below hB)
 clear hR HQ7
 have hb2:=Aside0.mk (zbx hb1.out hB)
 clear hB hb1
 refine hK.out _ _ ((HF.out _ hb2.out).1) (fun hHeld=>?_)
 clear hK K
 refine zbR (a':=?_) ?_ ?_
 rotate_left
 ·
  show Act.put _ (some 43) _=_
  simp only [Act.put,zA1,zA2,zA3,zbI,zbJ]
  rfl
 refine zct (i:=11) (N:=some 44) #[zt,zt,zt,zt,zt,zt,zt,zt,zt,zt,zt,zt,zf,zf,zf,zf,zf,zf,zf,zf,zf,zf,zf,zf,zf,zf,zf,zf,zf,zf,zf,zf,zf,zf,zf,zf,zf,zf,zf,zf,zf,zf,zf,zf,zf,zf,zf,zf,zf,zf,zf,zf,zf,zf,zf,zf,zf,zf,zf,zf,zf,zf,zf,zf,zf,zf,zf,zf,zf,zf,zf,zf,zf,zf] rfl rfl (zbZ HT_.out (by kernel_rfl)) (by decide) (fun K hK=>?_)
 refine zb8 Try.func20 (by kernel_rfl) rfl #[f7,z10] (by rfl) rfl rfl (by (try simp only [List.map_toArray,List.map_cons,List.map_nil]); first | done | rfl) ?_
 refine(ref_is_same HQ7b.out HR10.out (by rw [EH.out,ET.out]; exact okQ_small (by decide) (by decide)) (by rw [EH.out,ET.out]; decide)).mono ?_
 rintro e V3 ⟨rfl,hB⟩
 refine⟨_,rfl,?_⟩
 clear HQ7b HR10
 have hb3:=Aside0.mk (zbx hb2.out hB)
 clear hB hb2
 refine hK.out _ _ ((HF.out _ hb3.out).1) (fun hHeld=>?_)
 clear hK K
 refine zbR (a':=?_) ?_ ?_
 rotate_left
 ·
  show Act.put _ (some 44) _=_
  simp only [Act.put,zA1,zA2,zA3,zbI,zbJ]
  rfl
 refine zbS (i:=12) (N:=some 45) (v:=?_) (a':=?_) #[zt,zt,zt,zt,zt,zt,zt,zt,zt,zt,zt,zt,zt,zf,zf,zf,zf,zf,zf,zf,zf,zf,zf,zf,zf,zf,zf,zf,zf,zf,zf,zf,zf,zf,zf,zf,zf,zf,zf,zf,zf,zf,zf,zf,zf,zf,zf,zf,zf,zf,zf,zf,zf,zf,zf,zf,zf,zf,zf,zf,zf,zf,zf,zf,zf,zf,zf,zf,zf,zf,zf,zf,zf,zf] rfl rfl (zbP HT_.out (by kernel_rfl)) (fun _ _ _ h=>h) (Or.inl ⟨by rfl,?_⟩) ?_ ?_
 rotate_left
 ·
  intro w'
  go_simp
  with_reducible rfl
 rotate_left
 ·
  simp only [Act.put,zA1,zA2,zA3,zbI,zbJ]
  rfl
 refine zbS (i:=13) (N:=some 46) (v:=?_) (a':=?_) #[zt,zt,zt,zt,zt,zt,zt,zt,zt,zt,zt,zt,zt,zt,zf,zf,zf,zf,zf,zf,zf,zf,zf,zf,zf,zf,zf,zf,zf,zf,zf,zf,zf,zf,zf,zf,zf,zf,zf,zf,zf,zf,zf,zf,zf,zf,zf,zf,zf,zf,zf,zf,zf,zf,zf,zf,zf,zf,zf,zf,zf,zf,zf,zf,zf,zf,zf,zf,zf,zf,zf,zf,zf,zf] rfl rfl (zbP HT_.out (by kernel_rfl)) (fun _ _ _ h=>h) (Or.inl ⟨by rfl,?_⟩) ?_ ?_
 rotate_left
 ·
  intro w'
  go_simp
  with_reducible rfl
 rotate_left
 ·
  simp only [Act.put,zA1,zA2,zA3,zbI,zbJ]
  rfl
 refine take_ (i:=15) (N:=some 48) (v:=?_) (a':=?_) #[zt,zt,zt,zt,zt,zt,zt,zt,zt,zt,zt,zt,zt,zt,zf,zt,zf,zf,zf,zf,zf,zf,zf,zf,zf,zf,zf,zf,zf,zf,zf,zf,zf,zf,zf,zf,zf,zf,zf,zf,zf,zf,zf,zf,zf,zf,zf,zf,zf,zf,zf,zf,zf,zf,zf,zf,zf,zf,zf,zf,zf,zf,zf,zf,zf,zf,zf,zf,zf,zf,zf,zf,zf,zf] rfl rfl (zbY HT_.out HW_.out (by kernel_rfl)) (fun _ _ _ h=>h) (Or.inl ⟨by rfl,?_⟩) hHeld ?_ ?_
 rotate_left
 ·
  intro w' s0
  go_simp
  with_reducible rfl
 rotate_left
 ·
  simp only [Act.put,zA1,zA2,zA3,zbI,zbJ]
  rfl
 refine take_ (i:=16) (N:=some 49) (v:=?_) (a':=?_) #[zt,zt,zt,zt,zt,zt,zt,zt,zt,zt,zt,zt,zt,zt,zf,zt,zt,zf,zf,zf,zf,zf,zf,zf,zf,zf,zf,zf,zf,zf,zf,zf,zf,zf,zf,zf,zf,zf,zf,zf,zf,zf,zf,zf,zf,zf,zf,zf,zf,zf,zf,zf,zf,zf,zf,zf,zf,zf,zf,zf,zf,zf,zf,zf,zf,zf,zf,zf,zf,zf,zf,zf,zf,zf] rfl rfl (zbY HT_.out HW_.out (by kernel_rfl)) (fun _ _ _ h=>h) (Or.inl ⟨by rfl,?_⟩) hHeld ?_ ?_
 rotate_left
 ·
  intro w' s0
  go_simp
  with_reducible rfl
 rotate_left
 ·
  simp only [Act.put,zA1,zA2,zA3,zbI,zbJ]
  rfl
 refine zct (i:=14) (N:=some 47) #[zt,zt,zt,zt,zt,zt,zt,zt,zt,zt,zt,zt,zt,zt,zt,zt,zt,zf,zf,zf,zf,zf,zf,zf,zf,zf,zf,zf,zf,zf,zf,zf,zf,zf,zf,zf,zf,zf,zf,zf,zf,zf,zf,zf,zf,zf,zf,zf,zf,zf,zf,zf,zf,zf,zf,zf,zf,zf,zf,zf,zf,zf,zf,zf,zf,zf,zf,zf,zf,zf,zf,zf,zf,zf] rfl rfl (zbZ HT_.out (by kernel_rfl)) (by decide) (fun K hK=>?_)
 refine zb8 Try.func58 (by kernel_rfl) rfl #[.int .i64 1,.int .i64 6] (by rfl) rfl rfl (by (try simp only [List.map_toArray,List.map_cons,List.map_nil]); first | done | rfl) ?_
 refine(ref_frac_q (x:=1) (y:=6) V3 (by decide) (by decide) (by decide) (by decide)).mono ?_
 rintro e V4 ⟨f14,rfl,hQ,hB⟩
 refine⟨_,rfl,?_⟩
 have HQ14:=Aside0.mk hQ
 clear hQ
 have hb4:=Aside0.mk (zbx hb3.out hB)
 clear hB hb3
 refine hK.out _ _ ((HF.out _ hb4.out).1) (fun hHeld=>?_)
 clear hK K
 refine zbR (a':=?_) ?_ ?_
 rotate_left
 ·
  show Act.put _ (some 47) _=_
  simp only [Act.put,zA1,zA2,zA3,zbI,zbJ]
  rfl
 refine zct (i:=17) (N:=some 50) #[zt,zt,zt,zt,zt,zt,zt,zt,zt,zt,zt,zt,zt,zt,zt,zt,zt,zt,zf,zf,zf,zf,zf,zf,zf,zf,zf,zf,zf,zf,zf,zf,zf,zf,zf,zf,zf,zf,zf,zf,zf,zf,zf,zf,zf,zf,zf,zf,zf,zf,zf,zf,zf,zf,zf,zf,zf,zf,zf,zf,zf,zf,zf,zf,zf,zf,zf,zf,zf,zf,zf,zf,zf,zf] rfl rfl (zbZ HT_.out (by kernel_rfl)) (by decide) (fun K hK=>?_)
 refine zb8 Try.func33 (by kernel_rfl) rfl #[.agg #[.bool H.1,.slice AH1 (dg B32 H.2.1).length cH1,.slice AH2 (dg B32 H.2.2).length cH2],.agg #[.bool T.1,.slice AT1 (dg B32 T.2.1).length cT1,.slice AT2 (dg B32 T.2.2).length cT2]] (by rfl) rfl rfl (by (try simp only [List.map_toArray,List.map_cons,List.map_nil]); first | done | rfl) ?_
 refine(subR_d (HF.out _ hb4.out).2.1 (HF.out _ hb4.out).2.2.1 KH.out.1 KT.out.1 KH.out.2 KT.out.2).mono ?_
 rintro e V5 ⟨z17,rfl,hR,hB⟩
 refine⟨_,rfl,?_⟩
 have HR17:=Aside0.mk hR
 have HQ14b:=Aside0.mk (HQ14.out.below hB)
 clear hR HQ14
 have hb5:=Aside0.mk (zbx hb4.out hB)
 clear hB hb4
 refine hK.out _ _ ((HF.out _ hb5.out).1) (fun hHeld=>?_)
 clear hK K
 refine zbR (a':=?_) ?_ ?_
 rotate_left
 ·
  show Act.put _ (some 50) _=_
  simp only [Act.put,zA1,zA2,zA3,zbI,zbJ]
  rfl
 refine zct (i:=18) (N:=some 51) #[zt,zt,zt,zt,zt,zt,zt,zt,zt,zt,zt,zt,zt,zt,zt,zt,zt,zt,zt,zf,zf,zf,zf,zf,zf,zf,zf,zf,zf,zf,zf,zf,zf,zf,zf,zf,zf,zf,zf,zf,zf,zf,zf,zf,zf,zf,zf,zf,zf,zf,zf,zf,zf,zf,zf,zf,zf,zf,zf,zf,zf,zf,zf,zf,zf,zf,zf,zf,zf,zf,zf,zf,zf,zf] rfl rfl (zbZ HT_.out (by kernel_rfl)) (by decide) (fun K hK=>?_)
 refine zb8 Try.func20 (by kernel_rfl) rfl #[f14,z17] (by rfl) rfl rfl (by (try simp only [List.map_toArray,List.map_cons,List.map_nil]); first | done | rfl) ?_
 refine(ref_is_same HQ14b.out HR17.out (by rw [EH.out,ET.out]; exact okQ_small (by decide) (by decide)) (by rw [EH.out,ET.out]; decide)).mono ?_
 rintro e V6 ⟨rfl,hB⟩
 refine⟨_,rfl,?_⟩
 clear HQ14b HR17
 have hb6:=Aside0.mk (zbx hb5.out hB)
 clear hB hb5
 refine hK.out _ _ ((HF.out _ hb6.out).1) (fun hHeld=>?_)
 clear hK K
 refine zbR (a':=?_) ?_ ?_
 rotate_left
 ·
  show Act.put _ (some 51) _=_
  simp only [Act.put,zA1,zA2,zA3,zbI,zbJ]
  rfl
 refine zbS (i:=19) (N:=some 52) (v:=?_) (a':=?_) #[zt,zt,zt,zt,zt,zt,zt,zt,zt,zt,zt,zt,zt,zt,zt,zt,zt,zt,zt,zt,zf,zf,zf,zf,zf,zf,zf,zf,zf,zf,zf,zf,zf,zf,zf,zf,zf,zf,zf,zf,zf,zf,zf,zf,zf,zf,zf,zf,zf,zf,zf,zf,zf,zf,zf,zf,zf,zf,zf,zf,zf,zf,zf,zf,zf,zf,zf,zf,zf,zf,zf,zf,zf,zf] rfl rfl (zbP HT_.out (by kernel_rfl)) (fun _ _ _ h=>h) (Or.inl ⟨by rfl,?_⟩) ?_ ?_
 rotate_left
 ·
  intro w'
  go_simp
  with_reducible rfl
 rotate_left
 ·
  simp only [Act.put,zA1,zA2,zA3,zbI,zbJ]
  rfl
 refine zbS (i:=20) (N:=some 53) (v:=?_) (a':=?_) #[zt,zt,zt,zt,zt,zt,zt,zt,zt,zt,zt,zt,zt,zt,zt,zt,zt,zt,zt,zt,zt,zf,zf,zf,zf,zf,zf,zf,zf,zf,zf,zf,zf,zf,zf,zf,zf,zf,zf,zf,zf,zf,zf,zf,zf,zf,zf,zf,zf,zf,zf,zf,zf,zf,zf,zf,zf,zf,zf,zf,zf,zf,zf,zf,zf,zf,zf,zf,zf,zf,zf,zf,zf,zf] rfl rfl (zbP HT_.out (by kernel_rfl)) (fun _ _ _ h=>h) (Or.inl ⟨by rfl,?_⟩) ?_ ?_
 rotate_left
 ·
  intro w'
  go_simp
  with_reducible rfl
 rotate_left
 ·
  simp only [Act.put,zA1,zA2,zA3,zbI,zbJ]
  rfl
 refine take_ (i:=22) (N:=some 55) (v:=?_) (a':=?_) #[zt,zt,zt,zt,zt,zt,zt,zt,zt,zt,zt,zt,zt,zt,zt,zt,zt,zt,zt,zt,zt,zf,zt,zf,zf,zf,zf,zf,zf,zf,zf,zf,zf,zf,zf,zf,zf,zf,zf,zf,zf,zf,zf,zf,zf,zf,zf,zf,zf,zf,zf,zf,zf,zf,zf,zf,zf,zf,zf,zf,zf,zf,zf,zf,zf,zf,zf,zf,zf,zf,zf,zf,zf,zf] rfl rfl (zbY HT_.out HW_.out (by kernel_rfl)) (fun _ _ _ h=>h) (Or.inl ⟨by rfl,?_⟩) hHeld ?_ ?_
 rotate_left
 ·
  intro w' s0
  go_simp
  with_reducible rfl
 rotate_left
 ·
  simp only [Act.put,zA1,zA2,zA3,zbI,zbJ]
  rfl
 refine take_ (i:=23) (N:=some 56) (v:=?_) (a':=?_) #[zt,zt,zt,zt,zt,zt,zt,zt,zt,zt,zt,zt,zt,zt,zt,zt,zt,zt,zt,zt,zt,zf,zt,zt,zf,zf,zf,zf,zf,zf,zf,zf,zf,zf,zf,zf,zf,zf,zf,zf,zf,zf,zf,zf,zf,zf,zf,zf,zf,zf,zf,zf,zf,zf,zf,zf,zf,zf,zf,zf,zf,zf,zf,zf,zf,zf,zf,zf,zf,zf,zf,zf,zf,zf] rfl rfl (zbY HT_.out HW_.out (by kernel_rfl)) (fun _ _ _ h=>h) (Or.inl ⟨by rfl,?_⟩) hHeld ?_ ?_
 rotate_left
 ·
  intro w' s0
  go_simp
  with_reducible rfl
 rotate_left
 ·
  simp only [Act.put,zA1,zA2,zA3,zbI,zbJ]
  rfl
 refine zct (i:=21) (N:=some 54) #[zt,zt,zt,zt,zt,zt,zt,zt,zt,zt,zt,zt,zt,zt,zt,zt,zt,zt,zt,zt,zt,zt,zt,zt,zf,zf,zf,zf,zf,zf,zf,zf,zf,zf,zf,zf,zf,zf,zf,zf,zf,zf,zf,zf,zf,zf,zf,zf,zf,zf,zf,zf,zf,zf,zf,zf,zf,zf,zf,zf,zf,zf,zf,zf,zf,zf,zf,zf,zf,zf,zf,zf,zf,zf] rfl rfl (zbZ HT_.out (by kernel_rfl)) (by decide) (fun K hK=>?_)
 refine zb8 Try.func58 (by kernel_rfl) rfl #[.int .i64 1,.int .i64 6] (by rfl) rfl rfl (by (try simp only [List.map_toArray,List.map_cons,List.map_nil]); first | done | rfl) ?_
 refine(ref_frac_q (x:=1) (y:=6) V6 (by decide) (by decide) (by decide) (by decide)).mono ?_
 rintro e V7 ⟨f21,rfl,hQ,hB⟩
 refine⟨_,rfl,?_⟩
 have HQ21:=Aside0.mk hQ
 clear hQ
 have hb7:=Aside0.mk (zbx hb6.out hB)
 clear hB hb6
 refine hK.out _ _ ((HF.out _ hb7.out).1) (fun hHeld=>?_)
 clear hK K
 refine zbR (a':=?_) ?_ ?_
 rotate_left
 ·
  show Act.put _ (some 54) _=_
  simp only [Act.put,zA1,zA2,zA3,zbI,zbJ]
  rfl
 refine zct (i:=24) (N:=some 57) #[zt,zt,zt,zt,zt,zt,zt,zt,zt,zt,zt,zt,zt,zt,zt,zt,zt,zt,zt,zt,zt,zt,zt,zt,zt,zf,zf,zf,zf,zf,zf,zf,zf,zf,zf,zf,zf,zf,zf,zf,zf,zf,zf,zf,zf,zf,zf,zf,zf,zf,zf,zf,zf,zf,zf,zf,zf,zf,zf,zf,zf,zf,zf,zf,zf,zf,zf,zf,zf,zf,zf,zf,zf,zf] rfl rfl (zbZ HT_.out (by kernel_rfl)) (by decide) (fun K hK=>?_)
 refine zb8 Try.func35 (by kernel_rfl) rfl #[.agg #[.bool H.1,.slice AH1 (dg B32 H.2.1).length cH1,.slice AH2 (dg B32 H.2.2).length cH2],.agg #[.bool T.1,.slice AT1 (dg B32 T.2.1).length cT1,.slice AT2 (dg B32 T.2.2).length cT2]] (by rfl) rfl rfl (by (try simp only [List.map_toArray,List.map_cons,List.map_nil]); first | done | rfl) ?_
 refine(mulR_d (HF.out _ hb7.out).2.1 (HF.out _ hb7.out).2.2.1 KH.out.1 KT.out.1 KH.out.2 KT.out.2).mono ?_
 rintro e V8 ⟨z24,rfl,hR,hB⟩
 refine⟨_,rfl,?_⟩
 have HR24:=Aside0.mk hR
 have HQ21b:=Aside0.mk (HQ21.out.below hB)
 clear hR HQ21
 have hb8:=Aside0.mk (zbx hb7.out hB)
 clear hB hb7
 refine hK.out _ _ ((HF.out _ hb8.out).1) (fun hHeld=>?_)
 clear hK K
 refine zbR (a':=?_) ?_ ?_
 rotate_left
 ·
  show Act.put _ (some 57) _=_
  simp only [Act.put,zA1,zA2,zA3,zbI,zbJ]
  rfl
 refine zct (i:=25) (N:=some 58) #[zt,zt,zt,zt,zt,zt,zt,zt,zt,zt,zt,zt,zt,zt,zt,zt,zt,zt,zt,zt,zt,zt,zt,zt,zt,zt,zf,zf,zf,zf,zf,zf,zf,zf,zf,zf,zf,zf,zf,zf,zf,zf,zf,zf,zf,zf,zf,zf,zf,zf,zf,zf,zf,zf,zf,zf,zf,zf,zf,zf,zf,zf,zf,zf,zf,zf,zf,zf,zf,zf,zf,zf,zf,zf] rfl rfl (zbZ HT_.out (by kernel_rfl)) (by decide) (fun K hK=>?_)
 refine zb8 Try.func20 (by kernel_rfl) rfl #[f21,z24] (by rfl) rfl rfl (by (try simp only [List.map_toArray,List.map_cons,List.map_nil]); first | done | rfl) ?_
 refine(ref_is_same HQ21b.out HR24.out (by rw [EH.out,ET.out]; exact okQ_small (by decide) (by decide)) (by rw [EH.out,ET.out]; decide)).mono ?_
 rintro e V9 ⟨rfl,hB⟩
 refine⟨_,rfl,?_⟩
 clear HQ21b HR24
 have hb9:=Aside0.mk (zbx hb8.out hB)
 clear hB hb8
 refine hK.out _ _ ((HF.out _ hb9.out).1) (fun hHeld=>?_)
 clear hK K
 refine zbR (a':=?_) ?_ ?_
 rotate_left
 ·
  show Act.put _ (some 58) _=_
  simp only [Act.put,zA1,zA2,zA3,zbI,zbJ]
  rfl
 refine zbS (i:=26) (N:=some 59) (v:=?_) (a':=?_) #[zt,zt,zt,zt,zt,zt,zt,zt,zt,zt,zt,zt,zt,zt,zt,zt,zt,zt,zt,zt,zt,zt,zt,zt,zt,zt,zt,zf,zf,zf,zf,zf,zf,zf,zf,zf,zf,zf,zf,zf,zf,zf,zf,zf,zf,zf,zf,zf,zf,zf,zf,zf,zf,zf,zf,zf,zf,zf,zf,zf,zf,zf,zf,zf,zf,zf,zf,zf,zf,zf,zf,zf,zf,zf] rfl rfl (zbP HT_.out (by kernel_rfl)) (fun _ _ _ h=>h) (Or.inl ⟨by rfl,?_⟩) ?_ ?_
 rotate_left
 ·
  intro w'
  go_simp
  with_reducible rfl
 rotate_left
 ·
  simp only [Act.put,zA1,zA2,zA3,zbI,zbJ]
  rfl
 refine zbS (i:=27) (N:=some 60) (v:=?_) (a':=?_) #[zt,zt,zt,zt,zt,zt,zt,zt,zt,zt,zt,zt,zt,zt,zt,zt,zt,zt,zt,zt,zt,zt,zt,zt,zt,zt,zt,zt,zf,zf,zf,zf,zf,zf,zf,zf,zf,zf,zf,zf,zf,zf,zf,zf,zf,zf,zf,zf,zf,zf,zf,zf,zf,zf,zf,zf,zf,zf,zf,zf,zf,zf,zf,zf,zf,zf,zf,zf,zf,zf,zf,zf,zf,zf] rfl rfl (zbP HT_.out (by kernel_rfl)) (fun _ _ _ h=>h) (Or.inl ⟨by rfl,?_⟩) ?_ ?_
 rotate_left
 ·
  intro w'
  go_simp
  with_reducible rfl
 rotate_left
 ·
  simp only [Act.put,zA1,zA2,zA3,zbI,zbJ]
  rfl
 refine zbS (i:=28) (N:=some 61) (v:=?_) (a':=?_) #[zt,zt,zt,zt,zt,zt,zt,zt,zt,zt,zt,zt,zt,zt,zt,zt,zt,zt,zt,zt,zt,zt,zt,zt,zt,zt,zt,zt,zt,zf,zf,zf,zf,zf,zf,zf,zf,zf,zf,zf,zf,zf,zf,zf,zf,zf,zf,zf,zf,zf,zf,zf,zf,zf,zf,zf,zf,zf,zf,zf,zf,zf,zf,zf,zf,zf,zf,zf,zf,zf,zf,zf,zf,zf] rfl rfl (zbP HT_.out (by kernel_rfl)) (fun _ _ _ h=>h) (Or.inl ⟨by rfl,?_⟩) ?_ ?_
 rotate_left
 ·
  intro w'
  go_simp
  with_reducible rfl
 rotate_left
 ·
  simp only [Act.put,zA1,zA2,zA3,zbI,zbJ]
  rfl
 refine zbS (i:=29) (N:=some 62) (v:=?_) (a':=?_) #[zt,zt,zt,zt,zt,zt,zt,zt,zt,zt,zt,zt,zt,zt,zt,zt,zt,zt,zt,zt,zt,zt,zt,zt,zt,zt,zt,zt,zt,zt,zf,zf,zf,zf,zf,zf,zf,zf,zf,zf,zf,zf,zf,zf,zf,zf,zf,zf,zf,zf,zf,zf,zf,zf,zf,zf,zf,zf,zf,zf,zf,zf,zf,zf,zf,zf,zf,zf,zf,zf,zf,zf,zf,zf] rfl rfl (zbP HT_.out (by kernel_rfl)) (fun _ _ _ h=>h) (Or.inl ⟨by rfl,?_⟩) ?_ ?_
 rotate_left
 ·
  intro w'
  go_simp
  with_reducible rfl
 rotate_left
 ·
  simp only [Act.put,zA1,zA2,zA3,zbI,zbJ]
  rfl
 refine zbS (i:=30) (N:=some 63) (v:=?_) (a':=?_) #[zt,zt,zt,zt,zt,zt,zt,zt,zt,zt,zt,zt,zt,zt,zt,zt,zt,zt,zt,zt,zt,zt,zt,zt,zt,zt,zt,zt,zt,zt,zt,zf,zf,zf,zf,zf,zf,zf,zf,zf,zf,zf,zf,zf,zf,zf,zf,zf,zf,zf,zf,zf,zf,zf,zf,zf,zf,zf,zf,zf,zf,zf,zf,zf,zf,zf,zf,zf,zf,zf,zf,zf,zf,zf] rfl rfl (zbP HT_.out (by kernel_rfl)) (fun _ _ _ h=>h) (Or.inl ⟨by rfl,?_⟩) ?_ ?_
 rotate_left
 ·
  intro w'
  go_simp
  with_reducible rfl
 rotate_left
 ·
  simp only [Act.put,zA1,zA2,zA3,zbI,zbJ]
  rfl
 refine zbS (i:=31) (N:=some 64) (v:=?_) (a':=?_) #[zt,zt,zt,zt,zt,zt,zt,zt,zt,zt,zt,zt,zt,zt,zt,zt,zt,zt,zt,zt,zt,zt,zt,zt,zt,zt,zt,zt,zt,zt,zt,zt,zf,zf,zf,zf,zf,zf,zf,zf,zf,zf,zf,zf,zf,zf,zf,zf,zf,zf,zf,zf,zf,zf,zf,zf,zf,zf,zf,zf,zf,zf,zf,zf,zf,zf,zf,zf,zf,zf,zf,zf,zf,zf] rfl rfl (zbP HT_.out (by kernel_rfl)) (fun _ _ _ h=>h) (Or.inl ⟨by rfl,?_⟩) ?_ ?_
 rotate_left
 ·
  intro w'
  go_simp
  with_reducible rfl
 rotate_left
 ·
  simp only [Act.put,zA1,zA2,zA3,zbI,zbJ]
  rfl
 refine take_ (i:=33) (N:=some 66) (v:=?_) (a':=?_) #[zt,zt,zt,zt,zt,zt,zt,zt,zt,zt,zt,zt,zt,zt,zt,zt,zt,zt,zt,zt,zt,zt,zt,zt,zt,zt,zt,zt,zt,zt,zt,zt,zf,zt,zf,zf,zf,zf,zf,zf,zf,zf,zf,zf,zf,zf,zf,zf,zf,zf,zf,zf,zf,zf,zf,zf,zf,zf,zf,zf,zf,zf,zf,zf,zf,zf,zf,zf,zf,zf,zf,zf,zf,zf] rfl rfl (zbY HT_.out HW_.out (by kernel_rfl)) (fun _ _ _ h=>h) (Or.inl ⟨by rfl,?_⟩) hHeld ?_ ?_
 rotate_left
 ·
  intro w' s0
  go_simp
  with_reducible rfl
 rotate_left
 ·
  simp only [Act.put,zA1,zA2,zA3,zbI,zbJ]
  rfl
 refine zct (i:=32) (N:=some 65) #[zt,zt,zt,zt,zt,zt,zt,zt,zt,zt,zt,zt,zt,zt,zt,zt,zt,zt,zt,zt,zt,zt,zt,zt,zt,zt,zt,zt,zt,zt,zt,zt,zt,zt,zf,zf,zf,zf,zf,zf,zf,zf,zf,zf,zf,zf,zf,zf,zf,zf,zf,zf,zf,zf,zf,zf,zf,zf,zf,zf,zf,zf,zf,zf,zf,zf,zf,zf,zf,zf,zf,zf,zf,zf] rfl rfl (zbZ HT_.out (by kernel_rfl)) (by decide) (fun K hK=>?_)
 refine zb8 Try.func58 (by kernel_rfl) rfl #[.int .i64 3,.int .i64 2] (by rfl) rfl rfl (by (try simp only [List.map_toArray,List.map_cons,List.map_nil]); first | done | rfl) ?_
 refine(ref_frac_q (x:=3) (y:=2) V9 (by decide) (by decide) (by decide) (by decide)).mono ?_
 rintro e V10 ⟨f32,rfl,hQ,hB⟩
 refine⟨_,rfl,?_⟩
 have HQ32:=Aside0.mk hQ
 clear hQ
 have hb10:=Aside0.mk (zbx hb9.out hB)
 clear hB hb9
 refine hK.out _ _ ((HF.out _ hb10.out).1) (fun hHeld=>?_)
 clear hK K
 refine zbR (a':=?_) ?_ ?_
 rotate_left
 ·
  show Act.put _ (some 65) _=_
  simp only [Act.put,zA1,zA2,zA3,zbI,zbJ]
  rfl
 refine zct (i:=34) (N:=some 67) #[zt,zt,zt,zt,zt,zt,zt,zt,zt,zt,zt,zt,zt,zt,zt,zt,zt,zt,zt,zt,zt,zt,zt,zt,zt,zt,zt,zt,zt,zt,zt,zt,zt,zt,zt,zf,zf,zf,zf,zf,zf,zf,zf,zf,zf,zf,zf,zf,zf,zf,zf,zf,zf,zf,zf,zf,zf,zf,zf,zf,zf,zf,zf,zf,zf,zf,zf,zf,zf,zf,zf,zf,zf,zf] rfl rfl (zbZ HT_.out (by kernel_rfl)) (by decide) (fun K hK=>?_)
 refine zb8 Try.func20 (by kernel_rfl) rfl #[f32,.agg #[.bool Q.1,.slice AQ1 (dg B32 Q.2.1).length cQ1,.slice AQ2 (dg B32 Q.2.2).length cQ2]] (by rfl) rfl rfl (by (try simp only [List.map_toArray,List.map_cons,List.map_nil]); first | done | rfl) ?_
 refine(ref_is_same HQ32.out (HF.out _ hb10.out).2.2.2.1 KQ.out.2 (by rw [EQ.out]; decide)).mono ?_
 rintro e V11 ⟨rfl,hB⟩
 refine⟨_,rfl,?_⟩
 clear HQ32
 have hb11:=Aside0.mk (zbx hb10.out hB)
 clear hB hb10
 refine hK.out _ _ ((HF.out _ hb11.out).1) (fun hHeld=>?_)
 clear hK K
 refine zbR (a':=?_) ?_ ?_
 rotate_left
 ·
  show Act.put _ (some 67) _=_
  simp only [Act.put,zA1,zA2,zA3,zbI,zbJ]
  rfl
 refine zbS (i:=35) (N:=some 68) (v:=?_) (a':=?_) #[zt,zt,zt,zt,zt,zt,zt,zt,zt,zt,zt,zt,zt,zt,zt,zt,zt,zt,zt,zt,zt,zt,zt,zt,zt,zt,zt,zt,zt,zt,zt,zt,zt,zt,zt,zt,zf,zf,zf,zf,zf,zf,zf,zf,zf,zf,zf,zf,zf,zf,zf,zf,zf,zf,zf,zf,zf,zf,zf,zf,zf,zf,zf,zf,zf,zf,zf,zf,zf,zf,zf,zf,zf,zf] rfl rfl (zbP HT_.out (by kernel_rfl)) (fun _ _ _ h=>h) (Or.inl ⟨by rfl,?_⟩) ?_ ?_
 rotate_left
 ·
  intro w'
  go_simp
  with_reducible rfl
 rotate_left
 ·
  simp only [Act.put,zA1,zA2,zA3,zbI,zbJ]
  rfl
 refine zbS (i:=36) (N:=some 69) (v:=?_) (a':=?_) #[zt,zt,zt,zt,zt,zt,zt,zt,zt,zt,zt,zt,zt,zt,zt,zt,zt,zt,zt,zt,zt,zt,zt,zt,zt,zt,zt,zt,zt,zt,zt,zt,zt,zt,zt,zt,zt,zf,zf,zf,zf,zf,zf,zf,zf,zf,zf,zf,zf,zf,zf,zf,zf,zf,zf,zf,zf,zf,zf,zf,zf,zf,zf,zf,zf,zf,zf,zf,zf,zf,zf,zf,zf,zf] rfl rfl (zbP HT_.out (by kernel_rfl)) (fun _ _ _ h=>h) (Or.inl ⟨by rfl,?_⟩) ?_ ?_
 rotate_left
 ·
  intro w'
  go_simp
  with_reducible rfl
 rotate_left
 ·
  simp only [Act.put,zA1,zA2,zA3,zbI,zbJ]
  rfl
 refine zbS (i:=37) (N:=some 70) (v:=?_) (a':=?_) #[zt,zt,zt,zt,zt,zt,zt,zt,zt,zt,zt,zt,zt,zt,zt,zt,zt,zt,zt,zt,zt,zt,zt,zt,zt,zt,zt,zt,zt,zt,zt,zt,zt,zt,zt,zt,zt,zt,zf,zf,zf,zf,zf,zf,zf,zf,zf,zf,zf,zf,zf,zf,zf,zf,zf,zf,zf,zf,zf,zf,zf,zf,zf,zf,zf,zf,zf,zf,zf,zf,zf,zf,zf,zf] rfl rfl (zbP HT_.out (by kernel_rfl)) (fun _ _ _ h=>h) (Or.inl ⟨by rfl,?_⟩) ?_ ?_
 rotate_left
 ·
  intro w'
  go_simp
  with_reducible rfl
 rotate_left
 ·
  simp only [Act.put,zA1,zA2,zA3,zbI,zbJ]
  rfl
 refine zbS (i:=38) (N:=some 71) (v:=?_) (a':=?_) #[zt,zt,zt,zt,zt,zt,zt,zt,zt,zt,zt,zt,zt,zt,zt,zt,zt,zt,zt,zt,zt,zt,zt,zt,zt,zt,zt,zt,zt,zt,zt,zt,zt,zt,zt,zt,zt,zt,zt,zf,zf,zf,zf,zf,zf,zf,zf,zf,zf,zf,zf,zf,zf,zf,zf,zf,zf,zf,zf,zf,zf,zf,zf,zf,zf,zf,zf,zf,zf,zf,zf,zf,zf,zf] rfl rfl (zbP HT_.out (by kernel_rfl)) (fun _ _ _ h=>h) (Or.inl ⟨by rfl,?_⟩) ?_ ?_
 rotate_left
 ·
  intro w'
  go_simp
  with_reducible rfl
 rotate_left
 ·
  simp only [Act.put,zA1,zA2,zA3,zbI,zbJ]
  rfl
 refine zbS (i:=39) (N:=some 72) (v:=?_) (a':=?_) #[zt,zt,zt,zt,zt,zt,zt,zt,zt,zt,zt,zt,zt,zt,zt,zt,zt,zt,zt,zt,zt,zt,zt,zt,zt,zt,zt,zt,zt,zt,zt,zt,zt,zt,zt,zt,zt,zt,zt,zt,zf,zf,zf,zf,zf,zf,zf,zf,zf,zf,zf,zf,zf,zf,zf,zf,zf,zf,zf,zf,zf,zf,zf,zf,zf,zf,zf,zf,zf,zf,zf,zf,zf,zf] rfl rfl (zbP HT_.out (by kernel_rfl)) (fun _ _ _ h=>h) (Or.inl ⟨by rfl,?_⟩) ?_ ?_
 rotate_left
 ·
  intro w'
  go_simp
  with_reducible rfl
 rotate_left
 ·
  simp only [Act.put,zA1,zA2,zA3,zbI,zbJ]
  rfl
 refine zbS (i:=40) (N:=some 73) (v:=?_) (a':=?_) #[zt,zt,zt,zt,zt,zt,zt,zt,zt,zt,zt,zt,zt,zt,zt,zt,zt,zt,zt,zt,zt,zt,zt,zt,zt,zt,zt,zt,zt,zt,zt,zt,zt,zt,zt,zt,zt,zt,zt,zt,zt,zf,zf,zf,zf,zf,zf,zf,zf,zf,zf,zf,zf,zf,zf,zf,zf,zf,zf,zf,zf,zf,zf,zf,zf,zf,zf,zf,zf,zf,zf,zf,zf,zf] rfl rfl (zbP HT_.out (by kernel_rfl)) (fun _ _ _ h=>h) (Or.inl ⟨by rfl,?_⟩) ?_ ?_
 rotate_left
 ·
  intro w'
  go_simp
  with_reducible rfl
 rotate_left
 ·
  simp only [Act.put,zA1,zA2,zA3,zbI,zbJ]
  rfl
 refine take_ (i:=42) (N:=some 75) (v:=?_) (a':=?_) #[zt,zt,zt,zt,zt,zt,zt,zt,zt,zt,zt,zt,zt,zt,zt,zt,zt,zt,zt,zt,zt,zt,zt,zt,zt,zt,zt,zt,zt,zt,zt,zt,zt,zt,zt,zt,zt,zt,zt,zt,zt,zf,zt,zf,zf,zf,zf,zf,zf,zf,zf,zf,zf,zf,zf,zf,zf,zf,zf,zf,zf,zf,zf,zf,zf,zf,zf,zf,zf,zf,zf,zf,zf,zf] rfl rfl (zbY HT_.out HW_.out (by kernel_rfl)) (fun _ _ _ h=>h) (Or.inl ⟨by rfl,?_⟩) hHeld ?_ ?_
 rotate_left
 ·
  intro w' s0
  go_simp
  with_reducible rfl
 rotate_left
 ·
  simp only [Act.put,zA1,zA2,zA3,zbI,zbJ]
  rfl
 refine zct (i:=41) (N:=some 74) #[zt,zt,zt,zt,zt,zt,zt,zt,zt,zt,zt,zt,zt,zt,zt,zt,zt,zt,zt,zt,zt,zt,zt,zt,zt,zt,zt,zt,zt,zt,zt,zt,zt,zt,zt,zt,zt,zt,zt,zt,zt,zt,zt,zf,zf,zf,zf,zf,zf,zf,zf,zf,zf,zf,zf,zf,zf,zf,zf,zf,zf,zf,zf,zf,zf,zf,zf,zf,zf,zf,zf,zf,zf,zf] rfl rfl (zbZ HT_.out (by kernel_rfl)) (by decide) (fun K hK=>?_)
 refine zb8 Try.func58 (by kernel_rfl) rfl #[.int .i64 (-3),.int .i64 2] (by rfl) rfl rfl (by (try simp only [List.map_toArray,List.map_cons,List.map_nil]); first | done | rfl) ?_
 refine(ref_frac_q (x:=-3) (y:=2) V11 (by decide) (by decide) (by decide) (by decide)).mono ?_
 rintro e V12 ⟨f41,rfl,hQ,hB⟩
 refine⟨_,rfl,?_⟩
 have HQ41:=Aside0.mk hQ
 clear hQ
 have hb12:=Aside0.mk (zbx hb11.out hB)
 clear hB hb11
 refine hK.out _ _ ((HF.out _ hb12.out).1) (fun hHeld=>?_)
 clear hK K
 refine zbR (a':=?_) ?_ ?_
 rotate_left
 ·
  show Act.put _ (some 74) _=_
  simp only [Act.put,zA1,zA2,zA3,zbI,zbJ]
  rfl
 refine zct (i:=43) (N:=some 76) #[zt,zt,zt,zt,zt,zt,zt,zt,zt,zt,zt,zt,zt,zt,zt,zt,zt,zt,zt,zt,zt,zt,zt,zt,zt,zt,zt,zt,zt,zt,zt,zt,zt,zt,zt,zt,zt,zt,zt,zt,zt,zt,zt,zt,zf,zf,zf,zf,zf,zf,zf,zf,zf,zf,zf,zf,zf,zf,zf,zf,zf,zf,zf,zf,zf,zf,zf,zf,zf,zf,zf,zf,zf,zf] rfl rfl (zbZ HT_.out (by kernel_rfl)) (by decide) (fun K hK=>?_)
 refine zb8 Try.func20 (by kernel_rfl) rfl #[f41,.agg #[.bool M.1,.slice AM1 (dg B32 M.2.1).length cM1,.slice AM2 (dg B32 M.2.2).length cM2]] (by rfl) rfl rfl (by (try simp only [List.map_toArray,List.map_cons,List.map_nil]); first | done | rfl) ?_
 refine(ref_is_same HQ41.out (HF.out _ hb12.out).2.2.2.2.1 KM.out.2 (by rw [EM.out]; decide)).mono ?_
 rintro e V13 ⟨rfl,hB⟩
 refine⟨_,rfl,?_⟩
 clear HQ41
 have hb13:=Aside0.mk (zbx hb12.out hB)
 clear hB hb12
 refine hK.out _ _ ((HF.out _ hb13.out).1) (fun hHeld=>?_)
 clear hK K
 refine zbR (a':=?_) ?_ ?_
 rotate_left
 ·
  show Act.put _ (some 76) _=_
  simp only [Act.put,zA1,zA2,zA3,zbI,zbJ]
  rfl
 refine zbS (i:=44) (N:=some 77) (v:=?_) (a':=?_) #[zt,zt,zt,zt,zt,zt,zt,zt,zt,zt,zt,zt,zt,zt,zt,zt,zt,zt,zt,zt,zt,zt,zt,zt,zt,zt,zt,zt,zt,zt,zt,zt,zt,zt,zt,zt,zt,zt,zt,zt,zt,zt,zt,zt,zt,zf,zf,zf,zf,zf,zf,zf,zf,zf,zf,zf,zf,zf,zf,zf,zf,zf,zf,zf,zf,zf,zf,zf,zf,zf,zf,zf,zf,zf] rfl rfl (zbP HT_.out (by kernel_rfl)) (fun _ _ _ h=>h) (Or.inl ⟨by rfl,?_⟩) ?_ ?_
 rotate_left
 ·
  intro w'
  go_simp
  with_reducible rfl
 rotate_left
 ·
  simp only [Act.put,zA1,zA2,zA3,zbI,zbJ]
  rfl
 refine zbS (i:=45) (N:=some 78) (v:=?_) (a':=?_) #[zt,zt,zt,zt,zt,zt,zt,zt,zt,zt,zt,zt,zt,zt,zt,zt,zt,zt,zt,zt,zt,zt,zt,zt,zt,zt,zt,zt,zt,zt,zt,zt,zt,zt,zt,zt,zt,zt,zt,zt,zt,zt,zt,zt,zt,zt,zf,zf,zf,zf,zf,zf,zf,zf,zf,zf,zf,zf,zf,zf,zf,zf,zf,zf,zf,zf,zf,zf,zf,zf,zf,zf,zf,zf] rfl rfl (zbP HT_.out (by kernel_rfl)) (fun _ _ _ h=>h) (Or.inl ⟨by rfl,?_⟩) ?_ ?_
 rotate_left
 ·
  intro w'
  go_simp
  with_reducible rfl
 rotate_left
 ·
  simp only [Act.put,zA1,zA2,zA3,zbI,zbJ]
  rfl
 refine zbS (i:=46) (N:=some 79) (v:=?_) (a':=?_) #[zt,zt,zt,zt,zt,zt,zt,zt,zt,zt,zt,zt,zt,zt,zt,zt,zt,zt,zt,zt,zt,zt,zt,zt,zt,zt,zt,zt,zt,zt,zt,zt,zt,zt,zt,zt,zt,zt,zt,zt,zt,zt,zt,zt,zt,zt,zt,zf,zf,zf,zf,zf,zf,zf,zf,zf,zf,zf,zf,zf,zf,zf,zf,zf,zf,zf,zf,zf,zf,zf,zf,zf,zf,zf] rfl rfl (zbP HT_.out (by kernel_rfl)) (fun _ _ _ h=>h) (Or.inl ⟨by rfl,?_⟩) ?_ ?_
 rotate_left
 ·
  intro w'
  go_simp
  with_reducible rfl
 rotate_left
 ·
  simp only [Act.put,zA1,zA2,zA3,zbI,zbJ]
  rfl
 refine zbS (i:=47) (N:=some 80) (v:=?_) (a':=?_) #[zt,zt,zt,zt,zt,zt,zt,zt,zt,zt,zt,zt,zt,zt,zt,zt,zt,zt,zt,zt,zt,zt,zt,zt,zt,zt,zt,zt,zt,zt,zt,zt,zt,zt,zt,zt,zt,zt,zt,zt,zt,zt,zt,zt,zt,zt,zt,zt,zf,zf,zf,zf,zf,zf,zf,zf,zf,zf,zf,zf,zf,zf,zf,zf,zf,zf,zf,zf,zf,zf,zf,zf,zf,zf] rfl rfl (zbP HT_.out (by kernel_rfl)) (fun _ _ _ h=>h) (Or.inl ⟨by rfl,?_⟩) ?_ ?_
 rotate_left
 ·
  intro w'
  go_simp
  with_reducible rfl
 rotate_left
 ·
  simp only [Act.put,zA1,zA2,zA3,zbI,zbJ]
  rfl
 refine zbS (i:=48) (N:=some 81) (v:=?_) (a':=?_) #[zt,zt,zt,zt,zt,zt,zt,zt,zt,zt,zt,zt,zt,zt,zt,zt,zt,zt,zt,zt,zt,zt,zt,zt,zt,zt,zt,zt,zt,zt,zt,zt,zt,zt,zt,zt,zt,zt,zt,zt,zt,zt,zt,zt,zt,zt,zt,zt,zt,zf,zf,zf,zf,zf,zf,zf,zf,zf,zf,zf,zf,zf,zf,zf,zf,zf,zf,zf,zf,zf,zf,zf,zf,zf] rfl rfl (zbP HT_.out (by kernel_rfl)) (fun _ _ _ h=>h) (Or.inl ⟨by rfl,?_⟩) ?_ ?_
 rotate_left
 ·
  intro w'
  go_simp
  with_reducible rfl
 rotate_left
 ·
  simp only [Act.put,zA1,zA2,zA3,zbI,zbJ]
  rfl
 refine zbS (i:=49) (N:=some 82) (v:=?_) (a':=?_) #[zt,zt,zt,zt,zt,zt,zt,zt,zt,zt,zt,zt,zt,zt,zt,zt,zt,zt,zt,zt,zt,zt,zt,zt,zt,zt,zt,zt,zt,zt,zt,zt,zt,zt,zt,zt,zt,zt,zt,zt,zt,zt,zt,zt,zt,zt,zt,zt,zt,zt,zf,zf,zf,zf,zf,zf,zf,zf,zf,zf,zf,zf,zf,zf,zf,zf,zf,zf,zf,zf,zf,zf,zf,zf] rfl rfl (zbP HT_.out (by kernel_rfl)) (fun _ _ _ h=>h) (Or.inl ⟨by rfl,?_⟩) ?_ ?_
 rotate_left
 ·
  intro w'
  go_simp
  with_reducible rfl
 rotate_left
 ·
  simp only [Act.put,zA1,zA2,zA3,zbI,zbJ]
  rfl
 refine take_ (i:=50) (N:=some 83) (v:=?_) (a':=?_) #[zt,zt,zt,zt,zt,zt,zt,zt,zt,zt,zt,zt,zt,zt,zt,zt,zt,zt,zt,zt,zt,zt,zt,zt,zt,zt,zt,zt,zt,zt,zt,zt,zt,zt,zt,zt,zt,zt,zt,zt,zt,zt,zt,zt,zt,zt,zt,zt,zt,zt,zt,zf,zf,zf,zf,zf,zf,zf,zf,zf,zf,zf,zf,zf,zf,zf,zf,zf,zf,zf,zf,zf,zf,zf] rfl rfl (zbY HT_.out HW_.out (by kernel_rfl)) (fun _ _ _ h=>h) (Or.inl ⟨by rfl,?_⟩) hHeld ?_ ?_
 rotate_left
 ·
  intro w' s0
  go_simp
  with_reducible rfl
 rotate_left
 ·
  simp only [Act.put,zA1,zA2,zA3,zbI,zbJ]
  rfl
 refine zct (i:=51) (N:=some 84) #[zt,zt,zt,zt,zt,zt,zt,zt,zt,zt,zt,zt,zt,zt,zt,zt,zt,zt,zt,zt,zt,zt,zt,zt,zt,zt,zt,zt,zt,zt,zt,zt,zt,zt,zt,zt,zt,zt,zt,zt,zt,zt,zt,zt,zt,zt,zt,zt,zt,zt,zt,zt,zf,zf,zf,zf,zf,zf,zf,zf,zf,zf,zf,zf,zf,zf,zf,zf,zf,zf,zf,zf,zf,zf] rfl rfl (zbZ HT_.out (by kernel_rfl)) (by decide) (fun K hK=>?_)
 refine zb8 Try.func46 (by kernel_rfl) rfl #[.agg #[.bool B.1,.slice AB1 (dg B32 B.2.1).length cB1,.slice AB2 (dg B32 B.2.2).length cB2]] (by rfl) rfl rfl (by (try simp only [List.map_toArray,List.map_cons,List.map_nil]); first | done | rfl) ?_
 refine(bits4 EB.out (HF.out _ hb13.out).2.2.2.2.2 KB.out.1 KB.out.2).mono ?_
 rintro e V14 ⟨rfl,hB⟩
 refine⟨_,rfl,?_⟩
 have hb14:=Aside0.mk (zbx hb13.out hB)
 clear hB hb13
 refine hK.out _ _ ((HF.out _ hb14.out).1) (fun hHeld=>?_)
 clear hK K
 refine zbR (a':=?_) ?_ ?_
 rotate_left
 ·
  show Act.put _ (some 84) _=_
  simp only [Act.put,zA1,zA2,zA3,zbI,zbJ]
  rfl
 refine zbS (i:=52) (N:=some 85) (v:=?_) (a':=?_) #[zt,zt,zt,zt,zt,zt,zt,zt,zt,zt,zt,zt,zt,zt,zt,zt,zt,zt,zt,zt,zt,zt,zt,zt,zt,zt,zt,zt,zt,zt,zt,zt,zt,zt,zt,zt,zt,zt,zt,zt,zt,zt,zt,zt,zt,zt,zt,zt,zt,zt,zt,zt,zt,zf,zf,zf,zf,zf,zf,zf,zf,zf,zf,zf,zf,zf,zf,zf,zf,zf,zf,zf,zf,zf] rfl rfl (zbP HT_.out (by kernel_rfl)) (fun _ _ _ h=>h) (Or.inl ⟨by rfl,?_⟩) ?_ ?_
 rotate_left
 ·
  intro w'
  go_simp
  with_reducible rfl
 rotate_left
 ·
  simp only [Act.put,zA1,zA2,zA3,zbI,zbJ]
  rfl
 refine zbS (i:=53) (N:=some 86) (v:=?_) (a':=?_) #[zt,zt,zt,zt,zt,zt,zt,zt,zt,zt,zt,zt,zt,zt,zt,zt,zt,zt,zt,zt,zt,zt,zt,zt,zt,zt,zt,zt,zt,zt,zt,zt,zt,zt,zt,zt,zt,zt,zt,zt,zt,zt,zt,zt,zt,zt,zt,zt,zt,zt,zt,zt,zt,zt,zf,zf,zf,zf,zf,zf,zf,zf,zf,zf,zf,zf,zf,zf,zf,zf,zf,zf,zf,zf] rfl rfl (zbP HT_.out (by kernel_rfl)) (fun _ _ _ h=>h) (Or.inl ⟨by rfl,?_⟩) ?_ ?_
 rotate_left
 ·
  intro w'
  go_simp
  with_reducible rfl
 rotate_left
 ·
  simp only [Act.put,zA1,zA2,zA3,zbI,zbJ]
  rfl
 refine zbS (i:=54) (N:=some 87) (v:=?_) (a':=?_) #[zt,zt,zt,zt,zt,zt,zt,zt,zt,zt,zt,zt,zt,zt,zt,zt,zt,zt,zt,zt,zt,zt,zt,zt,zt,zt,zt,zt,zt,zt,zt,zt,zt,zt,zt,zt,zt,zt,zt,zt,zt,zt,zt,zt,zt,zt,zt,zt,zt,zt,zt,zt,zt,zt,zt,zf,zf,zf,zf,zf,zf,zf,zf,zf,zf,zf,zf,zf,zf,zf,zf,zf,zf,zf] rfl rfl (zbP HT_.out (by kernel_rfl)) (fun _ _ _ h=>h) (Or.inl ⟨by rfl,?_⟩) ?_ ?_
 rotate_left
 ·
  intro w'
  go_simp
  with_reducible rfl
 rotate_left
 ·
  simp only [Act.put,zA1,zA2,zA3,zbI,zbJ]
  rfl
 refine join_ (σ:=Addr×Addr) 17 #[zt,zt,zt,zt,zt,zt,zt,zt,zt,zt,zt,zt,zt,zt,zt,zt,zt,zt,zt,zt,zt,zt,zt,zt,zt,zt,zt,zt,zt,zt,zt,zt,zt,zt,zt,zt,zt,zt,zt,zt,zt,zt,zt,zt,zt,zt,zt,zt,zt,zt,zt,zt,zt,zt,zt,zt,zt,zf,zf,zf,zf,zf,zf,zf,zf,zf,zf,zf,zf,zf,zf,zf,zf,zf] (fun s=>[(88,.slice (some s.1) 1 1),(89,.slice (some s.2) 1 1)]) (fun s w'=>(w'.cell? ⟨gH,0,none⟩=some (.bool H.1)∧w'.cell? ⟨gH,1,none⟩=some (.slice AH1 (dg B32 H.2.1).length cH1)∧w'.cell? ⟨gH,2,none⟩=some (.slice AH2 (dg B32 H.2.2).length cH2)∧w'.cell? ⟨gT,0,none⟩=some (.bool T.1)∧w'.cell? ⟨gT,1,none⟩=some (.slice AT1 (dg B32 T.2.1).length cT1)∧w'.cell? ⟨gT,2,none⟩=some (.slice AT2 (dg B32 T.2.2).length cT2)∧w'.cell? ⟨gQ,0,none⟩=some (.bool Q.1)∧w'.cell? ⟨gQ,1,none⟩=some (.slice AQ1 (dg B32 Q.2.1).length cQ1)∧w'.cell? ⟨gQ,2,none⟩=some (.slice AQ2 (dg B32 Q.2.2).length cQ2)∧w'.cell? ⟨gM,0,none⟩=some (.bool M.1)∧w'.cell? ⟨gM,1,none⟩=some (.slice AM1 (dg B32 M.2.1).length cM1)∧w'.cell? ⟨gM,2,none⟩=some (.slice AM2 (dg B32 M.2.2).length cM2)∧w'.cell? ⟨gB,0,none⟩=some (.bool B.1)∧w'.cell? ⟨gB,1,none⟩=some (.slice AB1 (dg B32 B.2.1).length cB1)∧w'.cell? ⟨gB,2,none⟩=some (.slice AB2 (dg B32 B.2.2).length cB2))∧Kd.C (Kd.int .u32) w' (some s.1) 1 [2]∧Kd.C (Kd.int .u32) w' (some s.2) 1 [4]∧Below W5.heap.size W5 w') ?_ ?_
 rotate_left
 ·
  intro hCont
  refine two_ (i:=55) (j:=56) (Ni:=some 88) (Nj:=some 89) #[zt,zt,zt,zt,zt,zt,zt,zt,zt,zt,zt,zt,zt,zt,zt,zt,zt,zt,zt,zt,zt,zt,zt,zt,zt,zt,zt,zt,zt,zt,zt,zt,zt,zt,zt,zt,zt,zt,zt,zt,zt,zt,zt,zt,zt,zt,zt,zt,zt,zt,zt,zt,zt,zt,zt,zt,zf,zf,zf,zf,zf,zf,zf,zf,zf,zf,zf,zf,zf,zf,zf,zf,zf,zf] #[zt,zt,zt,zt,zt,zt,zt,zt,zt,zt,zt,zt,zt,zt,zt,zt,zt,zt,zt,zt,zt,zt,zt,zt,zt,zt,zt,zt,zt,zt,zt,zt,zt,zt,zt,zt,zt,zt,zt,zt,zt,zt,zt,zt,zt,zt,zt,zt,zt,zt,zt,zt,zt,zt,zt,zf,zt,zf,zf,zf,zf,zf,zf,zf,zf,zf,zf,zf,zf,zf,zf,zf,zf,zf] rfl rfl rfl rfl (two_of HT_.out (by kernel_rfl)) (by decide) (by decide) (fun K hK=>?_) (fun K hK=>?_)
  ·
   skip
   refine value_ (w1:=?_) (v:=?_) (by rfl) rfl ?_ ?_
   rotate_left 2
   ·
    go_simp
    constructor
    ·
     rfl
    ·
     rfl
   have hA55:Below (V14).heap.size V14 (V14.alloc (.cells #[.int .u32 2] 63 (0,0))):=zbt (Below.refl _ _) _
   have hC55:=lit_C V14 2 63
   have hbf1:=zbx hb14.out hA55
   refine hK.out _ _ ((HF.out _ hbf1).1) (fun hHeld=>?_)
   clear hK K
   refine zbR (a':=?_) ?_ ?_
   rotate_left
   ·
    show Act.put _ (some 88) _=_
    simp only [Act.put,zA1,zA2,zA3,zbI,zbJ]
    rfl
   refine zct (i:=56) (N:=some 89) #[zt,zt,zt,zt,zt,zt,zt,zt,zt,zt,zt,zt,zt,zt,zt,zt,zt,zt,zt,zt,zt,zt,zt,zt,zt,zt,zt,zt,zt,zt,zt,zt,zt,zt,zt,zt,zt,zt,zt,zt,zt,zt,zt,zt,zt,zt,zt,zt,zt,zt,zt,zt,zt,zt,zt,zt,zt,zf,zf,zf,zf,zf,zf,zf,zf,zf,zf,zf,zf,zf,zf,zf,zf,zf] rfl rfl (zbZ HT_.out (by kernel_rfl)) (by decide) (fun K hK=>?_)
   refine value_ (w1:=?_) (v:=?_) (by rfl) rfl ?_ ?_
   rotate_left 2
   ·
    go_simp
    constructor
    ·
     rfl
    ·
     rfl
   have hA56:Below ((V14.alloc (.cells #[.int .u32 2] 63 (0,0)))).heap.size (V14.alloc (.cells #[.int .u32 2] 63 (0,0))) ((V14.alloc (.cells #[.int .u32 2] 63 (0,0))).alloc (.cells #[.int .u32 4] 63 (0,0))):=zbt (Below.refl _ _) _
   have hC56:=lit_C (V14.alloc (.cells #[.int .u32 2] 63 (0,0))) 4 63
   have hC55b:=Kd.C_below hC55 hA56
   have hS56:((V14.alloc (.cells #[.int .u32 2] 63 (0,0)))).heap.size=V14.heap.size+1:=by simp
   rw [hS56] at hC56
   have hbf:=zbx (zbx hb14.out hA55) hA56
   refine hK.out _ _ ((HF.out _ hbf).1) (fun hHeld=>?_)
   clear hK K
   refine zbR (a':=?_) ?_ ?_
   rotate_left
   ·
    show Act.put _ (some 89) _=_
    simp only [Act.put,zA1,zA2,zA3,zbI,zbJ]
    rfl
   exact zbR (by simp only [zb2,Act.put,zA1,zA2,zA3]) (hCont (⟨V14.heap.size,0,none⟩,⟨V14.heap.size+1,0,none⟩) _ ⟨(HF.out _ hbf).1,hC55b,hC56,hbf⟩)
  ·
   skip
   refine value_ (w1:=?_) (v:=?_) (by rfl) rfl ?_ ?_
   rotate_left 2
   ·
    go_simp
    constructor
    ·
     rfl
    ·
     rfl
   have hA56:Below (V14).heap.size V14 (V14.alloc (.cells #[.int .u32 4] 63 (0,0))):=zbt (Below.refl _ _) _
   have hC56:=lit_C V14 4 63
   have hbf1:=zbx hb14.out hA56
   refine hK.out _ _ ((HF.out _ hbf1).1) (fun hHeld=>?_)
   clear hK K
   refine zbR (a':=?_) ?_ ?_
   rotate_left
   ·
    show Act.put _ (some 89) _=_
    simp only [Act.put,zA1,zA2,zA3,zbI,zbJ]
    rfl
   refine zct (i:=55) (N:=some 88) #[zt,zt,zt,zt,zt,zt,zt,zt,zt,zt,zt,zt,zt,zt,zt,zt,zt,zt,zt,zt,zt,zt,zt,zt,zt,zt,zt,zt,zt,zt,zt,zt,zt,zt,zt,zt,zt,zt,zt,zt,zt,zt,zt,zt,zt,zt,zt,zt,zt,zt,zt,zt,zt,zt,zt,zt,zt,zf,zf,zf,zf,zf,zf,zf,zf,zf,zf,zf,zf,zf,zf,zf,zf,zf] rfl rfl (zbZ HT_.out (by kernel_rfl)) (by decide) (fun K hK=>?_)
   refine value_ (w1:=?_) (v:=?_) (by rfl) rfl ?_ ?_
   rotate_left 2
   ·
    go_simp
    constructor
    ·
     rfl
    ·
     rfl
   have hA55:Below ((V14.alloc (.cells #[.int .u32 4] 63 (0,0)))).heap.size (V14.alloc (.cells #[.int .u32 4] 63 (0,0))) ((V14.alloc (.cells #[.int .u32 4] 63 (0,0))).alloc (.cells #[.int .u32 2] 63 (0,0))):=zbt (Below.refl _ _) _
   have hC55:=lit_C (V14.alloc (.cells #[.int .u32 4] 63 (0,0))) 2 63
   have hC56b:=Kd.C_below hC56 hA55
   have hS55:((V14.alloc (.cells #[.int .u32 4] 63 (0,0)))).heap.size=V14.heap.size+1:=by simp
   rw [hS55] at hC55
   have hbf:=zbx (zbx hb14.out hA56) hA55
   refine hK.out _ _ ((HF.out _ hbf).1) (fun hHeld=>?_)
   clear hK K
   refine zbR (a':=?_) ?_ ?_
   rotate_left
   ·
    show Act.put _ (some 88) _=_
    simp only [Act.put,zA1,zA2,zA3,zbI,zbJ]
    rfl
   exact zbR (by simp only [zb2,Act.put,zA1,zA2,zA3]) (hCont (⟨V14.heap.size+1,0,none⟩,⟨V14.heap.size,0,none⟩) _ ⟨(HF.out _ hbf).1,hC55,hC56b,hbf⟩)
 rintro⟨s1,s2⟩ V15 ⟨hHeld,hC1,hC2,hb⟩
 have hb15:=Aside0.mk hb
 have HC1:=Aside0.mk hC1
 have HC2:=Aside0.mk hC2
 clear hb hC1 hC2 hb14
 refine zbR (a':=?_) ?_ ?_
 rotate_left
 ·
  simp only [zb2,Act.put,zA1,zA2,zA3]
  rfl
 refine zbS (i:=57) (N:=some 90) (v:=?_) (a':=?_) #[zt,zt,zt,zt,zt,zt,zt,zt,zt,zt,zt,zt,zt,zt,zt,zt,zt,zt,zt,zt,zt,zt,zt,zt,zt,zt,zt,zt,zt,zt,zt,zt,zt,zt,zt,zt,zt,zt,zt,zt,zt,zt,zt,zt,zt,zt,zt,zt,zt,zt,zt,zt,zt,zt,zt,zt,zt,zt,zf,zf,zf,zf,zf,zf,zf,zf,zf,zf,zf,zf,zf,zf,zf,zf] rfl rfl (zbP HT_.out (by kernel_rfl)) (fun _ _ _ h=>h) (Or.inl ⟨by rfl,?_⟩) ?_ ?_
 rotate_left
 ·
  intro w'
  go_simp
  with_reducible rfl
 rotate_left
 ·
  simp only [Act.put,zA1,zA2,zA3,zbI,zbJ]
  rfl
 refine zct (i:=58) (N:=some 91) #[zt,zt,zt,zt,zt,zt,zt,zt,zt,zt,zt,zt,zt,zt,zt,zt,zt,zt,zt,zt,zt,zt,zt,zt,zt,zt,zt,zt,zt,zt,zt,zt,zt,zt,zt,zt,zt,zt,zt,zt,zt,zt,zt,zt,zt,zt,zt,zt,zt,zt,zt,zt,zt,zt,zt,zt,zt,zt,zt,zf,zf,zf,zf,zf,zf,zf,zf,zf,zf,zf,zf,zf,zf,zf] rfl rfl (zbZ HT_.out (by kernel_rfl)) (by decide) (fun K hK=>?_)
 refine zb8 Try.func18 (by kernel_rfl) rfl #[.agg #[.bool false,.slice (some s1) 1 1,.slice (some s2) 1 1]] (by rfl) rfl rfl (by (try simp only [List.map_toArray,List.map_cons,List.map_nil]); first | done | rfl) ?_
 refine(may24 HC1.out HC2.out).mono ?_
 rintro e V16 ⟨rfl,hB⟩
 refine⟨_,rfl,?_⟩
 clear HC1 HC2
 have hb16:=Aside0.mk (zbx hb15.out hB)
 clear hB hb15
 refine hK.out _ _ ((HF.out _ hb16.out).1) (fun hHeld=>?_)
 clear hK K
 refine zbR (a':=?_) ?_ ?_
 rotate_left
 ·
  show Act.put _ (some 91) _=_
  simp only [Act.put,zA1,zA2,zA3,zbI,zbJ]
  rfl
 refine zbS (i:=59) (N:=some 92) (v:=?_) (a':=?_) #[zt,zt,zt,zt,zt,zt,zt,zt,zt,zt,zt,zt,zt,zt,zt,zt,zt,zt,zt,zt,zt,zt,zt,zt,zt,zt,zt,zt,zt,zt,zt,zt,zt,zt,zt,zt,zt,zt,zt,zt,zt,zt,zt,zt,zt,zt,zt,zt,zt,zt,zt,zt,zt,zt,zt,zt,zt,zt,zt,zt,zf,zf,zf,zf,zf,zf,zf,zf,zf,zf,zf,zf,zf,zf] rfl rfl (zbP HT_.out (by kernel_rfl)) (fun _ _ _ h=>h) (Or.inl ⟨by rfl,?_⟩) ?_ ?_
 rotate_left
 ·
  intro w'
  go_simp
  with_reducible rfl
 rotate_left
 ·
  simp only [Act.put,zA1,zA2,zA3,zbI,zbJ]
  rfl
 refine zbS (i:=60) (N:=some 93) (v:=?_) (a':=?_) #[zt,zt,zt,zt,zt,zt,zt,zt,zt,zt,zt,zt,zt,zt,zt,zt,zt,zt,zt,zt,zt,zt,zt,zt,zt,zt,zt,zt,zt,zt,zt,zt,zt,zt,zt,zt,zt,zt,zt,zt,zt,zt,zt,zt,zt,zt,zt,zt,zt,zt,zt,zt,zt,zt,zt,zt,zt,zt,zt,zt,zt,zf,zf,zf,zf,zf,zf,zf,zf,zf,zf,zf,zf,zf] rfl rfl (zbP HT_.out (by kernel_rfl)) (fun _ _ _ h=>h) (Or.inl ⟨by rfl,?_⟩) ?_ ?_
 rotate_left
 ·
  intro w'
  go_simp
  with_reducible rfl
 rotate_left
 ·
  simp only [Act.put,zA1,zA2,zA3,zbI,zbJ]
  rfl
 refine zbS (i:=61) (N:=some 94) (v:=?_) (a':=?_) #[zt,zt,zt,zt,zt,zt,zt,zt,zt,zt,zt,zt,zt,zt,zt,zt,zt,zt,zt,zt,zt,zt,zt,zt,zt,zt,zt,zt,zt,zt,zt,zt,zt,zt,zt,zt,zt,zt,zt,zt,zt,zt,zt,zt,zt,zt,zt,zt,zt,zt,zt,zt,zt,zt,zt,zt,zt,zt,zt,zt,zt,zt,zf,zf,zf,zf,zf,zf,zf,zf,zf,zf,zf,zf] rfl rfl (zbP HT_.out (by kernel_rfl)) (fun _ _ _ h=>h) (Or.inl ⟨by rfl,?_⟩) ?_ ?_
 rotate_left
 ·
  intro w'
  go_simp
  with_reducible rfl
 rotate_left
 ·
  simp only [Act.put,zA1,zA2,zA3,zbI,zbJ]
  rfl
 refine zct (i:=62) (N:=some 95) #[zt,zt,zt,zt,zt,zt,zt,zt,zt,zt,zt,zt,zt,zt,zt,zt,zt,zt,zt,zt,zt,zt,zt,zt,zt,zt,zt,zt,zt,zt,zt,zt,zt,zt,zt,zt,zt,zt,zt,zt,zt,zt,zt,zt,zt,zt,zt,zt,zt,zt,zt,zt,zt,zt,zt,zt,zt,zt,zt,zt,zt,zt,zt,zf,zf,zf,zf,zf,zf,zf,zf,zf,zf,zf] rfl rfl (zbZ HT_.out (by kernel_rfl)) (by decide) (fun K hK=>?_)
 refine value_ (w1:=?_) (v:=?_) (by rfl) rfl ?_ ?_
 rotate_left 2
 ·
  go_simp
  constructor
  ·
   rfl
  ·
   rfl
 have hA:Below V16.heap.size V16 (V16.alloc (.cells #[.int .u32 5] 63 (0,0))):=zbt (Below.refl _ _) _
 have HC:=Aside0.mk (lit_C V16 5 63)
 have hb17:=Aside0.mk (zbx hb16.out hA)
 clear hA hb16
 obtain⟨a62,ha62⟩:∃ a:Addr,a=⟨V16.heap.size,0,none⟩:=⟨_,rfl⟩
 rw [← ha62] at HC ⊢
 generalize V16.alloc (.cells #[.int .u32 5] 63 (0,0))=V17 at HC hb17 ⊢
 clear ha62
 refine hK.out _ _ ((HF.out _ hb17.out).1) (fun hHeld=>?_)
 clear hK K
 refine zbR (a':=?_) ?_ ?_
 rotate_left
 ·
  show Act.put _ (some 95) _=_
  simp only [Act.put,zA1,zA2,zA3,zbI,zbJ]
  rfl
 refine zbS (i:=63) (N:=some 96) (v:=?_) (a':=?_) #[zt,zt,zt,zt,zt,zt,zt,zt,zt,zt,zt,zt,zt,zt,zt,zt,zt,zt,zt,zt,zt,zt,zt,zt,zt,zt,zt,zt,zt,zt,zt,zt,zt,zt,zt,zt,zt,zt,zt,zt,zt,zt,zt,zt,zt,zt,zt,zt,zt,zt,zt,zt,zt,zt,zt,zt,zt,zt,zt,zt,zt,zt,zt,zt,zf,zf,zf,zf,zf,zf,zf,zf,zf,zf] rfl rfl (zbP HT_.out (by kernel_rfl)) (fun _ _ _ h=>h) (Or.inl ⟨by rfl,?_⟩) ?_ ?_
 rotate_left
 ·
  intro w'
  go_simp
  with_reducible rfl
 rotate_left
 ·
  simp only [Act.put,zA1,zA2,zA3,zbI,zbJ]
  rfl
 refine zct (i:=64) (N:=some 97) #[zt,zt,zt,zt,zt,zt,zt,zt,zt,zt,zt,zt,zt,zt,zt,zt,zt,zt,zt,zt,zt,zt,zt,zt,zt,zt,zt,zt,zt,zt,zt,zt,zt,zt,zt,zt,zt,zt,zt,zt,zt,zt,zt,zt,zt,zt,zt,zt,zt,zt,zt,zt,zt,zt,zt,zt,zt,zt,zt,zt,zt,zt,zt,zt,zt,zf,zf,zf,zf,zf,zf,zf,zf,zf] rfl rfl (zbZ HT_.out (by kernel_rfl)) (by decide) (fun K hK=>?_)
 refine zb8 Try.func18 (by kernel_rfl) rfl #[.agg #[.bool false,.slice none 0 0,.slice (some a62) 1 1]] (by rfl) rfl rfl (by (try simp only [List.map_toArray,List.map_cons,List.map_nil]); first | done | rfl) ?_
 refine(may_5 HC.out).mono ?_
 rintro e V18 ⟨rfl,hB⟩
 refine⟨_,rfl,?_⟩
 clear HC
 have hb18:=Aside0.mk (zbx hb17.out hB)
 clear hB hb17
 refine hK.out _ _ ((HF.out _ hb18.out).1) (fun hHeld=>?_)
 clear hK K
 refine zbR (a':=?_) ?_ ?_
 rotate_left
 ·
  show Act.put _ (some 97) _=_
  simp only [Act.put,zA1,zA2,zA3,zbI,zbJ]
  rfl
 refine zbS (i:=65) (N:=some 98) (v:=?_) (a':=?_) #[zt,zt,zt,zt,zt,zt,zt,zt,zt,zt,zt,zt,zt,zt,zt,zt,zt,zt,zt,zt,zt,zt,zt,zt,zt,zt,zt,zt,zt,zt,zt,zt,zt,zt,zt,zt,zt,zt,zt,zt,zt,zt,zt,zt,zt,zt,zt,zt,zt,zt,zt,zt,zt,zt,zt,zt,zt,zt,zt,zt,zt,zt,zt,zt,zt,zt,zf,zf,zf,zf,zf,zf,zf,zf] rfl rfl (zbP HT_.out (by kernel_rfl)) (fun _ _ _ h=>h) (Or.inl ⟨by rfl,?_⟩) ?_ ?_
 rotate_left
 ·
  intro w'
  go_simp
  with_reducible rfl
 rotate_left
 ·
  simp only [Act.put,zA1,zA2,zA3,zbI,zbJ]
  rfl
 refine zbS (i:=66) (N:=some 99) (v:=?_) (a':=?_) #[zt,zt,zt,zt,zt,zt,zt,zt,zt,zt,zt,zt,zt,zt,zt,zt,zt,zt,zt,zt,zt,zt,zt,zt,zt,zt,zt,zt,zt,zt,zt,zt,zt,zt,zt,zt,zt,zt,zt,zt,zt,zt,zt,zt,zt,zt,zt,zt,zt,zt,zt,zt,zt,zt,zt,zt,zt,zt,zt,zt,zt,zt,zt,zt,zt,zt,zt,zf,zf,zf,zf,zf,zf,zf] rfl rfl (zbP HT_.out (by kernel_rfl)) (fun _ _ _ h=>h) (Or.inl ⟨by rfl,?_⟩) ?_ ?_
 rotate_left
 ·
  intro w'
  go_simp
  with_reducible rfl
 rotate_left
 ·
  simp only [Act.put,zA1,zA2,zA3,zbI,zbJ]
  rfl
 refine zbS (i:=67) (N:=some 100) (v:=?_) (a':=?_) #[zt,zt,zt,zt,zt,zt,zt,zt,zt,zt,zt,zt,zt,zt,zt,zt,zt,zt,zt,zt,zt,zt,zt,zt,zt,zt,zt,zt,zt,zt,zt,zt,zt,zt,zt,zt,zt,zt,zt,zt,zt,zt,zt,zt,zt,zt,zt,zt,zt,zt,zt,zt,zt,zt,zt,zt,zt,zt,zt,zt,zt,zt,zt,zt,zt,zt,zt,zt,zf,zf,zf,zf,zf,zf] rfl rfl (zbP HT_.out (by kernel_rfl)) (fun _ _ _ h=>h) (Or.inl ⟨by rfl,?_⟩) ?_ ?_
 rotate_left
 ·
  intro w'
  go_simp
  with_reducible rfl
 rotate_left
 ·
  simp only [Act.put,zA1,zA2,zA3,zbI,zbJ]
  rfl
 refine zct (i:=68) (N:=some 101) #[zt,zt,zt,zt,zt,zt,zt,zt,zt,zt,zt,zt,zt,zt,zt,zt,zt,zt,zt,zt,zt,zt,zt,zt,zt,zt,zt,zt,zt,zt,zt,zt,zt,zt,zt,zt,zt,zt,zt,zt,zt,zt,zt,zt,zt,zt,zt,zt,zt,zt,zt,zt,zt,zt,zt,zt,zt,zt,zt,zt,zt,zt,zt,zt,zt,zt,zt,zt,zt,zf,zf,zf,zf,zf] rfl rfl (zbZ HT_.out (by kernel_rfl)) (by decide) (fun K hK=>?_)
 refine value_ (w1:=?_) (v:=?_) (by rfl) rfl ?_ ?_
 rotate_left 2
 ·
  go_simp
  constructor
  ·
   rfl
  ·
   rfl
 have hA:Below V18.heap.size V18 (V18.alloc (.cells #[.int .u32 3] 63 (0,0))):=zbt (Below.refl _ _) _
 have HC:=Aside0.mk (lit_C V18 3 63)
 have hb19:=Aside0.mk (zbx hb18.out hA)
 clear hA hb18
 obtain⟨a68,ha68⟩:∃ a:Addr,a=⟨V18.heap.size,0,none⟩:=⟨_,rfl⟩
 rw [← ha68] at HC ⊢
 generalize V18.alloc (.cells #[.int .u32 3] 63 (0,0))=V19 at HC hb19 ⊢
 clear ha68
 refine hK.out _ _ ((HF.out _ hb19.out).1) (fun hHeld=>?_)
 clear hK K
 refine zbR (a':=?_) ?_ ?_
 rotate_left
 ·
  show Act.put _ (some 101) _=_
  simp only [Act.put,zA1,zA2,zA3,zbI,zbJ]
  rfl
 refine zbS (i:=69) (N:=some 102) (v:=?_) (a':=?_) #[zt,zt,zt,zt,zt,zt,zt,zt,zt,zt,zt,zt,zt,zt,zt,zt,zt,zt,zt,zt,zt,zt,zt,zt,zt,zt,zt,zt,zt,zt,zt,zt,zt,zt,zt,zt,zt,zt,zt,zt,zt,zt,zt,zt,zt,zt,zt,zt,zt,zt,zt,zt,zt,zt,zt,zt,zt,zt,zt,zt,zt,zt,zt,zt,zt,zt,zt,zt,zt,zt,zf,zf,zf,zf] rfl rfl (zbP HT_.out (by kernel_rfl)) (fun _ _ _ h=>h) (Or.inl ⟨by rfl,?_⟩) ?_ ?_
 rotate_left
 ·
  intro w'
  go_simp
  with_reducible rfl
 rotate_left
 ·
  simp only [Act.put,zA1,zA2,zA3,zbI,zbJ]
  rfl
 refine zct (i:=70) (N:=some 103) #[zt,zt,zt,zt,zt,zt,zt,zt,zt,zt,zt,zt,zt,zt,zt,zt,zt,zt,zt,zt,zt,zt,zt,zt,zt,zt,zt,zt,zt,zt,zt,zt,zt,zt,zt,zt,zt,zt,zt,zt,zt,zt,zt,zt,zt,zt,zt,zt,zt,zt,zt,zt,zt,zt,zt,zt,zt,zt,zt,zt,zt,zt,zt,zt,zt,zt,zt,zt,zt,zt,zt,zf,zf,zf] rfl rfl (zbZ HT_.out (by kernel_rfl)) (by decide) (fun K hK=>?_)
 refine zb8 Try.func18 (by kernel_rfl) rfl #[.agg #[.bool false,.slice (some a68) 1 1,.slice none 0 0]] (by rfl) rfl rfl (by (try simp only [List.map_toArray,List.map_cons,List.map_nil]); first | done | rfl) ?_
 refine(may3_ HC.out).mono ?_
 rintro e V20 ⟨rfl,hB⟩
 refine⟨_,rfl,?_⟩
 clear HC
 have hb20:=Aside0.mk (zbx hb19.out hB)
 clear hB hb19
 refine hK.out _ _ ((HF.out _ hb20.out).1) (fun hHeld=>?_)
 clear hK K
 refine zbR (a':=?_) ?_ ?_
 rotate_left
 ·
  show Act.put _ (some 103) _=_
  simp only [Act.put,zA1,zA2,zA3,zbI,zbJ]
  rfl
 refine zbS (i:=71) (N:=some 104) (v:=?_) (a':=?_) #[zt,zt,zt,zt,zt,zt,zt,zt,zt,zt,zt,zt,zt,zt,zt,zt,zt,zt,zt,zt,zt,zt,zt,zt,zt,zt,zt,zt,zt,zt,zt,zt,zt,zt,zt,zt,zt,zt,zt,zt,zt,zt,zt,zt,zt,zt,zt,zt,zt,zt,zt,zt,zt,zt,zt,zt,zt,zt,zt,zt,zt,zt,zt,zt,zt,zt,zt,zt,zt,zt,zt,zt,zf,zf] rfl rfl (zbP HT_.out (by kernel_rfl)) (fun _ _ _ h=>h) (Or.inl ⟨by rfl,?_⟩) ?_ ?_
 rotate_left
 ·
  intro w'
  go_simp
  with_reducible rfl
 rotate_left
 ·
  simp only [Act.put,zA1,zA2,zA3,zbI,zbJ]
  rfl
 refine zbS (i:=72) (N:=some 105) (v:=?_) (a':=?_) #[zt,zt,zt,zt,zt,zt,zt,zt,zt,zt,zt,zt,zt,zt,zt,zt,zt,zt,zt,zt,zt,zt,zt,zt,zt,zt,zt,zt,zt,zt,zt,zt,zt,zt,zt,zt,zt,zt,zt,zt,zt,zt,zt,zt,zt,zt,zt,zt,zt,zt,zt,zt,zt,zt,zt,zt,zt,zt,zt,zt,zt,zt,zt,zt,zt,zt,zt,zt,zt,zt,zt,zt,zt,zf] rfl rfl (zbP HT_.out (by kernel_rfl)) (fun _ _ _ h=>h) (Or.inl ⟨by rfl,?_⟩) ?_ ?_
 rotate_left
 ·
  intro w'
  go_simp
  with_reducible rfl
 rotate_left
 ·
  simp only [Act.put,zA1,zA2,zA3,zbI,zbJ]
  rfl
 refine zbS (i:=73) (N:=some 0) (v:=?_) (a':=?_) #[zt,zt,zt,zt,zt,zt,zt,zt,zt,zt,zt,zt,zt,zt,zt,zt,zt,zt,zt,zt,zt,zt,zt,zt,zt,zt,zt,zt,zt,zt,zt,zt,zt,zt,zt,zt,zt,zt,zt,zt,zt,zt,zt,zt,zt,zt,zt,zt,zt,zt,zt,zt,zt,zt,zt,zt,zt,zt,zt,zt,zt,zt,zt,zt,zt,zt,zt,zt,zt,zt,zt,zt,zt,zt] rfl rfl (zbP HT_.out (by kernel_rfl)) (fun _ _ _ h=>h) (Or.inl ⟨by rfl,?_⟩) ?_ ?_
 rotate_left
 ·
  intro w'
  go_simp
  with_reducible rfl
 rotate_left
 ·
  simp only [Act.put,zA1,zA2,zA3,zbI,zbJ]
  rfl
 refine done_ (done_of HT_.out (by kernel_rfl)) ?_
 clear hHeld
 go_wp2
 go_ret
 exact⟨rfl,zbx HB5.out hb20.out⟩
end Go.Proofs.Ytehghijlchpeaaa.Nat1
end
section
namespace Go.Proofs.Ytehghijlchpeaaa.Nat1
open Go.RowKit Go.Proofs.YtehghijlchpeaaaW.PrintWords Go.Proofs.YtehghijlchpeaaaW.PrintLast Go.Proofs.YtehghijlchpeaaaW.PrintMore Go.Proofs.Ytehghijlchpeaaa.L Go.Proofs.Ytehghijlchpeaaa.Nt Go.Proofs.Ytehghijlchpeaaa.Ev
set_option linter.unusedVariables false
set_option linter.unusedSimpArgs false
set_option linter.unusedSectionVars false
set_option maxHeartbeats 1000000 in
set_option maxRecDepth 100000 in
theorem own_q (A0:Option Addr) (c0:Nat) (l0:List Int) (w:World) (hr0:Kd.C (Kd.int .u32) w A0 l0.length l0) (hc0:l0.length≤c0) (hl:l0.length≤1099511627776) :
  Calls Try.prog 23 #[.slice A0 l0.length c0] w fun e w'=>∃ v0_:Value,e=.returned (v0_)∧Kd.R (Kd.int .u32) 63 w' w.heap.size (fun _=>True) v0_ l0∧Below w.heap.size w w':=by
 have HR:=Aside0.mk hr0
 clear hr0
 go_enter Try.func23,Try.ntmps23
 go_wp2_with ((with_reducible refine zb7 (b:=.append) rfl ?_); go_must (refine Kd.R_append_row (Value.int .u32) (0:Int) w.heap.size rfl _ _ 23 63 (.int .u32 0) 4 rfl Try.underlying23 infoU32 rfl (by omega) (.slice none 0 0) [] l0 A0 l0.length c0 (fun _=>True) rfl rfl (fun _ _=>trivial) (Kd.R_nil _ _ _ _ _) HR.out (Below.refl _ _) (Nat.le_refl _) (by simp only [List.length_nil]; omega) ?_); intro v1 w1 hR hB hx1 hx2; clear hx1 hx2; obtain⟨A,c,rfl⟩:=Kd.R_slice hR; have HR1:=Aside0.mk hR; have HB1:=Aside0.mk hB; clear hR hB)
 go_ret
 exact⟨_,rfl,HR1.out,HB1.out⟩
set_option maxHeartbeats 2000000 in
set_option maxRecDepth 100000 in
theorem ownR_q (n:Bool) (A1:Option Addr) (c1:Nat) (p:List Int) (A2:Option Addr) (c2:Nat) (q:List Int) (w:World) (hr1:Kd.C (Kd.int .u32) w A1 p.length p) (hc1:p.length≤c1) (hr2:Kd.C (Kd.int .u32) w A2 q.length q) (hc2:q.length≤c2) (hp:p.length≤1099511627776) (hq:q.length≤1099511627776) :
  Calls Try.prog 17 #[.agg #[.bool n,.slice A1 p.length c1,.slice A2 q.length c2]] w fun e w'=>∃ v1 v2,e=.returned (.agg #[.bool n,v1,v2])∧Kd.R (Kd.int .u32) 63 w' w.heap.size (fun k_=>some k_≠v2.ownBlock) v1 p∧Kd.R (Kd.int .u32) 63 w' w.heap.size (fun k_=>some k_≠v1.ownBlock) v2 q∧Below w.heap.size w w':=by
 have hu25:=Try.underlying25
 have H1:=Aside0.mk (fun (W:World) (hb:Below w.heap.size w W)=>own_q A1 c1 p W (Kd.C_below hr1 hb) hc1 hp)
 have H2:=Aside0.mk (fun (W:World) (hb:Below w.heap.size w W)=>own_q A2 c2 q W (Kd.C_below hr2 hb) hc2 hq)
 clear hr1 hr2 hp hq
 go_enter Try.func17,Try.ntmps17
 go_wp2_with fail
 have hb1:=zby (zb3 w (.cells #[.bool n,.slice A1 p.length c1,.slice A2 q.length c2] 25)) (.cells #[.bool false,.slice none 0 0,.slice none 0 0] 25)
 have hb2:=zb3 (w.alloc (.cells #[.bool n,.slice A1 p.length c1,.slice A2 q.length c2] 25)) (.cells #[.bool false,.slice none 0 0,.slice none 0 0] 25)
 have hs:(w.alloc (.cells #[.bool n,.slice A1 p.length c1,.slice A2 q.length c2] 25)).heap.size=w.heap.size+1:=by simp
 rw [hs] at hb2
 have hbw:Below w.heap.size w ((w.alloc (.cells #[.bool n,.slice A1 p.length c1,.slice A2 q.length c2] 25)).alloc (.cells #[.bool false,.slice none 0 0,.slice none 0 0] 25)):=zbt (zbt (Below.refl _ _) _) _
 have HX0:=Aside0.mk (And.intro (zbA hb1) (And.intro (zbA hb2) (zbu hbw)))
 clear hb1 hb2 hbw hs
 generalize (w.alloc (.cells #[.bool n,.slice A1 p.length c1,.slice A2 q.length c2] 25)).alloc (.cells #[.bool false,.slice none 0 0,.slice none 0 0] 25)=W0 at HX0 ⊢
 refine zcM (n:=10) (S:=fun w'=>(w'.cell? ⟨w.heap.size,0,none⟩=some (.bool n)∧w'.cell? ⟨w.heap.size,1,none⟩=some (.slice A1 p.length c1)∧w'.cell? ⟨w.heap.size,2,none⟩=some (.slice A2 q.length c2))) (ds:=[9]) #[zf,zf,zf,zf,zf,zf,zf,zf,zf,zf] (by kernel_rfl) rfl rfl (⟨(zbv HX0.out.1 0).trans rfl,(zbv HX0.out.1 1).trans rfl,(zbv HX0.out.1 2).trans rfl⟩) (fun hHeld=>?_)
 generalize W0.drew=V0 at HX0 hHeld ⊢
 refine zbS (i:=0) (N:=some 3) (v:=?_) (a':=?_) #[zt,zf,zf,zf,zf,zf,zf,zf,zf,zf] rfl rfl (by kernel_rfl) (fun _ _ _ h=>h) (Or.inl ⟨by rfl,?_⟩) ?_ ?_
 rotate_left
 ·
  intro w'
  go_simp
  with_reducible rfl
 rotate_left
 ·
  simp only [Act.put,zA1,zA2,zA3,zbI,zbJ]
  rfl
 refine zbS (i:=2) (N:=some 5) (v:=?_) (a':=?_) #[zt,zf,zt,zf,zf,zf,zf,zf,zf,zf] rfl rfl (by kernel_rfl) (fun _ _ _ h=>h) (Or.inl ⟨by rfl,?_⟩) ?_ ?_
 rotate_left
 ·
  intro w'
  go_simp
  with_reducible rfl
 rotate_left
 ·
  simp only [Act.put,zA1,zA2,zA3,zbI,zbJ]
  rfl
 refine zbS (i:=5) (N:=some 8) (v:=?_) (a':=?_) #[zt,zf,zt,zf,zf,zt,zf,zf,zf,zf] rfl rfl (by kernel_rfl) (fun _ _ _ h=>h) (Or.inl ⟨by rfl,?_⟩) ?_ ?_
 rotate_left
 ·
  intro w'
  go_simp
  with_reducible rfl
 rotate_left
 ·
  simp only [Act.put,zA1,zA2,zA3,zbI,zbJ]
  rfl
 refine take_ (i:=1) (N:=some 4) (v:=?_) (a':=?_) #[zt,zt,zt,zf,zf,zt,zf,zf,zf,zf] rfl rfl (by kernel_rfl) (fun _ _ _ h=>h) (Or.inl ⟨by rfl,?_⟩) hHeld ?_ ?_
 rotate_left
 ·
  intro w' s0
  go_simp
  with_reducible rfl
 rotate_left
 ·
  simp only [Act.put,zA1,zA2,zA3,zbI,zbJ]
  rfl
 refine take_ (i:=3) (N:=some 6) (v:=?_) (a':=?_) #[zt,zt,zt,zt,zf,zt,zf,zf,zf,zf] rfl rfl (by kernel_rfl) (fun _ _ _ h=>h) (Or.inl ⟨by rfl,?_⟩) hHeld ?_ ?_
 rotate_left
 ·
  intro w' s0
  go_simp
  with_reducible rfl
 rotate_left
 ·
  simp only [Act.put,zA1,zA2,zA3,zbI,zbJ]
  rfl
 refine take_ (i:=6) (N:=some 9) (v:=?_) (a':=?_) #[zt,zt,zt,zt,zf,zt,zt,zf,zf,zf] rfl rfl (by kernel_rfl) (fun _ _ _ h=>h) (Or.inl ⟨by rfl,?_⟩) hHeld ?_ ?_
 rotate_left
 ·
  intro w' s0
  go_simp
  with_reducible rfl
 rotate_left
 ·
  simp only [Act.put,zA1,zA2,zA3,zbI,zbJ]
  rfl
 refine zct (i:=4) (N:=some 7) #[zt,zt,zt,zt,zt,zt,zt,zf,zf,zf] rfl rfl (by kernel_rfl) (by decide) (fun K hK=>?_)
 refine zb8 Try.func23 (by kernel_rfl) rfl #[.slice A1 p.length c1] (by rfl) rfl rfl (by (try simp only [List.map_toArray,List.map_cons,List.map_nil]); first | done | rfl) ?_
 refine(H1.out V0 HX0.out.2.2).mono ?_
 rintro e V1 ⟨v,rfl,hR,hB⟩
 refine⟨_,rfl,?_⟩
 obtain⟨B0,d0,rfl⟩:=Kd.R_slice hR
 have HX1:=Aside0.mk (And.intro (zbC HX0.out.1 hB) (And.intro (zbC HX0.out.2.1 hB) (zbx HX0.out.2.2 hB)))
 have HR1:=Aside0.mk (Kd.R_lower hR HX0.out.2.2.size)
 clear hR hB HX0
 refine hK.out _ _ (⟨(zbv HX1.out.1 0).trans rfl,(zbv HX1.out.1 1).trans rfl,(zbv HX1.out.1 2).trans rfl⟩) (fun hHeld=>?_)
 clear hK K
 refine zbR (a':=?_) ?_ ?_
 rotate_left
 ·
  show Act.put _ (some 7) _=_
  simp only [Act.put,zA1,zA2,zA3,zbI,zbJ]
  rfl
 refine zct (i:=7) (N:=some 10) #[zt,zt,zt,zt,zt,zt,zt,zt,zf,zf] rfl rfl (by kernel_rfl) (by decide) (fun K hK=>?_)
 refine zb8 Try.func23 (by kernel_rfl) rfl #[.slice A2 q.length c2] (by rfl) rfl rfl (by (try simp only [List.map_toArray,List.map_cons,List.map_nil]); first | done | rfl) ?_
 refine(H2.out V1 HX1.out.2.2).mono ?_
 rintro e V2 ⟨v,rfl,hR,hB⟩
 refine⟨_,rfl,?_⟩
 obtain⟨B1,d1,rfl⟩:=Kd.R_slice hR
 have HX2:=Aside0.mk (And.intro (zbC HX1.out.1 hB) (And.intro (zbC HX1.out.2.1 hB) (zbx HX1.out.2.2 hB)))
 have HRR:=Aside0.mk (two_apart HR1.out hR hB HX1.out.2.2.size)
 clear hR hB HX1
 refine hK.out _ _ (⟨(zbv HX2.out.1 0).trans rfl,(zbv HX2.out.1 1).trans rfl,(zbv HX2.out.1 2).trans rfl⟩) (fun hHeld=>?_)
 clear hK K
 refine zbR (a':=?_) ?_ ?_
 rotate_left
 ·
  show Act.put _ (some 10) _=_
  simp only [Act.put,zA1,zA2,zA3,zbI,zbJ]
  rfl
 refine zbS (i:=8) (N:=some 11) (v:=?_) (a':=?_) #[zt,zt,zt,zt,zt,zt,zt,zt,zt,zf] rfl rfl (by kernel_rfl) (fun _ _ _ h=>h) (Or.inl ⟨by rfl,?_⟩) ?_ ?_
 rotate_left
 ·
  intro w'
  go_simp
  with_reducible rfl
 rotate_left
 ·
  simp only [Act.put,zA1,zA2,zA3,zbI,zbJ]
  rfl
 refine last_ (i:=9) (N:=none) #[zt,zt,zt,zt,zt,zt,zt,zt,zt,zt] rfl rfl (by kernel_rfl) (by decide) (fun K hK=>?_)
 obtain⟨⟨x0,x1,x2⟩,y0,y1,y2⟩:=zbK HX2.out.2.1
 refine skip_ (w1:=?_) (by rfl) rfl ?_ ?_
 rotate_left
 ·
  go_simp
  rfl
 refine hK.out _ _ ?_
 clear hK K
 refine done_ (by kernel_rfl) ?_
 clear hHeld
 go_wp2
 refine bodyPost_ret (results_cell_row rfl _ _ (w.heap.size+1) 25 _ (0,0) _ rfl (zb1 HX2.out.2.1 _ _ _) Try.underlying25 rfl (by kernel_rfl)) rfl ?_
 exact⟨_,_,rfl,zcC HRR.out.1 HX2.out.2.1 _ _ _,zcC HRR.out.2 HX2.out.2.1 _ _ _,zbU HX2.out.2.2 (by omega) _ _ _⟩
end Go.Proofs.Ytehghijlchpeaaa.Nat1
end
section
namespace Go.Proofs.Ytehghijlchpeaaa.Ev
open Go.RowKit Go.Proofs.YtehghijlchpeaaaW.PrintWords Go.Proofs.YtehghijlchpeaaaW.PrintLast Go.Proofs.YtehghijlchpeaaaW.PrintMore Go.Proofs.Ytehghijlchpeaaa.L Go.Proofs.Ytehghijlchpeaaa.Nt Go.Proofs.Ytehghijlchpeaaa.Nat1
set_option linter.unusedVariables false
set_option linter.unusedSimpArgs false
set_option linter.unusedSectionVars false
def fewB (ls:List (List Int)):Bool:=ls.all (fun l=>decide (l.length≤60))
theorem few_loop (ls:List (List Int)) (hl:ls.length≤1000000) (j:Nat):∀ i,i+j=ls.length→Ev (fun k=>fluxionlaw03_few.l0 k ls (i:Int)) (fewB (ls.drop i)):=by
 induction j with
 | zero =>
  intro i hi
  rw [List.drop_eq_nil_of_le (by omega)]
  refine Ev.succ (Ev.congr (Ev.some _) (fun k=>?_))
  rw [fluxionlaw03_few.l0,if_neg (by omega)]
  rfl
 | succ j ih =>
  intro i hi
  have hlt:i < ls.length:=by omega
  have hr:rd_L2 ls (i:Int)=ls[i]:=by
   unfold rd_L2
   rw [Int.toNat_natCast,List.getD_eq_getElem?_getD,List.getElem?_eq_getElem hlt]
   rfl
  have e:fewB (ls.drop i)=(decide (ls[i].length≤60) && fewB (ls.drop (i+1))):=by
   rw [List.drop_eq_getElem_cons hlt]
   rfl
  rw [e]
  by_cases h:ls[i].length > 60
  ·
   rw [decide_eq_false (by omega),Bool.false_and]
   refine Ev.succ (Ev.congr (Ev.some _) (fun k=>?_))
   rw [fluxionlaw03_few.l0,if_pos (by omega),if_pos (by omega),hr,if_pos (by omega)]
  ·
   rw [decide_eq_true (by omega),Bool.true_and]
   refine Ev.succ (Ev.congr (ih (i+1) (by omega)) (fun k=>?_))
   rw [fluxionlaw03_few.l0,if_pos (by omega),if_pos (by omega),hr,if_neg (by omega),w_succ (by omega)]
end Go.Proofs.Ytehghijlchpeaaa.Ev
namespace Go.Proofs.Ytehghijlchpeaaa.Nat1
open Go.RowKit Go.Proofs.YtehghijlchpeaaaW.PrintWords Go.Proofs.YtehghijlchpeaaaW.PrintLast Go.Proofs.YtehghijlchpeaaaW.PrintMore Go.Proofs.Ytehghijlchpeaaa.L Go.Proofs.Ytehghijlchpeaaa.Nt Go.Proofs.Ytehghijlchpeaaa.Ev
abbrev SL:=Option Addr×Nat×List Int
def slV (x:SL):Value:=.slice x.1 x.2.2.length x.2.1
theorem few_q (xs:List SL) (g:Nat) (t:TypeId) (W:World) (hg:W.heap[g]? = some (.cells (xs.map slV).toArray t (0,0))) (hC:∀ x∈xs,Kd.C (Kd.int .u32) W x.1 x.2.2.length x.2.2∧x.2.2.length≤x.2.1) (hn:xs.length≤1000000) :
  Calls Try.prog 14 #[.slice (some ⟨g,0,none⟩) xs.length xs.length] W fun e w'=>e=.returned (.bool (fewB (xs.map (fun x=>x.2.2))))∧Drawn0 W w':=by
 obtain⟨k,hk⟩:=few_loop (xs.map (fun x=>x.2.2)) (by rw [List.length_map]; exact hn) xs.length 0 (by rw [List.length_map]; omega)
 have hk:fluxionlaw03_few.f k (xs.map (fun x=>x.2.2))=_:=hk k (Nat.le_refl _)
 have:=fluxionlaw03_few.calls k (some ⟨g,0,none⟩) xs.length (xs.map (fun x=>x.2.2)) _ W ⟨rfl,by rw [List.length_map]; omega,fun _=>⟨_,rfl,fun j p hj=>?_⟩⟩ (by rw [List.length_map]; exact Nat.le_refl _) hk
 ·
  rw [List.length_map,List.drop_zero] at this
  exact this
 ·
  rw [List.getElem?_map] at hj
  obtain⟨x,hx,rfl⟩:=Option.map_eq_some_iff.1 hj
  have hm:=List.mem_of_getElem? hx
  refine⟨[slV x],rfl,⟨x.1,x.2.1,rfl,(hC x hm).2,(hC x hm).1⟩,fun i u hi=>?_⟩
  match i,hi with
  | 0,hi =>
   cases hi
   have hc:=zbv hg j
   rw [List.getElem?_toArray,List.getElem?_map,hx] at hc
   have ea:(⟨g,0,none⟩:Addr).add (j*1+0)=⟨g,j,none⟩:=by
    cases j with
    | zero=>rfl
    | succ j=>simp [Addr.add]
   have es:(Kd.slice 63 (Kd.int .u32)).sz=1:=rfl
   rw [es,ea,hc]
   rfl
  | i+1,hi=>simp at hi
end Go.Proofs.Ytehghijlchpeaaa.Nat1
end
section
namespace Go.Proofs.Ytehghijlchpeaaa.Nt
set_option linter.unusedVariables false
set_option linter.unusedSimpArgs false
set_option linter.unusedSectionVars false
def sgA (n:Bool) (a:Nat):Int:=if n then -(a:Int) else (a:Int)
def toR (x:QN):Rat:=mkRat (sgA x.1 x.2.1) x.2.2
theorem sgA_zero (n:Bool):sgA n 0=0:=by cases n<;>rfl
theorem sgA_abs (n:Bool) (a:Nat):(sgA n a).natAbs=a:=by cases n<;>simp [sgA]
theorem sgA_mulN (n:Bool) (a b:Nat):sgA n (a*b)=sgA n a*(b:Int):=by
 cases n<;>simp [sgA,Int.natCast_mul,Int.neg_mul]
theorem toR_nrm {n:Bool} {a b:Nat} (hb:b≠0):toR (nrm n a b)=mkRat (sgA n a) b:=by
 unfold nrm
 by_cases ha:a=0
 ·
  subst ha
  rw [if_pos (Or.inr rfl),sgA_zero,Rat.zero_mkRat]
  exact Rat.zero_mkRat 1
 ·
  rw [if_neg (by omega)]
  have hg:0 < Nat.gcd a b:=Nat.gcd_pos_of_pos_right _ (Nat.pos_of_ne_zero hb)
  unfold toR
  simp only []
  have e1:=Nat.div_mul_cancel (Nat.gcd_dvd_left a b)
  have e2:=Nat.div_mul_cancel (Nat.gcd_dvd_right a b)
  have hm:=Rat.mkRat_mul_right (n:=sgA n (a / Nat.gcd a b)) (d:=b / Nat.gcd a b) (a:=Nat.gcd a b) (by omega)
  rw [← hm,← sgA_mulN,e1,e2]
theorem toR_inj {x y:QN} (hx:red x) (hy:red y) (h:toR x=toR y):x=y:=by
 have cx:(sgA x.1 x.2.1).natAbs.Coprime x.2.2:=by rw [sgA_abs]; exact hx.cop
 have cy:(sgA y.1 y.2.1).natAbs.Coprime y.2.2:=by rw [sgA_abs]; exact hy.cop
 have zx:x.2.2≠0:=by have:=hx.den; omega
 have zy:y.2.2≠0:=by have:=hy.den; omega
 have ex:toR x=⟨sgA x.1 x.2.1,x.2.2,zx,cx⟩:=(Rat.mk_eq_mkRat _ _ zx cx).symm
 have ey:toR y=⟨sgA y.1 y.2.1,y.2.2,zy,cy⟩:=(Rat.mk_eq_mkRat _ _ zy cy).symm
 rw [ex,ey] at h
 have h1:sgA x.1 x.2.1=sgA y.1 y.2.1:=congrArg Rat.num h
 have h2:x.2.2=y.2.2:=congrArg Rat.den h
 have h3:x.2.1=y.2.1:=by
  have:=congrArg Int.natAbs h1
  rwa [sgA_abs,sgA_abs] at this
 have h4:x.1=y.1:=by
  by_cases hz:x.2.1=0
  ·
   rw [hx.zero hz,hy.zero (h3 ▸ hz)]
  ·
   rw [← h3] at h1
   revert h1
   cases x.1<;>cases y.1<;>simp [sgA]<;>omega
 obtain⟨a,b,c⟩:=x
 obtain⟨a',b',c'⟩:=y
 simp only [] at h2 h3 h4
 rw [h2,h3,h4]
theorem toR_add {x y:QN} (hx:red x) (hy:red y):toR (addQ x y)=toR x+toR y:=by
 have zx:x.2.2≠0:=by have:=hx.den; omega
 have zy:y.2.2≠0:=by have:=hy.den; omega
 have zz:x.2.2*y.2.2≠0:=Nat.mul_ne_zero zx zy
 have key:toR x+toR y=mkRat (sgA x.1 x.2.1*(y.2.2:Int)+sgA y.1 y.2.1*(x.2.2:Int)) (x.2.2*y.2.2):=Rat.mkRat_add_mkRat _ _ zx zy
 rw [key,← sgA_mulN,← sgA_mulN]
 unfold addQ
 split
 ·
  rename_i h
  rw [toR_nrm zz,← h]
  congr 1
  cases x.1<;>simp [sgA,Int.natCast_add]<;>omega
 ·
  rename_i h
  have hn:y.1=!x.1:=by revert h; cases x.1<;>cases y.1<;>simp
  split
  ·
   rename_i hle
   rw [toR_nrm zz,hn]
   congr 1
   generalize x.2.1*y.2.2=u at *
   generalize y.2.1*x.2.2=v at *
   cases x.1<;>simp [sgA]<;>omega
  ·
   rename_i hle
   rw [toR_nrm zz,hn]
   congr 1
   generalize x.2.1*y.2.2=u at *
   generalize y.2.1*x.2.2=v at *
   cases x.1<;>simp [sgA]<;>omega
theorem toR_ngt (x:QN):toR (ngt x)=-toR x:=by
 have e:-toR x=mkRat (-(sgA x.1 x.2.1)) x.2.2:=Rat.neg_mkRat _ _
 rw [e]
 unfold ngt toR
 split
 ·
  rename_i h
  simp only []
  rw [h,sgA_zero,sgA_zero]
  rfl
 ·
  simp only []
  congr 1
  cases x.1<;>simp [sgA]
theorem red_add (x y:QN):red (addQ x y):=by
 unfold addQ
 split
 ·
  exact nrm_red _ _ _
 ·
  split<;>exact nrm_red _ _ _
theorem red_ngt {x:QN} (h:red x):red (ngt x):=by
 unfold ngt
 split
 ·
  exact⟨h.den,h.cop,fun _=>rfl⟩
 ·
  rename_i hz
  exact⟨h.den,h.cop,fun h0=>absurd h0 hz⟩
theorem addQ_ngt {x:QN} (hx:red x):addQ x (ngt x)=(false,0,1) :=
 toR_inj (red_add _ _) ⟨Nat.one_pos,by simp,fun _=>rfl⟩ (by
  rw [toR_add hx (red_ngt hx),toR_ngt,Rat.add_comm,Rat.neg_add_cancel]
  exact(Rat.zero_mkRat 1).symm)
end Go.Proofs.Ytehghijlchpeaaa.Nt
end
section
namespace Go.Proofs.Ytehghijlchpeaaa.Nat1
open Go.RowKit Go.Proofs.YtehghijlchpeaaaW.PrintWords Go.Proofs.YtehghijlchpeaaaW.PrintLast Go.Proofs.YtehghijlchpeaaaW.PrintMore Go.Proofs.Ytehghijlchpeaaa.L Go.Proofs.Ytehghijlchpeaaa.Nt Go.Proofs.Ytehghijlchpeaaa.Ev
set_option linter.unusedVariables false
set_option linter.unusedSimpArgs false
set_option linter.unusedSectionVars false
def NR (w:World) (v:Value) (X:QN):Prop :=
 ∃ (n:Bool) (A1:Option Addr) (c1:Nat) (p:List Int) (A2:Option Addr) (c2:Nat) (q:List Int),v=.agg #[.bool n,.slice A1 p.length c1,.slice A2 q.length c2] ∧
  (Kd.C (Kd.int .u32) w A1 p.length p∧p.length≤c1∧okS p)∧(Kd.C (Kd.int .u32) w A2 q.length q∧q.length≤c2∧okS q)∧nrm n (val B32 p) (val B32 q)=X
def lim (k:Nat) (X:QN):Prop:=X.2.1 < B32 ^ k∧X.2.2 < B32 ^ k
theorem lim_ok {k:Nat} {X:QN} (h:lim k X) (hk:k≤137438953472):okQ X:=by
 have h1:=zb4 zbE h.1
 have h2:=zb4 zbE h.2
 exact⟨by omega,by omega⟩
theorem lim_up {j k:Nat} {X:QN} (h:lim j X) (hk:j≤k):lim k X :=
 ⟨Nat.lt_of_lt_of_le h.1 (Nat.pow_le_pow_right (by decide) hk),Nat.lt_of_lt_of_le h.2 (Nat.pow_le_pow_right (by decide) hk)⟩
theorem lim_nrm {k:Nat} {n:Bool} {a b:Nat} (ha:a < B32 ^ k) (hb:b < B32 ^ k) (hk:0 < k):lim k (nrm n a b):=by
 have h1:1 < B32 ^ k:=Nat.one_lt_pow (by omega) (by decide)
 unfold nrm lim
 split
 ·
  exact⟨by simp only []; omega,by simp only []; exact h1⟩
 ·
  exact⟨Nat.lt_of_le_of_lt (Nat.div_le_self _ _) ha,Nat.lt_of_le_of_lt (Nat.div_le_self _ _) hb⟩
theorem lim_mul2 {j k a b:Nat} (ha:a < B32 ^ j) (hb:b < B32 ^ k):a*b < B32 ^ (j+k):=by
 rw [Nat.pow_add]
 exact Nat.mul_lt_mul'' ha hb
theorem lim_ngt {k:Nat} {X:QN} (h:lim k X):lim k (ngt X):=by
 unfold ngt
 split<;>exact h
theorem lim_add {j k:Nat} {X Y:QN} (h1:lim j X) (h2:lim k Y):lim (j+k+1) (addQ X Y):=by
 have e1:=lim_mul2 h1.1 h2.2
 have e2:=lim_mul2 h2.1 h1.2
 rw [Nat.add_comm k j] at e2
 have e3:=lim_mul2 h1.2 h2.2
 have e4:B32 ^ (j+k+1)=B32 ^ (j+k)*B32:=Nat.pow_succ ..
 have e5:B32 ^ (j+k)*2≤B32 ^ (j+k)*B32:=Nat.mul_le_mul_left _ (by decide)
 unfold addQ
 split
 ·
  exact lim_nrm (by omega) (by omega) (by omega)
 ·
  split
  ·
   exact lim_nrm (by omega) (by omega) (by omega)
  ·
   exact lim_nrm (by omega) (by omega) (by omega)
theorem lim_raw {n:Bool} {p q:List Int} (hp:ok B32 p) (hq:ok B32 q) (h1:p.length≤60) (h2:q.length≤60):lim 60 (nrm n (val B32 p) (val B32 q)) :=
 lim_nrm (Nat.lt_of_lt_of_le (val_lt hp) (Nat.pow_le_pow_right (by decide) h1)) (Nat.lt_of_lt_of_le (val_lt hq) (Nat.pow_le_pow_right (by decide) h2)) (by decide)
theorem NR.below {w w':World} {v:Value} {X:QN} (h:NR w v X) (hb:Below w.heap.size w w'):NR w' v X:=by
 obtain⟨n,A1,c1,p,A2,c2,q,rfl,h1,h2,e⟩:=h
 exact⟨n,A1,c1,p,A2,c2,q,rfl,⟨Kd.C_below h1.1 hb,h1.2⟩,⟨Kd.C_below h2.1 hb,h2.2⟩,e⟩
theorem NR.red {w:World} {v:Value} {X:QN} (h:NR w v X):red X:=by
 obtain⟨n,A1,c1,p,A2,c2,q,rfl,h1,h2,rfl⟩:=h
 exact nrm_red _ _ _
theorem NR.okQ {w:World} {v:Value} {X:QN} (h:NR w v X):okQ X:=by
 obtain⟨n,A1,c1,p,A2,c2,q,rfl,h1,h2,rfl⟩:=h
 exact okQ_nrm h1.2.2 h2.2.2
theorem RT.nr {w:World} {b:Nat} {v:Value} {X:QN} (h:RT w b v X) (rX:Nt.red X) (kX:Nat1.okQ X):NR w v X:=by
 obtain⟨A1,c1,A2,c2,rfl,R1,R2⟩:=h.args
 refine⟨X.1,A1,c1,_,A2,c2,_,rfl,⟨(Kd.R_reads' R1).2.2,(Kd.R_reads' R1).2.1,zcD kX.1⟩,⟨(Kd.R_reads' R2).2.2,(Kd.R_reads' R2).2.1,zcD kX.2⟩,?_⟩
 rw [zbX zbE,zbX zbE,zci rX]
section
variable {W:World} {u v:Value} {X Y:QN} (hu:NR W u X) (hv:NR W v Y)
include hu
theorem bits_n:Calls Try.prog 46 #[u] W fun e w'=>e=.returned (.int .i64 (mx (nb X.2.1:Int) (nb X.2.2:Int)))∧Below W.heap.size W w':=by
 obtain⟨n,A1,c1,p,A2,c2,q,rfl,h1,h2,rfl⟩:=hu
 obtain⟨k,hk⟩:=bits_f (n:=n) h1.2.2 h2.2.2
 exact J.rat_Bits.calls k n A1 c1 _ A2 c2 _ _ W h1.1 h1.2.1 h2.1 h2.2.1 hk
theorem sign_n:Calls Try.prog 41 #[u] W fun e w'=>e=.returned (.int .i64 (sgnQ X))∧Below W.heap.size W w':=by
 obtain⟨n,A1,c1,p,A2,c2,q,rfl,h1,h2,rfl⟩:=hu
 refine J.rat_Sign.calls n A1 c1 _ A2 c2 _ _ W h1.1 h1.2.1 h2.1 h2.2.1 ?_
 unfold J.rat_Sign.f sgnQ
 rw [norm_f h1.2.2.okD h2.2.2.okD,Option.bind_some]
 simp only []
 by_cases hz:(nrm n (val B32 p) (val B32 q)).2.1=0
 ·
  rw [if_pos (by rw [hz,zb5]; rfl),if_pos hz]
 ·
  have:dg B32 (nrm n (val B32 p) (val B32 q)).2.1≠[]:=fun e=>hz ((zcn zbE _).1 e)
  have:=List.length_pos_iff.2 this
  rw [if_neg (by omega),if_neg hz]
  cases (nrm n (val B32 p) (val B32 q)).1<;>rfl
theorem ref_of_n:Calls Try.prog 21 #[u] W fun e w'=>∃ v,e=.returned v∧QT w' W.heap.size v X∧Below W.heap.size W w':=by
 obtain⟨n,A1,c1,p,A2,c2,q,rfl,h1,h2,rfl⟩:=hu
 obtain⟨k,hk⟩:=ofR_ev (n:=n) (p:=p) (q:=q) h1.2.2 h2.2.2
 have hk:fluxionref03_Of.f k n p q=_:=hk k (Nat.le_refl _)
 unfold DR at hk
 refine(fluxionref03_Of.calls k n A1 c1 p A2 c2 q _ _ _ W h1.1 h1.2.1 h2.1 h2.2.1 hk).mono ?_
 rintro e w' ⟨v1,v2,rfl,R1,R2,hb⟩
 exact⟨_,rfl,⟨v1,v2,rfl,Kd.R_mono R1 (fun _ _=>trivial),Kd.R_mono R2 (fun _ _=>trivial)⟩,hb⟩
include hv
theorem sub_n:Calls Try.prog 33 #[u,v] W (RTPost W (addQ X (ngt Y))):=by
 obtain⟨n,A1,c1,p,A2,c2,q,rfl,h1,h2,rfl⟩:=hu
 obtain⟨m,A3,c3,r,A4,c4,s,rfl,h3,h4,rfl⟩:=hv
 have:=subR_q n A1 c1 p A2 c2 q m A3 c3 r A4 c4 s W h1.1 h1.2.1 h2.1 h2.2.1 h3.1 h3.2.1 h4.1 h4.2.1 h1.2.2 h2.2.2 h3.2.2 h4.2.2
 rw [if_pos rfl] at this
 exact this.mono (fun e w' h=>h.rtp)
end
theorem okS60 {l:List Int} (h:ok B32 l) (hl:l.length≤60):okS l:=⟨h,by omega⟩
def DT (w:World) (v:Value) (n:Nat):Prop:=∃ (A:Option Addr) (c:Nat),v=.slice A (dg 10000 n).length c∧Kd.C (Kd.int .i64) w A (dg 10000 n).length (dg 10000 n)∧(dg 10000 n).length≤c
theorem DT.below {w w':World} {v:Value} {n:Nat} (h:DT w v n) (hb:Below w.heap.size w w'):DT w' v n:=by
 obtain⟨A,c,rfl,h1,h2⟩:=h
 exact⟨A,c,rfl,Kd.C_below h1 hb,h2⟩
theorem ref_make_n {W:World} {n:Bool} {u v:Value} {a b:Nat} (hu:DT W u a) (hv:DT W v b) (ha:sh a) (hb:sh b):Calls Try.prog 25 #[.bool n,u,v] W fun e w'=>∃ x,e=.returned x∧QT w' W.heap.size x (nrm n a b)∧Below W.heap.size W w':=by
 obtain⟨A1,c1,rfl,a1,b1⟩:=hu
 obtain⟨A2,c2,rfl,a2,b2⟩:=hv
 obtain⟨k,hk⟩:=make_ev (n:=n) ha hb
 have hk:fluxionref03_Make.f k n _ _=_:=hk k (Nat.le_refl _)
 unfold DR at hk
 refine(fluxionref03_Make.calls k n A1 c1 _ A2 c2 _ _ _ _ W a1 b1 a2 b2 hk).mono ?_
 rintro e w' ⟨v1,v2,rfl,R1,R2,hb⟩
 exact⟨_,rfl,⟨v1,v2,rfl,Kd.R_mono R1 (fun _ _=>trivial),Kd.R_mono R2 (fun _ _=>trivial)⟩,hb⟩
theorem ownR_n {W:World} {u:Value} {X:QN} (hu:NR W u X):Calls Try.prog 17 #[u] W fun e w'=>∃ v,e=.returned v∧NR w' v X∧Below W.heap.size W w':=by
 obtain⟨n,A1,c1,p,A2,c2,q,rfl,h1,h2,rfl⟩:=hu
 refine(ownR_q n A1 c1 p A2 c2 q W h1.1 h1.2.1 h2.1 h2.2.1 (Nat.le_trans h1.2.2.2 (by decide)) (Nat.le_trans h2.2.2.2 (by decide))).mono ?_
 rintro e w' ⟨v1,v2,rfl,R1,R2,hb⟩
 obtain⟨B1,d1,rfl⟩:=Kd.R_slice R1
 obtain⟨B2,d2,rfl⟩:=Kd.R_slice R2
 exact⟨_,rfl,⟨n,B1,d1,p,B2,d2,q,rfl,⟨(Kd.R_reads' R1).2.2,(Kd.R_reads' R1).2.1,h1.2.2⟩,⟨(Kd.R_reads' R2).2.2,(Kd.R_reads' R2).2.1,h2.2.2⟩,rfl⟩,hb⟩
set_option maxHeartbeats 1000000 in
set_option maxRecDepth 100000 in
theorem cmp_n {W:World} {u v:Value} {X Y:QN} (hu:NR W u X) (hv:NR W v Y) (hk:okQ (addQ X (ngt Y))):Calls Try.prog 42 #[u,v] W fun e w'=>e=.returned (.int .i64 (sgnQ (addQ X (ngt Y))))∧Below W.heap.size W w':=by
 have hu25:=Try.underlying25
 have HU:=Aside0.mk hu
 have HV:=Aside0.mk hv
 have HK:=Aside0.mk hk
 obtain⟨n,A1,c1,p,A2,c2,q,rfl,h1,h2,e1⟩:=hu
 obtain⟨m,A3,c3,r,A4,c4,s,rfl,h3,h4,e2⟩:=hv
 clear h1 h2 e1 h3 h4 e2 hk
 go_enter Try.func42,Try.ntmps42
 go_wp2_with fail
 have HB:=Aside0.mk (zbt (zbt (Below.refl W.heap.size W) (.cells #[.bool n,.slice A1 p.length c1,.slice A2 q.length c2] 25)) (.cells #[.bool m,.slice A3 r.length c3,.slice A4 s.length c4] 25))
 generalize (W.alloc (.cells #[.bool n,.slice A1 p.length c1,.slice A2 q.length c2] 25)).alloc (.cells #[.bool m,.slice A3 r.length c3,.slice A4 s.length c4] 25)=W1 at HB ⊢
 refine(sub_n (HU.out.below HB.out) (HV.out.below HB.out)).mono ?_
 rintro e W2 ⟨x,rfl,hR,hB⟩
 have HR:=Aside0.mk (hR.nr (red_add _ _) HK.out)
 have HB2:=Aside0.mk (zbx HB.out hB)
 clear hR hB HB
 go_wp2_with fail
 refine(sign_n HR.out).mono ?_
 rintro e W3 ⟨rfl,hB⟩
 have HB3:=Aside0.mk (zbx HB2.out hB)
 clear hB HB2
 go_wp2
 go_ret
 exact⟨rfl,HB3.out⟩
end Go.Proofs.Ytehghijlchpeaaa.Nat1
end
section
namespace Go.Proofs.Ytehghijlchpeaaa.Ev
open Go.RowKit Go.Proofs.YtehghijlchpeaaaW.PrintWords Go.Proofs.YtehghijlchpeaaaW.PrintLast Go.Proofs.YtehghijlchpeaaaW.PrintMore Go.Proofs.Ytehghijlchpeaaa.L Go.Proofs.Ytehghijlchpeaaa.Nt Go.Proofs.Ytehghijlchpeaaa.Nat1
set_option linter.unusedVariables false
set_option linter.unusedSimpArgs false
set_option linter.unusedSectionVars false
theorem mul_loop {a b:Nat} (ha:sm a) (hb:sm b) (hab:sm (a*b)) (j:Nat):j≤(dg 10000 b).length→Ev (fun k=>fluxionref01_Mul.l0 k (dg 10000 a) (dg 10000 b) (dg 10000 (a*(b / 10000 ^ j))) ((j:Int)-1)) (dg 10000 (a*b)):=by
 induction j with
 | zero =>
  intro _
  rw [Nat.pow_zero,Nat.div_one]
  refine Ev.succ (Ev.congr (Ev.some _) (fun k=>?_))
  rw [fluxionref01_Mul.l0,if_neg (by omega)]
 | succ j ih =>
  intro hj
  have hih:=ih (by omega)
  unfold sm at ha hb hab
  have hle:a*(b / 10000 ^ j)≤a*b:=Nat.mul_le_mul_left _ (Nat.div_le_self _ _)
  have hd:=zcg b j
  have hrd:=rd_D b j
  generalize hM:b / 10000 ^ j=M at *
  generalize hA:b / 10000 ^ (j+1)=A at *
  have e1:=times_ev (a:=a) (d:=M % 10000) (by omega) ha
  have eM:a*M=10000*(a*A)+a*(M % 10000):=by
   rw [hd]
   have h2:M=10000*(M / 10000)+M % 10000:=(Nat.div_add_mod M 10000).symm
   calc a*M=a*(10000*(M / 10000)+M % 10000):=by rw [← h2]
    _=10000*(a*(M / 10000))+a*(M % 10000):=by rw [Nat.mul_add,Nat.mul_left_comm]
  have e4:=add_ev (a:=10000*(a*A)) (b:=a*(M % 10000)) (by
   rw [← eM]
   have:=zb0 zch hle
   omega)
  rw [← eM] at e4
  have hup:dg 10000 (10000*(a*A))=if 0 < a*A then [(0:Int)]++dg 10000 (a*A) else []:=by
   by_cases h0:0 < a*A
   ·
    rw [if_pos h0,D_pos (by omega),show 10000*(a*A) % 10000=0 by omega,show 10000*(a*A) / 10000=a*A by omega]
    rfl
   ·
    rw [if_neg h0,show 10000*(a*A)=0 by omega,zb5]
  have hAl:(dg 10000 (a*A)).length≤1099511627776:=by
   have h1:a*A≤a*b:=by
    have:a*A≤a*M:=by rw [hd]; exact Nat.mul_le_mul_left _ (Nat.div_le_self _ _)
    omega
   exact Nat.le_trans (zb0 zch h1) hab
  have ex:(((j+1:Nat):Int)-1)=(j:Int):=by omega
  have ew:wrap64 ((j:Int)-1)=(j:Int)-1:=w64 (by omega) (by omega)
  rw [ex]
  obtain⟨k1,h1⟩:=e1
  obtain⟨k4,h4⟩:=e4
  obtain⟨k5,h5⟩:=hih
  dsimp only at h1 h4 h5
  refine Ev.succ ⟨k1+k4+k5,fun k hk=>?_⟩
  dsimp only
  have hl:=len_pos (n:=a*A)
  have h4:=h4 k (by omega)
  rw [hup] at h4
  by_cases h0:0 < a*A
  ·
   rw [if_pos h0] at h4
   rw [fluxionref01_Mul.l0,if_pos (by omega),if_pos (by omega),Option.bind_some,if_pos (by simp only [List.length_cons,List.length_nil]; omega),if_pos (by omega),if_pos (by omega),hrd,h1 k (by omega),Option.bind_some,h4,Option.bind_some,ew]
   exact h5 k (by omega)
  ·
   rw [if_neg h0] at h4
   rw [fluxionref01_Mul.l0,if_pos (by omega),if_neg (by omega),if_pos (by omega),if_pos (by omega),hrd,h1 k (by omega),Option.bind_some,h4,Option.bind_some,ew]
   exact h5 k (by omega)
theorem mul_ev {a b:Nat} (ha:sm a) (hb:sm b) (hab:sm (a*b)):Ev (fun k=>fluxionref01_Mul.f k (dg 10000 a) (dg 10000 b)) (dg 10000 (a*b)):=by
 have:=mul_loop ha hb hab (dg 10000 b).length (Nat.le_refl _)
 have h0:b / 10000 ^ (dg 10000 b).length=0:=Nat.div_eq_of_lt (lt_dg zch)
 rw [h0,Nat.mul_zero,zb5] at this
 refine Ev.congr this (fun k=>?_)
 unfold sm at hb
 rw [fluxionref01_Mul.f,w64 (by omega) (by omega)]
theorem sh_pow {n m:Nat} (h:n < B32 ^ m) (hm:m≤1000):sh n:=by
 have h1:B32 ^ m≤10000 ^ (3*m):=by
  rw [Nat.pow_mul]
  exact Nat.pow_le_pow_left (by decide) m
 have:=zb4 (k:=3*m) zch (Nat.lt_of_lt_of_le h h1)
 unfold sh
 omega
end Go.Proofs.Ytehghijlchpeaaa.Ev
namespace Go.Proofs.Ytehghijlchpeaaa.Nat1
open Go.RowKit Go.Proofs.YtehghijlchpeaaaW.PrintWords Go.Proofs.YtehghijlchpeaaaW.PrintLast Go.Proofs.YtehghijlchpeaaaW.PrintMore Go.Proofs.Ytehghijlchpeaaa.L Go.Proofs.Ytehghijlchpeaaa.Nt Go.Proofs.Ytehghijlchpeaaa.Ev
def QD (w:World) (v:Value) (X:QN):Prop:=∃ v1 v2:Value,v=.agg #[.bool X.1,v1,v2]∧DT w v1 X.2.1∧DT w v2 X.2.2
theorem QD.below {w w':World} {v:Value} {X:QN} (h:QD w v X) (hb:Below w.heap.size w w'):QD w' v X:=by
 obtain⟨v1,v2,e,h1,h2⟩:=h
 exact⟨v1,v2,e,h1.below hb,h2.below hb⟩
theorem R_DT {w:World} {base:Nat} {P:Nat→Prop} {v:Value} {n:Nat} (h:Kd.R (Kd.int .i64) 3 w base P v (dg 10000 n)):DT w v n:=by
 obtain⟨A,c,rfl⟩:=Kd.R_slice h
 exact⟨A,c,rfl,(Kd.R_reads' h).2.2,(Kd.R_reads' h).2.1⟩
theorem QT.qd {w:World} {b:Nat} {v:Value} {X:QN} (h:QT w b v X):QD w v X:=by
 obtain⟨v1,v2,rfl,R1,R2⟩:=h
 exact⟨v1,v2,rfl,R_DT R1,R_DT R2⟩
def QPost (W:World) (r:QN) (e:Ending) (w':World):Prop:=∃ x,e=.returned x∧QD w' x r∧Below W.heap.size W w'
theorem nmul_n {W:World} {u v:Value} {a b:Nat} (hu:DT W u a) (hv:DT W v b) (ha:sm a) (hb:sm b) (hab:sm (a*b)):Calls Try.prog 73 #[u,v] W fun e w'=>∃ x,e=.returned x∧DT w' x (a*b)∧Below W.heap.size W w':=by
 obtain⟨A1,c1,rfl,a1,b1⟩:=hu
 obtain⟨A2,c2,rfl,a2,b2⟩:=hv
 obtain⟨k,hk⟩:=mul_ev ha hb hab
 refine(fluxionref01_Mul.calls k A1 c1 _ A2 c2 _ _ W a1 b1 a2 b2 (hk k (Nat.le_refl _))).mono ?_
 rintro e w' ⟨x,rfl,hR,hB⟩
 exact⟨_,rfl,R_DT hR,hB⟩
theorem nadd_n {W:World} {u v:Value} {a b:Nat} (hu:DT W u a) (hv:DT W v b) (hab:sm (a+b)):Calls Try.prog 66 #[u,v] W fun e w'=>∃ x,e=.returned x∧DT w' x (a+b)∧Below W.heap.size W w':=by
 obtain⟨A1,c1,rfl,a1,b1⟩:=hu
 obtain⟨A2,c2,rfl,a2,b2⟩:=hv
 obtain⟨k,hk⟩:=add_ev (a:=a) (b:=b) (Nat.le_trans hab (by decide))
 refine(fluxionref01_Add.calls k A1 c1 _ A2 c2 _ _ W a1 b1 a2 b2 (hk k (Nat.le_refl _))).mono ?_
 rintro e w' ⟨x,rfl,hR,hB⟩
 exact⟨_,rfl,R_DT hR,hB⟩
theorem nsub_n {W:World} {u v:Value} {a b:Nat} (hu:DT W u a) (hv:DT W v b) (ha:sm a) (hab:b≤a):Calls Try.prog 75 #[u,v] W fun e w'=>∃ x,e=.returned (.tuple #[x,.bool true])∧DT w' x (a-b)∧Below W.heap.size W w':=by
 obtain⟨A1,c1,rfl,a1,b1⟩:=hu
 obtain⟨A2,c2,rfl,a2,b2⟩:=hv
 obtain⟨k,hk⟩:=sub_ev ha hab
 refine(fluxionref01_Sub.calls k A1 c1 _ A2 c2 _ _ _ W a1 b1 a2 b2 (hk k (Nat.le_refl _))).mono ?_
 rintro e w' ⟨x,rfl,hR,hB⟩
 exact⟨_,rfl,R_DT hR,hB⟩
theorem ncmp_n {W:World} {u v:Value} {a b:Nat} (hu:DT W u a) (hv:DT W v b) (ha:sm a):Calls Try.prog 74 #[u,v] W fun e w'=>e=.returned (.int .i64 (cmpN a b))∧Below W.heap.size W w':=by
 obtain⟨A1,c1,rfl,a1,b1⟩:=hu
 obtain⟨A2,c2,rfl,a2,b2⟩:=hv
 obtain⟨k,hk⟩:=cmp_ev (b:=b) (Nat.le_trans ha (by decide))
 refine(fluxionref01_Cmp.calls k A1 c1 _ A2 c2 _ _ W a1 b1 a2 b2 (hk k (Nat.le_refl _))).mono ?_
 rintro e w' ⟨rfl,hD⟩
 obtain⟨m,rfl⟩:=hD.out
 exact⟨rfl,zbs (Below.refl _ _) m⟩
theorem zero_n {W:World} {u:Value} {X:QN} (hu:QD W u X):Calls Try.prog 79 #[u] W fun e w'=>e=.returned (.bool (decide (X.2.1=0)))∧Below W.heap.size W w':=by
 obtain⟨v1,v2,rfl,⟨A1,c1,rfl,a1,b1⟩,⟨A2,c2,rfl,a2,b2⟩⟩:=hu
 refine fluxionref03_Zero.calls X.1 A1 c1 _ A2 c2 _ _ W a1 b1 a2 b2 ?_
 rw [fluxionref03_Zero.f]
 congr 1
 have:=len_pos (n:=X.2.1)
 by_cases h:X.2.1=0
 ·
  rw [decide_eq_true h,h,D_zero]; rfl
 ·
  rw [decide_eq_false h,beq_eq_false_iff_ne]; omega
end Go.Proofs.Ytehghijlchpeaaa.Nat1
end
section
namespace Go.Proofs.Ytehghijlchpeaaa.Nat1
open Go.RowKit Go.Proofs.YtehghijlchpeaaaW.PrintWords Go.Proofs.YtehghijlchpeaaaW.PrintLast Go.Proofs.YtehghijlchpeaaaW.PrintMore Go.Proofs.Ytehghijlchpeaaa.L Go.Proofs.Ytehghijlchpeaaa.Nt Go.Proofs.Ytehghijlchpeaaa.Ev
set_option linter.unusedVariables false
set_option linter.unusedSimpArgs false
set_option linter.unusedSectionVars false
def QTPost (W:World) (r:QN) (e:Ending) (w':World):Prop:=∃ x,e=.returned x∧QT w' W.heap.size x r∧Below W.heap.size W w'
theorem zcE {W:World} {base g:Nat} {ok':Nat→Prop} {v:Value} {xs:List Int} {cs:Array Value} (h:Kd.R (Kd.int .i64) 3 W base ok' v xs) (hg:W.heap[g]? = some (.cells cs 36 (0,0))) (a b c:Value):Kd.R (Kd.int .i64) 3 (store3 W g a b c) base ok' v xs :=
 Kd.R_mono (Kd.R_far (p:=⟨g,2,none⟩) (Kd.R_far (p:=⟨g,1,none⟩) (Kd.R_far (p:=⟨g,0,none⟩) (Kd.R_types h hg (by decide)) (fun _ hk=>hk.2) a) (fun _ hk=>hk.2) b) (fun _ hk=>hk.2) c) (fun _ hk=>hk.1)
theorem QT.store3 {W:World} {base g:Nat} {v:Value} {r:QN} {cs:Array Value} (h:QT W base v r) (hg:W.heap[g]? = some (.cells cs 36 (0,0))) (a b c:Value):QT (store3 W g a b c) base v r:=by
 obtain⟨v1,v2,he,h1,h2⟩:=h
 exact⟨v1,v2,he,zcE h1 hg _ _ _,zcE h2 hg _ _ _⟩
theorem prod_sh {a b:Nat} (ha:a < B32 ^ 200) (hb:b < B32 ^ 200):sm a∧sm b∧sm (a*b)∧sh (a*b) :=
 ⟨(sh_pow ha (by decide)).sm,(sh_pow hb (by decide)).sm,(sh_pow (lim_mul2 ha hb) (by decide)).sm,sh_pow (lim_mul2 ha hb) (by decide)⟩
theorem sum_shk {k a b c d:Nat} (hk:k+k+1≤1000) (ha:a < B32 ^ k) (hb:b < B32 ^ k) (hc:c < B32 ^ k) (hd:d < B32 ^ k):sh (a*b+c*d)∧sh (a*b-c*d)∧sh (c*d-a*b):=by
 have h1:=lim_mul2 ha hb
 have h2:=lim_mul2 hc hd
 have h3:a*b+c*d < B32 ^ (k+k+1):=by
  have e4:B32 ^ (k+k+1)=B32 ^ (k+k)*B32:=Nat.pow_succ ..
  rw [e4]
  generalize B32 ^ (k+k)=P at *
  have e5:P*2≤P*B32:=Nat.mul_le_mul_left _ (by decide)
  omega
 have g1:a*b-c*d≤a*b+c*d:=Nat.le_trans (Nat.sub_le _ _) (Nat.le_add_right _ _)
 have g2:c*d-a*b≤a*b+c*d:=Nat.le_trans (Nat.sub_le _ _) (Nat.le_add_left _ _)
 exact⟨sh_pow h3 hk,sh_pow (Nat.lt_of_le_of_lt g1 h3) hk,sh_pow (Nat.lt_of_le_of_lt g2 h3) hk⟩
theorem sum_sh {a b c d:Nat} (ha:a < B32 ^ 200) (hb:b < B32 ^ 200) (hc:c < B32 ^ 200) (hd:d < B32 ^ 200):sh (a*b+c*d)∧sh (a*b-c*d)∧sh (c*d-a*b):=sum_shk (by decide) ha hb hc hd
set_option maxHeartbeats 4000000 in
set_option maxRecDepth 100000 in
theorem refneg_n {W:World} {u:Value} {X:QN} (hu:QD W u X) (hX:red X) :
  Calls Try.prog 36 #[u] W (QPost W (ngt X)):=by
 have hu36:=Try.underlying36
 have HR:=Aside0.mk hX
 have HZ:=Aside0.mk (fun (w':World) (x:Value) (h:QD w' x X)=>zero_n h)
 obtain⟨b,hb0⟩:∃ b,b=decide (X.2.1=0):=⟨_,rfl⟩
 rw [← hb0] at HZ
 have HB0:=Aside0.mk hb0
 clear hb0 hX
 obtain⟨u1,u2,rfl,hu1,hu2⟩:=hu
 have HU1:=Aside0.mk hu1
 have HU2:=Aside0.mk hu2
 clear hu1 hu2
 have ⟨A1,c1,e1,_,_⟩:=HU1.out
 subst e1
 have ⟨A2,c2,e2,_,_⟩:=HU2.out
 subst e2
 cases b with
 | true =>
  go_enter Try.func36,Try.ntmps36
  go_wp2_with fail
  have hx0:=zby (zb3 W (.cells #[.bool X.1,.slice A1 (dg 10000 X.2.1).length c1,.slice A2 (dg 10000 X.2.2).length c2] 36)) (.cells #[.bool false,.slice none 0 0,.slice none 0 0] 36)
  have hx1:=zb3 (W.alloc (.cells #[.bool X.1,.slice A1 (dg 10000 X.2.1).length c1,.slice A2 (dg 10000 X.2.2).length c2] 36)) (.cells #[.bool false,.slice none 0 0,.slice none 0 0] 36)
  rw [show (W.alloc (.cells #[.bool X.1,.slice A1 (dg 10000 X.2.1).length c1,.slice A2 (dg 10000 X.2.2).length c2] 36)).heap.size=W.heap.size+1 by simp] at hx1
  have hbw:Below W.heap.size W ((W.alloc (.cells #[.bool X.1,.slice A1 (dg 10000 X.2.1).length c1,.slice A2 (dg 10000 X.2.2).length c2] 36)).alloc (.cells #[.bool false,.slice none 0 0,.slice none 0 0] 36)):=zbt (zbt (Below.refl _ _) _) _
  generalize (W.alloc (.cells #[.bool X.1,.slice A1 (dg 10000 X.2.1).length c1,.slice A2 (dg 10000 X.2.2).length c2] 36)).alloc (.cells #[.bool false,.slice none 0 0,.slice none 0 0] 36)=W0 at hx0 hx1 hbw ⊢
  have HF:Aside0 (∀ w':World,Below W0.heap.size W0 w'→(w'.cell? ⟨W.heap.size,0,none⟩=some (.bool X.1)∧w'.cell? ⟨W.heap.size,1,none⟩=some (.slice A1 (dg 10000 X.2.1).length c1)∧w'.cell? ⟨W.heap.size,2,none⟩=some (.slice A2 (dg 10000 X.2.2).length c2))∧w'.heap[W.heap.size+1]? = some (.cells #[.bool false,.slice none 0 0,.slice none 0 0] 36 (0,0))∧Below W.heap.size W w'):=⟨fun w' hb=>⟨⟨(zbv (zbC hx0 hb) 0).trans rfl,(zbv (zbC hx0 hb) 1).trans rfl,(zbv (zbC hx0 hb) 2).trans rfl⟩,zbC hx1 hb,zbx hbw hb⟩⟩
  clear hbw hx0 hx1
  obtain⟨⟨c00,c01,c02⟩,hz,-⟩:=HF.out _ (Below.refl _ _)
  go_wp2_with fail
  clear hz c00 c01 c02
  refine(HZ.out W0 _ ⟨_,_,rfl,HU1.out.below (HF.out _ (Below.refl _ _)).2.2,HU2.out.below (HF.out _ (Below.refl _ _)).2.2⟩).mono ?_
  rintro e W1 ⟨rfl,hB⟩
  have hb1:=Aside0.mk hB
  clear hB
  obtain⟨⟨c00,c01,c02⟩,hz,-⟩:=HF.out _ hb1.out
  obtain⟨⟨x0,x1,x2⟩,y0,y1,y2⟩:=zbK hz
  go_wp2
  refine bodyPost_ret (results_cell_row rfl _ _ (W.heap.size+1) 36 _ (0,0) _ rfl (zb1 (HF.out _ hb1.out).2.1 _ _ _) Try.underlying36 rfl (by kernel_rfl)) rfl ?_
  have hx0:=of_decide_eq_true HB0.out.symm
  refine⟨_,rfl,?_,zbU (HF.out _ hb1.out).2.2 (by omega) _ _ _⟩
  unfold ngt
  rw [if_pos hx0,HR.out.zero hx0]
  exact⟨_,_,rfl,HU1.out.below (zbU (HF.out _ hb1.out).2.2 (by omega) _ _ _),HU2.out.below (zbU (HF.out _ hb1.out).2.2 (by omega) _ _ _)⟩
 | false =>
  go_enter Try.func36,Try.ntmps36
  go_wp2_with fail
  have hx0:=zby (zb3 W (.cells #[.bool X.1,.slice A1 (dg 10000 X.2.1).length c1,.slice A2 (dg 10000 X.2.2).length c2] 36)) (.cells #[.bool false,.slice none 0 0,.slice none 0 0] 36)
  have hx1:=zb3 (W.alloc (.cells #[.bool X.1,.slice A1 (dg 10000 X.2.1).length c1,.slice A2 (dg 10000 X.2.2).length c2] 36)) (.cells #[.bool false,.slice none 0 0,.slice none 0 0] 36)
  rw [show (W.alloc (.cells #[.bool X.1,.slice A1 (dg 10000 X.2.1).length c1,.slice A2 (dg 10000 X.2.2).length c2] 36)).heap.size=W.heap.size+1 by simp] at hx1
  have hbw:Below W.heap.size W ((W.alloc (.cells #[.bool X.1,.slice A1 (dg 10000 X.2.1).length c1,.slice A2 (dg 10000 X.2.2).length c2] 36)).alloc (.cells #[.bool false,.slice none 0 0,.slice none 0 0] 36)):=zbt (zbt (Below.refl _ _) _) _
  generalize (W.alloc (.cells #[.bool X.1,.slice A1 (dg 10000 X.2.1).length c1,.slice A2 (dg 10000 X.2.2).length c2] 36)).alloc (.cells #[.bool false,.slice none 0 0,.slice none 0 0] 36)=W0 at hx0 hx1 hbw ⊢
  have HF:Aside0 (∀ w':World,Below W0.heap.size W0 w'→(w'.cell? ⟨W.heap.size,0,none⟩=some (.bool X.1)∧w'.cell? ⟨W.heap.size,1,none⟩=some (.slice A1 (dg 10000 X.2.1).length c1)∧w'.cell? ⟨W.heap.size,2,none⟩=some (.slice A2 (dg 10000 X.2.2).length c2))∧w'.heap[W.heap.size+1]? = some (.cells #[.bool false,.slice none 0 0,.slice none 0 0] 36 (0,0))∧Below W.heap.size W w'):=⟨fun w' hb=>⟨⟨(zbv (zbC hx0 hb) 0).trans rfl,(zbv (zbC hx0 hb) 1).trans rfl,(zbv (zbC hx0 hb) 2).trans rfl⟩,zbC hx1 hb,zbx hbw hb⟩⟩
  clear hbw hx0 hx1
  obtain⟨⟨c00,c01,c02⟩,hz,-⟩:=HF.out _ (Below.refl _ _)
  go_wp2_with fail
  clear hz c00 c01 c02
  refine(HZ.out W0 _ ⟨_,_,rfl,HU1.out.below (HF.out _ (Below.refl _ _)).2.2,HU2.out.below (HF.out _ (Below.refl _ _)).2.2⟩).mono ?_
  rintro e W1 ⟨rfl,hB⟩
  have hb1:=Aside0.mk hB
  clear hB
  obtain⟨⟨c00,c01,c02⟩,hz,-⟩:=HF.out _ hb1.out
  obtain⟨⟨x0,x1,x2⟩,y0,y1,y2⟩:=zbK hz
  go_wp2
  refine bodyPost_ret (results_cell_row rfl _ _ (W.heap.size+1) 36 _ (0,0) _ rfl (zb1 (HF.out _ hb1.out).2.1 _ _ _) Try.underlying36 rfl (by kernel_rfl)) rfl ?_
  have hx0:=of_decide_eq_false HB0.out.symm
  refine⟨_,rfl,?_,zbU (HF.out _ hb1.out).2.2 (by omega) _ _ _⟩
  unfold ngt
  rw [if_neg hx0]
  exact⟨_,_,rfl,HU1.out.below (zbU (HF.out _ hb1.out).2.2 (by omega) _ _ _),HU2.out.below (zbU (HF.out _ hb1.out).2.2 (by omega) _ _ _)⟩
def refmul.B1:List Nat:=[0,1,0,4,15,0,32,0,128,480,0,1024,0,4096,16352,32767,65535]
def refadd.T1:Bool×List (List Nat×List Nat):=(true,[([],[]),([0],[0]),([],[]),([2],[2]),([1,3],[1,3]),([],[]),([5],[5]),([],[]),([7],[7]),([6,8,4],[6,8]),([4,9,0,1,2,3,4],[4]),([9,10,0,1,2,3,4,5,6,7,8,9,10],[9])])
def refadd.B1:List Nat:=[0,1,0,4,15,0,32,0,128,511,1023,2047]
theorem refadd.tab1:rtab .any (opsOf Try.f30 1)=refadd.T1:=by kernel_rfl
theorem refadd.bits1:zcI refadd.T1.2 refadd.B1=true:=by kernel_rfl
def refadd.T4:Bool×List (List Nat×List Nat):=(true,[([],[]),([0],[0]),([],[]),([],[]),([2,3],[2,3]),([],[]),([1,4,5,4],[1,4,5]),([6,6,0,1,2,3,4,5,6],[6])])
def refadd.B4:List Nat:=[0,1,0,0,12,0,63,127]
theorem refadd.tab4:rtab .any (opsOf Try.f30 4)=refadd.T4:=by kernel_rfl
theorem refadd.bits4:zcI refadd.T4.2 refadd.B4=true:=by kernel_rfl
set_option maxHeartbeats 4000000 in
set_option maxRecDepth 100000 in
theorem refadd_n {W:World} {u v:Value} {X Y:QN} (hu:QD W u X) (hv:QD W v Y) (kX:lim 200 X) (kY:lim 200 Y) :
  Calls Try.prog 30 #[u,v] W (QTPost W (addQ X Y)):=by
 have hu36:=Try.underlying36
 have K1:=Aside0.mk (prod_sh kX.1 kY.2)
 have K2:=Aside0.mk (prod_sh kY.1 kX.2)
 have K3:=Aside0.mk (prod_sh kX.2 kY.2)
 have K4:=Aside0.mk (sum_sh kX.1 kY.2 kY.1 kX.2)
 clear kX kY
 obtain⟨u1,u2,rfl,hu1,hu2⟩:=hu
 have HU1:=Aside0.mk hu1
 have HU2:=Aside0.mk hu2
 obtain⟨v1,v2,rfl,hv1,hv2⟩:=hv
 have HV1:=Aside0.mk hv1
 have HV2:=Aside0.mk hv2
 clear hu1 hu2 hv1 hv2
 go_enter Try.func30,Try.ntmps30
 go_wp2_with fail
 have hx0:=zby (zby (zb3 W (.cells #[.bool X.1,u1,u2] 36)) (.cells #[.bool Y.1,v1,v2] 36)) (.cells #[.bool false,.slice none 0 0,.slice none 0 0] 36)
 have hx1:=zby (zb3 (W.alloc (.cells #[.bool X.1,u1,u2] 36)) (.cells #[.bool Y.1,v1,v2] 36)) (.cells #[.bool false,.slice none 0 0,.slice none 0 0] 36)
 rw [show (W.alloc (.cells #[.bool X.1,u1,u2] 36)).heap.size=W.heap.size+1 by simp] at hx1
 have hx2:=zb3 ((W.alloc (.cells #[.bool X.1,u1,u2] 36)).alloc (.cells #[.bool Y.1,v1,v2] 36)) (.cells #[.bool false,.slice none 0 0,.slice none 0 0] 36)
 rw [show ((W.alloc (.cells #[.bool X.1,u1,u2] 36)).alloc (.cells #[.bool Y.1,v1,v2] 36)).heap.size=W.heap.size+1+1 by simp] at hx2
 have hbw:Below W.heap.size W (((W.alloc (.cells #[.bool X.1,u1,u2] 36)).alloc (.cells #[.bool Y.1,v1,v2] 36)).alloc (.cells #[.bool false,.slice none 0 0,.slice none 0 0] 36)):=zbt (zbt (zbt (Below.refl _ _) _) _) _
 generalize ((W.alloc (.cells #[.bool X.1,u1,u2] 36)).alloc (.cells #[.bool Y.1,v1,v2] 36)).alloc (.cells #[.bool false,.slice none 0 0,.slice none 0 0] 36)=W0 at hx0 hx1 hx2 hbw ⊢
 have HF:Aside0 (∀ w':World,Below W0.heap.size W0 w'→(w'.cell? ⟨W.heap.size,0,none⟩=some (.bool X.1)∧w'.cell? ⟨W.heap.size,1,none⟩=some (u1)∧w'.cell? ⟨W.heap.size,2,none⟩=some (u2)∧w'.cell? ⟨W.heap.size+1,0,none⟩=some (.bool Y.1)∧w'.cell? ⟨W.heap.size+1,1,none⟩=some (v1)∧w'.cell? ⟨W.heap.size+1,2,none⟩=some (v2))∧w'.heap[W.heap.size+1+1]? = some (.cells #[.bool false,.slice none 0 0,.slice none 0 0] 36 (0,0))∧Below W.heap.size W w'):=⟨fun w' hb=>⟨⟨(zbv (zbC hx0 hb) 0).trans rfl,(zbv (zbC hx0 hb) 1).trans rfl,(zbv (zbC hx0 hb) 2).trans rfl,(zbv (zbC hx1 hb) 0).trans rfl,(zbv (zbC hx1 hb) 1).trans rfl,(zbv (zbC hx1 hb) 2).trans rfl⟩,zbC hx2 hb,zbx hbw hb⟩⟩
 clear hbw hx0 hx1 hx2
 refine zcM (n:=12) (S:=fun w'=>(w'.cell? ⟨W.heap.size,0,none⟩=some (.bool X.1)∧w'.cell? ⟨W.heap.size,1,none⟩=some (u1)∧w'.cell? ⟨W.heap.size,2,none⟩=some (u2)∧w'.cell? ⟨W.heap.size+1,0,none⟩=some (.bool Y.1)∧w'.cell? ⟨W.heap.size+1,1,none⟩=some (v1)∧w'.cell? ⟨W.heap.size+1,2,none⟩=some (v2))) (ds:=[]) #[zf,zf,zf,zf,zf,zf,zf,zf,zf,zf,zf,zf] (by kernel_rfl) rfl rfl ((HF.out _ (zbu (Below.refl _ _))).1) (fun hHeld=>?_)
 have hb0:=Aside0.mk (show Below W0.heap.size W0 W0.drew from zbu (Below.refl _ _))
 generalize W0.drew=V0 at hb0 hHeld ⊢
 refine zcA refadd.tab1 refadd.bits1 (fun HT_ HW_=>?_)
 refine zbS (i:=0) (N:=some 12) (v:=?_) (a':=?_) #[zt,zf,zf,zf,zf,zf,zf,zf,zf,zf,zf,zf] rfl rfl (zbP HT_.out (by kernel_rfl)) (fun _ _ _ h=>h) (Or.inl ⟨by rfl,?_⟩) ?_ ?_
 rotate_left
 ·
  intro w'
  go_simp
  with_reducible rfl
 rotate_left
 ·
  simp only [Act.put,zA1,zA2,zA3,zbI,zbJ]
  rfl
 refine zbS (i:=2) (N:=some 14) (v:=?_) (a':=?_) #[zt,zf,zt,zf,zf,zf,zf,zf,zf,zf,zf,zf] rfl rfl (zbP HT_.out (by kernel_rfl)) (fun _ _ _ h=>h) (Or.inl ⟨by rfl,?_⟩) ?_ ?_
 rotate_left
 ·
  intro w'
  go_simp
  with_reducible rfl
 rotate_left
 ·
  simp only [Act.put,zA1,zA2,zA3,zbI,zbJ]
  rfl
 refine zbS (i:=5) (N:=some 17) (v:=?_) (a':=?_) #[zt,zf,zt,zf,zf,zt,zf,zf,zf,zf,zf,zf] rfl rfl (zbP HT_.out (by kernel_rfl)) (fun _ _ _ h=>h) (Or.inl ⟨by rfl,?_⟩) ?_ ?_
 rotate_left
 ·
  intro w'
  go_simp
  with_reducible rfl
 rotate_left
 ·
  simp only [Act.put,zA1,zA2,zA3,zbI,zbJ]
  rfl
 refine zbS (i:=7) (N:=some 19) (v:=?_) (a':=?_) #[zt,zf,zt,zf,zf,zt,zf,zt,zf,zf,zf,zf] rfl rfl (zbP HT_.out (by kernel_rfl)) (fun _ _ _ h=>h) (Or.inl ⟨by rfl,?_⟩) ?_ ?_
 rotate_left
 ·
  intro w'
  go_simp
  with_reducible rfl
 rotate_left
 ·
  simp only [Act.put,zA1,zA2,zA3,zbI,zbJ]
  rfl
 refine take_ (i:=1) (N:=some 13) (v:=?_) (a':=?_) #[zt,zt,zt,zf,zf,zt,zf,zt,zf,zf,zf,zf] rfl rfl (zbY HT_.out HW_.out (by kernel_rfl)) (fun _ _ _ h=>h) (Or.inl ⟨by rfl,?_⟩) hHeld ?_ ?_
 rotate_left
 ·
  intro w' s0
  go_simp
  with_reducible rfl
 rotate_left
 ·
  simp only [Act.put,zA1,zA2,zA3,zbI,zbJ]
  rfl
 refine take_ (i:=3) (N:=some 15) (v:=?_) (a':=?_) #[zt,zt,zt,zt,zf,zt,zf,zt,zf,zf,zf,zf] rfl rfl (zbY HT_.out HW_.out (by kernel_rfl)) (fun _ _ _ h=>h) (Or.inl ⟨by rfl,?_⟩) hHeld ?_ ?_
 rotate_left
 ·
  intro w' s0
  go_simp
  with_reducible rfl
 rotate_left
 ·
  simp only [Act.put,zA1,zA2,zA3,zbI,zbJ]
  rfl
 refine take_ (i:=6) (N:=some 18) (v:=?_) (a':=?_) #[zt,zt,zt,zt,zf,zt,zt,zt,zf,zf,zf,zf] rfl rfl (zbY HT_.out HW_.out (by kernel_rfl)) (fun _ _ _ h=>h) (Or.inl ⟨by rfl,?_⟩) hHeld ?_ ?_
 rotate_left
 ·
  intro w' s0
  go_simp
  with_reducible rfl
 rotate_left
 ·
  simp only [Act.put,zA1,zA2,zA3,zbI,zbJ]
  rfl
 refine take_ (i:=8) (N:=some 20) (v:=?_) (a':=?_) #[zt,zt,zt,zt,zf,zt,zt,zt,zt,zf,zf,zf] rfl rfl (zbY HT_.out HW_.out (by kernel_rfl)) (fun _ _ _ h=>h) (Or.inl ⟨by rfl,?_⟩) hHeld ?_ ?_
 rotate_left
 ·
  intro w' s0
  go_simp
  with_reducible rfl
 rotate_left
 ·
  simp only [Act.put,zA1,zA2,zA3,zbI,zbJ]
  rfl
 refine zct (i:=4) (N:=some 16) #[zt,zt,zt,zt,zt,zt,zt,zt,zt,zf,zf,zf] rfl rfl (zbZ HT_.out (by kernel_rfl)) (by decide) (fun K hK=>?_)
 refine zb8 Try.func73 (by kernel_rfl) rfl #[u1,v2] (by rfl) rfl rfl (by (try simp only [List.map_toArray,List.map_cons,List.map_nil]); first | done | rfl) ?_
 refine(nmul_n (HU1.out.below (HF.out _ hb0.out).2.2) (HV2.out.below (HF.out _ hb0.out).2.2) K1.out.1 K1.out.2.1 K1.out.2.2.1).mono ?_
 rintro e V1 ⟨f4,rfl,hD,hB⟩
 refine⟨_,rfl,?_⟩
 have HD1:=Aside0.mk hD
 have hb1:=Aside0.mk (zbx hb0.out hB)
 clear hB hb0 hD
 refine hK.out _ _ ((HF.out _ hb1.out).1) (fun hHeld=>?_)
 clear hK K
 refine zbR (a':=?_) ?_ ?_
 rotate_left
 ·
  show Act.put _ (some 16) _=_
  simp only [Act.put,zA1,zA2,zA3,zbI,zbJ]
  rfl
 refine zct (i:=9) (N:=some 21) #[zt,zt,zt,zt,zt,zt,zt,zt,zt,zt,zf,zf] rfl rfl (zbZ HT_.out (by kernel_rfl)) (by decide) (fun K hK=>?_)
 refine zb8 Try.func73 (by kernel_rfl) rfl #[v1,u2] (by rfl) rfl rfl (by (try simp only [List.map_toArray,List.map_cons,List.map_nil]); first | done | rfl) ?_
 refine(nmul_n (HV1.out.below (HF.out _ hb1.out).2.2) (HU2.out.below (HF.out _ hb1.out).2.2) K2.out.1 K2.out.2.1 K2.out.2.2.1).mono ?_
 rintro e V2 ⟨f9,rfl,hD,hB⟩
 refine⟨_,rfl,?_⟩
 replace HD1:=Aside0.mk (HD1.out.below hB)
 have HD2:=Aside0.mk hD
 have hb2:=Aside0.mk (zbx hb1.out hB)
 clear hB hb1 hD
 refine hK.out _ _ ((HF.out _ hb2.out).1) (fun hHeld=>?_)
 clear hK K
 refine zbR (a':=?_) ?_ ?_
 rotate_left
 ·
  show Act.put _ (some 21) _=_
  simp only [Act.put,zA1,zA2,zA3,zbI,zbJ]
  rfl
 refine zbS (i:=10) (N:=some 5) (v:=?_) (a':=?_) #[zt,zt,zt,zt,zt,zt,zt,zt,zt,zt,zt,zf] rfl rfl (zbP HT_.out (by kernel_rfl)) (fun _ _ _ h=>h) (Or.inl ⟨by rfl,?_⟩) ?_ ?_
 rotate_left
 ·
  intro w'
  go_simp
  with_reducible rfl
 rotate_left
 ·
  simp only [Act.put,zA1,zA2,zA3,zbI,zbJ]
  rfl
 refine zbS (i:=11) (N:=some 6) (v:=?_) (a':=?_) #[zt,zt,zt,zt,zt,zt,zt,zt,zt,zt,zt,zt] rfl rfl (zbP HT_.out (by kernel_rfl)) (fun _ _ _ h=>h) (Or.inl ⟨by rfl,?_⟩) ?_ ?_
 rotate_left
 ·
  intro w'
  go_simp
  with_reducible rfl
 rotate_left
 ·
  simp only [Act.put,zA1,zA2,zA3,zbI,zbJ]
  rfl
 refine done_ (done_of HT_.out (by kernel_rfl)) ?_
 clear hHeld
 obtain⟨⟨c00,c01,c02,c10,c11,c12⟩,hz,-⟩:=HF.out _ hb2.out
 go_wp2_with fail
 clear hz c00 c01 c02 c10 c11 c12
 refine(nmul_n (HU2.out.below (HF.out _ hb2.out).2.2) (HV2.out.below (HF.out _ hb2.out).2.2) K3.out.1 K3.out.2.1 K3.out.2.2.1).mono ?_
 rintro e V3 ⟨f7,rfl,hD,hB⟩
 replace HD1:=Aside0.mk (HD1.out.below hB)
 replace HD2:=Aside0.mk (HD2.out.below hB)
 have HD3:=Aside0.mk hD
 have hb3:=Aside0.mk (zbx hb2.out hB)
 clear hB hb2 hD
 obtain⟨⟨c00,c01,c02,c10,c11,c12⟩,hz,-⟩:=HF.out _ hb3.out
 cases h1:(X.1 == Y.1) with
 | true =>
  go_wp2_with fail
  clear hz c00 c01 c02 c10 c11 c12
  refine zcM (n:=8) (S:=fun w'=>(w'.cell? ⟨W.heap.size,0,none⟩=some (.bool X.1)∧w'.cell? ⟨W.heap.size,1,none⟩=some (u1)∧w'.cell? ⟨W.heap.size,2,none⟩=some (u2)∧w'.cell? ⟨W.heap.size+1,0,none⟩=some (.bool Y.1)∧w'.cell? ⟨W.heap.size+1,1,none⟩=some (v1)∧w'.cell? ⟨W.heap.size+1,2,none⟩=some (v2))) (ds:=[7]) #[zf,zf,zf,zf,zf,zf,zf,zf] (by kernel_rfl) rfl rfl ((HF.out _ (zbu hb3.out)).1) (fun hHeld=>?_)
  have hc0:=Aside0.mk (zbu hb3.out)
  replace HD1:=Aside0.mk (HD1.out.below (zbu (Below.refl _ _)))
  replace HD2:=Aside0.mk (HD2.out.below (zbu (Below.refl _ _)))
  replace HD3:=Aside0.mk (HD3.out.below (zbu (Below.refl _ _)))
  generalize V3.drew=U0 at hc0 hHeld HD1 HD2 HD3 ⊢
  refine zcA refadd.tab4 refadd.bits4 (fun HT_ HW_=>?_)
  refine zbS (i:=0) (N:=some 32) (v:=?_) (a':=?_) #[zt,zf,zf,zf,zf,zf,zf,zf] rfl rfl (zbP HT_.out (by kernel_rfl)) (fun _ _ _ h=>h) (Or.inl ⟨by rfl,?_⟩) ?_ ?_
  rotate_left
  ·
   intro w'
   go_simp
   with_reducible rfl
  rotate_left
  ·
   simp only [Act.put,zA1,zA2,zA3,zbI,zbJ]
   rfl
  refine zbS (i:=2) (N:=some 34) (v:=?_) (a':=?_) #[zt,zf,zt,zf,zf,zf,zf,zf] rfl rfl (zbP HT_.out (by kernel_rfl)) (fun _ _ _ h=>h) (Or.inl ⟨by rfl,?_⟩) ?_ ?_
  rotate_left
  ·
   intro w'
   go_simp
   with_reducible rfl
  rotate_left
  ·
   simp only [Act.put,zA1,zA2,zA3,zbI,zbJ]
   rfl
  refine zbS (i:=3) (N:=some 35) (v:=?_) (a':=?_) #[zt,zf,zt,zt,zf,zf,zf,zf] rfl rfl (zbP HT_.out (by kernel_rfl)) (fun _ _ _ h=>h) (Or.inl ⟨by rfl,?_⟩) ?_ ?_
  rotate_left
  ·
   intro w'
   go_simp
   with_reducible rfl
  rotate_left
  ·
   simp only [Act.put,zA1,zA2,zA3,zbI,zbJ]
   rfl
  refine zbS (i:=5) (N:=some 37) (v:=?_) (a':=?_) #[zt,zf,zt,zt,zf,zt,zf,zf] rfl rfl (zbP HT_.out (by kernel_rfl)) (fun _ _ _ h=>h) (Or.inl ⟨by rfl,?_⟩) ?_ ?_
  rotate_left
  ·
   intro w'
   go_simp
   with_reducible rfl
  rotate_left
  ·
   simp only [Act.put,zA1,zA2,zA3,zbI,zbJ]
   rfl
  refine take_ (i:=1) (N:=some 33) (v:=?_) (a':=?_) #[zt,zt,zt,zt,zf,zt,zf,zf] rfl rfl (zbY HT_.out HW_.out (by kernel_rfl)) (fun _ _ _ h=>h) (Or.inl ⟨by rfl,?_⟩) hHeld ?_ ?_
  rotate_left
  ·
   intro w' s0
   go_simp
   with_reducible rfl
  rotate_left
  ·
   simp only [Act.put,zA1,zA2,zA3,zbI,zbJ]
   rfl
  refine zct (i:=4) (N:=some 36) #[zt,zt,zt,zt,zt,zt,zf,zf] rfl rfl (zbZ HT_.out (by kernel_rfl)) (by decide) (fun K hK=>?_)
  refine zb8 Try.func66 (by kernel_rfl) rfl #[f4,f9] (by rfl) rfl rfl (by (try simp only [List.map_toArray,List.map_cons,List.map_nil]); first | done | rfl) ?_
  refine(nadd_n HD1.out HD2.out K4.out.1.sm).mono ?_
  rintro e U1 ⟨f5,rfl,hD,hB⟩
  refine⟨_,rfl,?_⟩
  replace HD1:=Aside0.mk (HD1.out.below hB)
  replace HD2:=Aside0.mk (HD2.out.below hB)
  replace HD3:=Aside0.mk (HD3.out.below hB)
  have HD4:=Aside0.mk hD
  have hc1:=Aside0.mk (zbx hc0.out hB)
  clear hB hc0 hD
  refine hK.out _ _ ((HF.out _ hc1.out).1) (fun hHeld=>?_)
  clear hK K
  refine zbR (a':=?_) ?_ ?_
  rotate_left
  ·
   show Act.put _ (some 36) _=_
   simp only [Act.put,zA1,zA2,zA3,zbI,zbJ]
   rfl
  refine zct (i:=6) (N:=some 38) #[zt,zt,zt,zt,zt,zt,zt,zf] rfl rfl (zbZ HT_.out (by kernel_rfl)) (by decide) (fun K hK=>?_)
  refine zb8 Try.func25 (by kernel_rfl) rfl #[.bool X.1,f5,f7] (by rfl) rfl rfl (by (try simp only [List.map_toArray,List.map_cons,List.map_nil]); first | done | rfl) ?_
  refine(ref_make_n HD4.out HD3.out K4.out.1 K3.out.2.2.2).mono ?_
  rintro e U2 ⟨_,rfl,⟨m1,m2,rfl,R1,R2⟩,hB⟩
  obtain⟨M1,d1,rfl⟩:=Kd.R_slice R1
  obtain⟨M2,d2,rfl⟩:=Kd.R_slice R2
  refine⟨_,rfl,?_⟩
  clear HD1 HD2 HD3 HD4
  have HR1:=Aside0.mk (Kd.R_lower R1 (HF.out _ hc1.out).2.2.size)
  have HR2:=Aside0.mk (Kd.R_lower R2 (HF.out _ hc1.out).2.2.size)
  have hc2:=Aside0.mk (zbx hc1.out hB)
  clear hB hc1 R1 R2
  refine hK.out _ _ ((HF.out _ hc2.out).1) (fun hHeld=>?_)
  clear hK K
  refine zbR (a':=?_) ?_ ?_
  rotate_left
  ·
   show Act.put _ (some 38) _=_
   simp only [Act.put,zA1,zA2,zA3,zbI,zbJ]
   rfl
  refine last_ (i:=7) (N:=none) #[zt,zt,zt,zt,zt,zt,zt,zt] rfl rfl (zbZ HT_.out (by kernel_rfl)) (by decide) (fun K hK=>?_)
  obtain⟨⟨x0,x1,x2⟩,y0,y1,y2⟩:=zbK (HF.out _ hc2.out).2.1
  refine skip_ (w1:=?_) (by rfl) rfl ?_ ?_
  rotate_left
  ·
   go_simp
   rfl
  refine hK.out _ _ ?_
  clear hK K
  refine done_ (done_of HT_.out (by kernel_rfl)) ?_
  clear hHeld
  go_wp2
  rw [add_first h1]
  refine bodyPost_ret (results_cell_row rfl _ _ (W.heap.size+1+1) 36 _ (0,0) _ rfl (zb1 (HF.out _ hc2.out).2.1 _ _ _) Try.underlying36 rfl (by kernel_rfl)) rfl ?_
  exact⟨_,rfl,⟨_,_,rfl,Kd.R_mono (zcE HR1.out (HF.out _ hc2.out).2.1 _ _ _) (fun _ _=>trivial),Kd.R_mono (zcE HR2.out (HF.out _ hc2.out).2.1 _ _ _) (fun _ _=>trivial)⟩,zbU (HF.out _ hc2.out).2.2 (by omega) _ _ _⟩
 | false =>
  go_wp2_with fail
  by_cases hlt:X.2.1*Y.2.2 < Y.2.1*X.2.2
  ·
   have HC:=Aside0.mk (ncmp_n HD1.out HD2.out K1.out.2.2.1)
   rw [show cmpN (X.2.1*Y.2.2) (Y.2.1*X.2.2)=-1 from if_pos hlt] at HC
   clear hz c00 c01 c02 c10 c11 c12
   refine(HC.out).mono ?_
   rintro e V4 ⟨rfl,hB⟩
   replace HD1:=Aside0.mk (HD1.out.below hB)
   replace HD2:=Aside0.mk (HD2.out.below hB)
   replace HD3:=Aside0.mk (HD3.out.below hB)
   have hb4:=Aside0.mk (zbx hb3.out hB)
   clear hB hb3
   obtain⟨⟨c00,c01,c02,c10,c11,c12⟩,hz,-⟩:=HF.out _ hb4.out
   clear HC
   go_wp2_with fail
   clear hz c00 c01 c02 c10 c11 c12
   refine(nsub_n HD2.out HD1.out K2.out.2.2.1 (Nat.le_of_lt hlt)).mono ?_
   rintro e V5 ⟨f6,rfl,hD,hB⟩
   replace HD3:=Aside0.mk (HD3.out.below hB)
   have HD4:=Aside0.mk hD
   have hb5:=Aside0.mk (zbx hb4.out hB)
   clear hB hb4 hD
   obtain⟨⟨c00,c01,c02,c10,c11,c12⟩,hz,-⟩:=HF.out _ hb5.out
   go_wp2_with fail
   clear hz c00 c01 c02 c10 c11 c12
   refine(ref_make_n HD4.out HD3.out K4.out.2.2 K3.out.2.2.2).mono ?_
   rintro e V6 ⟨_,rfl,⟨m1,m2,rfl,R1,R2⟩,hB⟩
   obtain⟨M1,d1,rfl⟩:=Kd.R_slice R1
   obtain⟨M2,d2,rfl⟩:=Kd.R_slice R2
   have HR1:=Aside0.mk (Kd.R_lower R1 (HF.out _ hb5.out).2.2.size)
   have HR2:=Aside0.mk (Kd.R_lower R2 (HF.out _ hb5.out).2.2.size)
   have hb6:=Aside0.mk (zbx hb5.out hB)
   clear hB hb5 R1 R2
   obtain⟨⟨c00,c01,c02,c10,c11,c12⟩,hz,-⟩:=HF.out _ hb6.out
   obtain⟨⟨x0,x1,x2⟩,y0,y1,y2⟩:=zbK hz
   go_wp2
   rw [add_third h1 hlt]
   refine bodyPost_ret (results_cell_row rfl _ _ (W.heap.size+1+1) 36 _ (0,0) _ rfl (zb1 (HF.out _ hb6.out).2.1 _ _ _) Try.underlying36 rfl (by kernel_rfl)) rfl ?_
   exact⟨_,rfl,⟨_,_,rfl,Kd.R_mono (zcE HR1.out (HF.out _ hb6.out).2.1 _ _ _) (fun _ _=>trivial),Kd.R_mono (zcE HR2.out (HF.out _ hb6.out).2.1 _ _ _) (fun _ _=>trivial)⟩,zbU (HF.out _ hb6.out).2.2 (by omega) _ _ _⟩
  ·
   have HC:=Aside0.mk (ncmp_n HD1.out HD2.out K1.out.2.2.1)
   obtain⟨c,hc,hc0⟩:∃ c,cmpN (X.2.1*Y.2.2) (Y.2.1*X.2.2)=c∧0≤c:=⟨_,rfl,by unfold cmpN; rw [if_neg hlt]; split<;>decide⟩
   rw [hc] at HC
   have hcd:decide (c ≥ 0)=true:=decide_eq_true hc0
   clear hz c00 c01 c02 c10 c11 c12
   refine(HC.out).mono ?_
   rintro e V4 ⟨rfl,hB⟩
   replace HD1:=Aside0.mk (HD1.out.below hB)
   replace HD2:=Aside0.mk (HD2.out.below hB)
   replace HD3:=Aside0.mk (HD3.out.below hB)
   have hb4:=Aside0.mk (zbx hb3.out hB)
   clear hB hb3
   obtain⟨⟨c00,c01,c02,c10,c11,c12⟩,hz,-⟩:=HF.out _ hb4.out
   clear HC
   go_wp2_with fail
   clear hz c00 c01 c02 c10 c11 c12
   refine(nsub_n HD1.out HD2.out K1.out.2.2.1 (Nat.le_of_not_lt hlt)).mono ?_
   rintro e V5 ⟨f6,rfl,hD,hB⟩
   replace HD3:=Aside0.mk (HD3.out.below hB)
   have HD4:=Aside0.mk hD
   have hb5:=Aside0.mk (zbx hb4.out hB)
   clear hB hb4 hD
   obtain⟨⟨c00,c01,c02,c10,c11,c12⟩,hz,-⟩:=HF.out _ hb5.out
   go_wp2_with fail
   clear hz c00 c01 c02 c10 c11 c12
   refine(ref_make_n HD4.out HD3.out K4.out.2.1 K3.out.2.2.2).mono ?_
   rintro e V6 ⟨_,rfl,⟨m1,m2,rfl,R1,R2⟩,hB⟩
   obtain⟨M1,d1,rfl⟩:=Kd.R_slice R1
   obtain⟨M2,d2,rfl⟩:=Kd.R_slice R2
   have HR1:=Aside0.mk (Kd.R_lower R1 (HF.out _ hb5.out).2.2.size)
   have HR2:=Aside0.mk (Kd.R_lower R2 (HF.out _ hb5.out).2.2.size)
   have hb6:=Aside0.mk (zbx hb5.out hB)
   clear hB hb5 R1 R2
   obtain⟨⟨c00,c01,c02,c10,c11,c12⟩,hz,-⟩:=HF.out _ hb6.out
   obtain⟨⟨x0,x1,x2⟩,y0,y1,y2⟩:=zbK hz
   go_wp2
   rw [add_second h1 hlt]
   refine bodyPost_ret (results_cell_row rfl _ _ (W.heap.size+1+1) 36 _ (0,0) _ rfl (zb1 (HF.out _ hb6.out).2.1 _ _ _) Try.underlying36 rfl (by kernel_rfl)) rfl ?_
   exact⟨_,rfl,⟨_,_,rfl,Kd.R_mono (zcE HR1.out (HF.out _ hb6.out).2.1 _ _ _) (fun _ _=>trivial),Kd.R_mono (zcE HR2.out (HF.out _ hb6.out).2.1 _ _ _) (fun _ _=>trivial)⟩,zbU (HF.out _ hb6.out).2.2 (by omega) _ _ _⟩
def refsub.T1:Bool×List (List Nat×List Nat):=(true,[([],[]),([],[]),([1],[1]),([0,2,2],[0,2]),([3,3,0,1,2,3],[3])])
def refsub.B1:List Nat:=[0,0,2,7,15]
theorem refsub.tab1:rtab .any (opsOf Try.f32 1)=refsub.T1:=by kernel_rfl
theorem refsub.bits1:zcI refsub.T1.2 refsub.B1=true:=by kernel_rfl
set_option maxHeartbeats 4000000 in
set_option maxRecDepth 100000 in
theorem refsub_n {W:World} {u v:Value} {X Y:QN} (hu:QD W u X) (hv:QD W v Y) (hY:red Y) (kX:lim 200 X) (kY:lim 200 Y) :
  Calls Try.prog 32 #[u,v] W (QTPost W (addQ X (ngt Y))):=by
 have hu36:=Try.underlying36
 have HR:=Aside0.mk hY
 have KX:=Aside0.mk kX
 have KY:=Aside0.mk (lim_ngt kY)
 clear hY kX kY
 obtain⟨u1,u2,rfl,hu1,hu2⟩:=hu
 have HU1:=Aside0.mk hu1
 have HU2:=Aside0.mk hu2
 obtain⟨v1,v2,rfl,hv1,hv2⟩:=hv
 have HV1:=Aside0.mk hv1
 have HV2:=Aside0.mk hv2
 clear hu1 hu2 hv1 hv2
 go_enter Try.func32,Try.ntmps32
 go_wp2_with fail
 have hx0:=zby (zby (zb3 W (.cells #[.bool X.1,u1,u2] 36)) (.cells #[.bool Y.1,v1,v2] 36)) (.cells #[.bool false,.slice none 0 0,.slice none 0 0] 36)
 have hx1:=zby (zb3 (W.alloc (.cells #[.bool X.1,u1,u2] 36)) (.cells #[.bool Y.1,v1,v2] 36)) (.cells #[.bool false,.slice none 0 0,.slice none 0 0] 36)
 rw [show (W.alloc (.cells #[.bool X.1,u1,u2] 36)).heap.size=W.heap.size+1 by simp] at hx1
 have hx2:=zb3 ((W.alloc (.cells #[.bool X.1,u1,u2] 36)).alloc (.cells #[.bool Y.1,v1,v2] 36)) (.cells #[.bool false,.slice none 0 0,.slice none 0 0] 36)
 rw [show ((W.alloc (.cells #[.bool X.1,u1,u2] 36)).alloc (.cells #[.bool Y.1,v1,v2] 36)).heap.size=W.heap.size+1+1 by simp] at hx2
 have hbw:Below W.heap.size W (((W.alloc (.cells #[.bool X.1,u1,u2] 36)).alloc (.cells #[.bool Y.1,v1,v2] 36)).alloc (.cells #[.bool false,.slice none 0 0,.slice none 0 0] 36)):=zbt (zbt (zbt (Below.refl _ _) _) _) _
 generalize ((W.alloc (.cells #[.bool X.1,u1,u2] 36)).alloc (.cells #[.bool Y.1,v1,v2] 36)).alloc (.cells #[.bool false,.slice none 0 0,.slice none 0 0] 36)=W0 at hx0 hx1 hx2 hbw ⊢
 have HF:Aside0 (∀ w':World,Below W0.heap.size W0 w'→(w'.cell? ⟨W.heap.size,0,none⟩=some (.bool X.1)∧w'.cell? ⟨W.heap.size,1,none⟩=some (u1)∧w'.cell? ⟨W.heap.size,2,none⟩=some (u2)∧w'.cell? ⟨W.heap.size+1,0,none⟩=some (.bool Y.1)∧w'.cell? ⟨W.heap.size+1,1,none⟩=some (v1)∧w'.cell? ⟨W.heap.size+1,2,none⟩=some (v2))∧w'.heap[W.heap.size+1+1]? = some (.cells #[.bool false,.slice none 0 0,.slice none 0 0] 36 (0,0))∧Below W.heap.size W w'):=⟨fun w' hb=>⟨⟨(zbv (zbC hx0 hb) 0).trans rfl,(zbv (zbC hx0 hb) 1).trans rfl,(zbv (zbC hx0 hb) 2).trans rfl,(zbv (zbC hx1 hb) 0).trans rfl,(zbv (zbC hx1 hb) 1).trans rfl,(zbv (zbC hx1 hb) 2).trans rfl⟩,zbC hx2 hb,zbx hbw hb⟩⟩
 clear hbw hx0 hx1 hx2
 refine zcM (n:=5) (S:=fun w'=>(w'.cell? ⟨W.heap.size,0,none⟩=some (.bool X.1)∧w'.cell? ⟨W.heap.size,1,none⟩=some (u1)∧w'.cell? ⟨W.heap.size,2,none⟩=some (u2)∧w'.cell? ⟨W.heap.size+1,0,none⟩=some (.bool Y.1)∧w'.cell? ⟨W.heap.size+1,1,none⟩=some (v1)∧w'.cell? ⟨W.heap.size+1,2,none⟩=some (v2))) (ds:=[4]) #[zf,zf,zf,zf,zf] (by kernel_rfl) rfl rfl ((HF.out _ (zbu (Below.refl _ _))).1) (fun hHeld=>?_)
 have hb0:=Aside0.mk (show Below W0.heap.size W0 W0.drew from zbu (Below.refl _ _))
 generalize W0.drew=V0 at hb0 hHeld ⊢
 refine zcA refsub.tab1 refsub.bits1 (fun HT_ HW_=>?_)
 refine take_ (i:=0) (N:=some 5) (v:=?_) (a':=?_) #[zt,zf,zf,zf,zf] rfl rfl (zbY HT_.out HW_.out (by kernel_rfl)) (fun _ _ _ h=>h) (Or.inl ⟨by rfl,?_⟩) hHeld ?_ ?_
 rotate_left
 ·
  intro w' s0
  go_simp
  with_reducible rfl
 rotate_left
 ·
  simp only [Act.put,zA1,zA2,zA3,zbI,zbJ]
  rfl
 refine take_ (i:=1) (N:=some 6) (v:=?_) (a':=?_) #[zt,zt,zf,zf,zf] rfl rfl (zbY HT_.out HW_.out (by kernel_rfl)) (fun _ _ _ h=>h) (Or.inl ⟨by rfl,?_⟩) hHeld ?_ ?_
 rotate_left
 ·
  intro w' s0
  go_simp
  with_reducible rfl
 rotate_left
 ·
  simp only [Act.put,zA1,zA2,zA3,zbI,zbJ]
  rfl
 refine zct (i:=2) (N:=some 7) #[zt,zt,zt,zf,zf] rfl rfl (zbZ HT_.out (by kernel_rfl)) (by decide) (fun K hK=>?_)
 refine zb8 Try.func36 (by kernel_rfl) rfl #[.agg #[.bool Y.1,v1,v2]] (by rfl) rfl rfl (by (try simp only [List.map_toArray,List.map_cons,List.map_nil]); first | done | rfl) ?_
 refine(refneg_n (show QD V0 _ Y from ⟨_,_,rfl,(HV1.out.below (HF.out _ hb0.out).2.2),(HV2.out.below (HF.out _ hb0.out).2.2)⟩) HR.out).mono ?_
 rintro e V1 ⟨f2,rfl,hQ,hB⟩
 refine⟨_,rfl,?_⟩
 have HQ:=Aside0.mk hQ
 have hb1:=Aside0.mk (zbx hb0.out hB)
 clear hB hb0 hQ
 refine hK.out _ _ ((HF.out _ hb1.out).1) (fun hHeld=>?_)
 clear hK K
 refine zbR (a':=?_) ?_ ?_
 rotate_left
 ·
  show Act.put _ (some 7) _=_
  simp only [Act.put,zA1,zA2,zA3,zbI,zbJ]
  rfl
 refine zct (i:=3) (N:=some 8) #[zt,zt,zt,zt,zf] rfl rfl (zbZ HT_.out (by kernel_rfl)) (by decide) (fun K hK=>?_)
 refine zb8 Try.func30 (by kernel_rfl) rfl #[.agg #[.bool X.1,u1,u2],f2] (by rfl) rfl rfl (by (try simp only [List.map_toArray,List.map_cons,List.map_nil]); first | done | rfl) ?_
 refine(refadd_n (show QD V1 _ X from ⟨_,_,rfl,(HU1.out.below (HF.out _ hb1.out).2.2),(HU2.out.below (HF.out _ hb1.out).2.2)⟩) HQ.out KX.out KY.out).mono ?_
 rintro e V2 ⟨_,rfl,⟨m1,m2,rfl,R1,R2⟩,hB⟩
 obtain⟨M1,d1,rfl⟩:=Kd.R_slice R1
 obtain⟨M2,d2,rfl⟩:=Kd.R_slice R2
 refine⟨_,rfl,?_⟩
 clear HQ
 have HR1:=Aside0.mk (Kd.R_lower R1 (HF.out _ hb1.out).2.2.size)
 have HR2:=Aside0.mk (Kd.R_lower R2 (HF.out _ hb1.out).2.2.size)
 have hb2:=Aside0.mk (zbx hb1.out hB)
 clear hB hb1 R1 R2
 refine hK.out _ _ ((HF.out _ hb2.out).1) (fun hHeld=>?_)
 clear hK K
 refine zbR (a':=?_) ?_ ?_
 rotate_left
 ·
  show Act.put _ (some 8) _=_
  simp only [Act.put,zA1,zA2,zA3,zbI,zbJ]
  rfl
 refine last_ (i:=4) (N:=none) #[zt,zt,zt,zt,zt] rfl rfl (zbZ HT_.out (by kernel_rfl)) (by decide) (fun K hK=>?_)
 obtain⟨⟨x0,x1,x2⟩,y0,y1,y2⟩:=zbK (HF.out _ hb2.out).2.1
 refine skip_ (w1:=?_) (by rfl) rfl ?_ ?_
 rotate_left
 ·
  go_simp
  rfl
 refine hK.out _ _ ?_
 clear hK K
 refine done_ (done_of HT_.out (by kernel_rfl)) ?_
 clear hHeld
 go_wp2
 refine bodyPost_ret (results_cell_row rfl _ _ (W.heap.size+1+1) 36 _ (0,0) _ rfl (zb1 (HF.out _ hb2.out).2.1 _ _ _) Try.underlying36 rfl (by kernel_rfl)) rfl ?_
 exact⟨_,rfl,⟨_,_,rfl,Kd.R_mono (zcE HR1.out (HF.out _ hb2.out).2.1 _ _ _) (fun _ _=>trivial),Kd.R_mono (zcE HR2.out (HF.out _ hb2.out).2.1 _ _ _) (fun _ _=>trivial)⟩,zbU (HF.out _ hb2.out).2.2 (by omega) _ _ _⟩
end Go.Proofs.Ytehghijlchpeaaa.Nat1
end
section
namespace Go.Proofs.Ytehghijlchpeaaa.Ev
open Go.RowKit Go.Proofs.YtehghijlchpeaaaW.PrintWords Go.Proofs.YtehghijlchpeaaaW.PrintLast Go.Proofs.YtehghijlchpeaaaW.PrintMore Go.Proofs.Ytehghijlchpeaaa.L Go.Proofs.Ytehghijlchpeaaa.Nt Go.Proofs.Ytehghijlchpeaaa.Nat1
set_option linter.unusedVariables false
set_option linter.unusedSimpArgs false
set_option linter.unusedSectionVars false
theorem short_w {r d:Nat} (hr:r < 2) (hd:d < 10000):wrap64 ((r:Int)*10000)=((r*10000:Nat):Int)∧wrap64 (((r*10000:Nat):Int)+(d:Int))=((r*10000+d:Nat):Int)∧wrap64 (Int.tdiv ((r*10000+d:Nat):Int) 2)=(((r*10000+d) / 2:Nat):Int)∧Int.tmod ((r*10000+d:Nat):Int) 2=(((r*10000+d) % 2:Nat):Int):=by
 refine⟨?_,?_,?_,rfl⟩
 ·
  rw [w64 (by omega) (by omega)]; omega
 ·
  rw [w64 (by omega) (by omega)]; omega
 ·
  rw [show Int.tdiv ((r*10000+d:Nat):Int) 2=(((r*10000+d) / 2:Nat):Int) from rfl,w64 (by omega) (by omega)]
theorem short_n {N:Nat}:∃ r d:Nat,r < 2∧d < 10000∧N / 10000 % 2=r∧N % 10000=d∧(r*10000+d) % 2=N % 2∧(r*10000+d) / 2+10000*(N / 10000 / 2)=N / 2∧(r*10000+d) / 2 < 10000 :=
 ⟨N / 10000 % 2,N % 10000,by omega,by omega,rfl,rfl,by omega,by omega,by omega⟩
theorem short_loop {a:Nat} (ha:sh a) (J:Nat):∀ (q:List Int),J≤(dg 10000 a).length→J≤q.length→q.length≤1099511627776→ok 10000 q→val 10000 (q.drop J)=a / 10000 ^ J / 2 →
  Ev (fun k=>fluxionref01_Short.l0 k (dg 10000 a) 2 q ((a / 10000 ^ J % 2:Nat):Int) ((J:Int)-1)) (dg 10000 (a / 2),((a % 2:Nat):Int)):=by
 have hla:(dg 10000 a).length≤549755813888:=ha
 induction J with
 | zero =>
  intro q _ _ hql hok hv
  rw [Nat.pow_zero,Nat.div_one,List.drop_zero] at hv
  rw [Nat.pow_zero,Nat.div_one]
  obtain⟨k1,h1⟩:=trim_ev (l:=q) (by omega) hok
  dsimp only at h1
  rw [hv] at h1
  refine Ev.succ ⟨k1,fun k hk=>?_⟩
  dsimp only
  rw [fluxionref01_Short.l0,if_neg (by omega),h1 k hk,Option.bind_some]
 | succ j ih =>
  intro q hj hjq hql hok hv
  have ra:=rd_D a j
  rw [zcg] at hv ⊢
  generalize hN:a / 10000 ^ j=N at *
  obtain⟨r,d,hr,hd,er,ed,em,eq,hx⟩:=short_n (N:=N)
  rw [ed] at ra
  rw [er]
  obtain⟨e1,e2,e3,e4⟩:=short_w hr hd
  rw [em] at e4
  generalize (r*10000+d) / 2=x at *
  have hv':val 10000 ((q.set j (x:Int)).drop j)=N / 2:=by
   rw [set_drop q j _ (by omega),zcG,hv,Int.toNat_natCast]
   exact eq
  have hok':ok 10000 (q.set j (x:Int)):=ok_set' hok j ⟨Int.natCast_nonneg x,Int.ofNat_lt.2 hx⟩
  obtain⟨k1,h1⟩:=ih _ (by omega) (by rw [List.length_set]; omega) (by rw [List.length_set]; omega) hok' hv'
  dsimp only at h1
  refine Ev.succ ⟨k1,fun k hk=>?_⟩
  dsimp only
  have ew:wrap64 ((((j+1:Nat):Int)-1)-1)=(j:Int)-1:=by rw [w64 (by omega) (by omega)]; omega
  have ex:(((j+1:Nat):Int)-1)=(j:Int):=by omega
  rw [fluxionref01_Short.l0,ew]
  rw [ex,if_pos (by omega),if_pos (by omega),if_pos (by omega),if_neg (by omega),if_pos (by omega),ra,e1,e2,e3,e4,Int.toNat_natCast]
  exact h1 k hk
theorem short_ev {a:Nat} (ha:sh a):Ev (fun k=>fluxionref01_Short.f k (dg 10000 a) 2) (dg 10000 (a / 2),((a % 2:Nat):Int)):=by
 have hla:(dg 10000 a).length≤549755813888:=ha
 have h0:a / 10000 ^ (dg 10000 a).length=0:=Nat.div_eq_of_lt (lt_dg zch)
 have:=short_loop ha (dg 10000 a).length (List.replicate (dg 10000 a).length 0) (Nat.le_refl _) (by rw [List.length_replicate]; exact Nat.le_refl _) (by rw [List.length_replicate]; omega)
  (fun x hx=>by rw [List.eq_of_mem_replicate hx]; exact⟨by omega,by omega⟩) (by rw [List.drop_eq_nil_of_le (by rw [List.length_replicate]; exact Nat.le_refl _),h0]; rfl)
 rw [h0] at this
 refine Ev.congr this (fun k=>?_)
 rw [fluxionref01_Short.f,if_pos (by omega),Int.toNat_natCast,if_pos (by omega),w64 (by omega) (by omega)]
 rfl
theorem nb_half {n:Nat} (h:0 < n):nb n=nb (n / 2)+1:=by
 unfold nb
 rw [if_neg (by omega),Nat.log2_def]
 by_cases h2:2≤n
 ·
  rw [if_pos h2,if_neg (by omega)]
 ·
  rw [if_neg h2,if_pos (by omega)]
theorem bits_loop (n:Nat):∀ c:Nat,sh n→nb n+c≤4611686018427387904→Ev (fun k=>fluxionref01_Bits.l0 k (dg 10000 n) (c:Int)) ((nb n+c:Nat):Int):=by
 induction n using Nat.strongRecOn with
 | ind n ih =>
  intro c hs hc
  have hl:=len_pos (n:=n)
  by_cases h:0 < n
  ·
   have e:=nb_half h
   obtain⟨k1,h1⟩:=short_ev hs
   obtain⟨k2,h2⟩:=ih (n / 2) (by omega) (c+1) (sh_le hs (Nat.div_le_self _ _)) (by omega)
   dsimp only at h1 h2
   refine Ev.succ ⟨k1+k2,fun k hk=>?_⟩
   dsimp only
   rw [fluxionref01_Bits.l0,if_pos (by omega),h1 k (by omega),Option.bind_some,w_succ (by omega)]
   have:=h2 k (by omega)
   rw [show nb n+c=nb (n / 2)+(c+1) by omega]
   exact this
  ·
   have h0:n=0:=by omega
   subst h0
   refine Ev.succ (Ev.congr (Ev.some _) (fun k=>?_))
   rw [fluxionref01_Bits.l0,if_neg (by omega)]
   congr 1
   unfold nb
   simp
theorem nb_lt {n k:Nat} (h:n < 2 ^ k):nb n≤k:=by
 unfold nb
 split
 ·
  omega
 ·
  rename_i h0
  have:=(Nat.log2_lt h0).2 h
  omega
theorem nb_lt2 {n m:Nat} (h:n < B32 ^ m):nb n≤32*m:=nb_lt (by rw [← pow32]; exact h)
theorem bitsR_ev {X:QN} (h:lim 200 X):Ev (fun k=>fluxionref03_Bits.f k X.1 (dg 10000 X.2.1) (dg 10000 X.2.2)) (mx (nb X.2.1:Int) (nb X.2.2:Int)):=by
 have n1:=nb_lt2 h.1
 have n2:=nb_lt2 h.2
 obtain⟨k1,h1⟩:=bits_loop X.2.1 0 (sh_pow h.1 (by decide)) (by omega)
 obtain⟨k2,h2⟩:=bits_loop X.2.2 0 (sh_pow h.2 (by decide)) (by omega)
 dsimp only at h1 h2
 refine⟨k1+k2,fun k hk=>?_⟩
 dsimp only
 have g1:fluxionref01_Bits.f k (dg 10000 X.2.1)=some (nb X.2.1:Int):=h1 k (by omega)
 have g2:fluxionref01_Bits.f k (dg 10000 X.2.2)=some (nb X.2.2:Int):=h2 k (by omega)
 rw [fluxionref03_Bits.f,g1,Option.bind_some,g2,Option.bind_some]
end Go.Proofs.Ytehghijlchpeaaa.Ev
namespace Go.Proofs.Ytehghijlchpeaaa.Nat1
open Go.RowKit Go.Proofs.YtehghijlchpeaaaW.PrintWords Go.Proofs.YtehghijlchpeaaaW.PrintLast Go.Proofs.YtehghijlchpeaaaW.PrintMore Go.Proofs.Ytehghijlchpeaaa.L Go.Proofs.Ytehghijlchpeaaa.Nt Go.Proofs.Ytehghijlchpeaaa.Ev
theorem refbits_n {W:World} {u:Value} {X:QN} (hu:QD W u X) (h:lim 200 X):Calls Try.prog 47 #[u] W fun e w'=>e=.returned (.int .i64 (mx (nb X.2.1:Int) (nb X.2.2:Int)))∧Below W.heap.size W w':=by
 obtain⟨v1,v2,rfl,⟨A1,c1,rfl,a1,b1⟩,⟨A2,c2,rfl,a2,b2⟩⟩:=hu
 obtain⟨k,hk⟩:=bitsR_ev h
 exact fluxionref03_Bits.calls k X.1 A1 c1 _ A2 c2 _ _ W a1 b1 a2 b2 (hk k (Nat.le_refl _))
theorem refsign_n {W:World} {u:Value} {X:QN} (hu:QD W u X):Calls Try.prog 45 #[u] W fun e w'=>e=.returned (.int .i64 (sgnQ X))∧Below W.heap.size W w':=by
 obtain⟨v1,v2,rfl,⟨A1,c1,rfl,a1,b1⟩,⟨A2,c2,rfl,a2,b2⟩⟩:=hu
 refine fluxionref03_Sign.calls X.1 A1 c1 _ A2 c2 _ _ W a1 b1 a2 b2 ?_
 have:=len_pos (n:=X.2.1)
 unfold fluxionref03_Sign.f fluxionref03_Zero.f sgnQ
 rw [Option.bind_some]
 by_cases h:X.2.1=0
 ·
  rw [if_pos h,h,D_zero,if_pos (by rfl)]
 ·
  rw [if_neg h,if_neg (by rw [beq_iff_eq]; omega)]
  split<;>rfl
end Go.Proofs.Ytehghijlchpeaaa.Nat1
end
section
namespace Go.Proofs.Ytehghijlchpeaaa.Nt
theorem zero_red {Z:QN} (h:red Z) (h0:Z.2.1=0):Z=(false,0,1):=by
 obtain⟨n,a,b⟩:=Z
 have h1:=h.cop
 have h2:=h.zero h0
 simp only [] at h0 h1 h2
 subst h0
 rw [Nat.gcd_zero_left] at h1
 rw [h1,h2]
theorem cmpQ_zero {x y:QN} (hx:red x) (hy:red y):(sgnQ (addQ x (ngt y)) == 0)=decide (x=y):=by
 have hz:=red_add x (ngt y)
 by_cases h:x=y
 ·
  subst h
  rw [addQ_ngt hx,decide_eq_true rfl]
  rfl
 ·
  rw [decide_eq_false h,beq_eq_false_iff_ne]
  intro e
  have h0:(addQ x (ngt y)).2.1=0:=by
   unfold sgnQ at e
   split at e
   ·
    assumption
   ·
    split at e<;>exact absurd e (by decide)
  have e1:=congrArg toR (zero_red hz h0)
  rw [toR_add hx (red_ngt hy),toR_ngt] at e1
  have e2:toR ((false,0,1):QN)=0:=Rat.zero_mkRat 1
  rw [e2] at e1
  refine h (toR_inj hx hy ?_)
  have e3:toR x + -toR y+toR y=toR x:=by rw [Rat.add_assoc,Rat.neg_add_cancel,Rat.add_zero]
  rw [e1,Rat.zero_add] at e3
  exact e3.symm
end Go.Proofs.Ytehghijlchpeaaa.Nt
namespace Go.Proofs.Ytehghijlchpeaaa.Nat1
open Go.RowKit Go.Proofs.YtehghijlchpeaaaW.PrintWords Go.Proofs.YtehghijlchpeaaaW.PrintLast Go.Proofs.YtehghijlchpeaaaW.PrintMore Go.Proofs.Ytehghijlchpeaaa.L Go.Proofs.Ytehghijlchpeaaa.Nt Go.Proofs.Ytehghijlchpeaaa.Ev
set_option linter.unusedVariables false
set_option linter.unusedSimpArgs false
set_option linter.unusedSectionVars false
theorem same_f {X Y:QN} {n m:Bool} {p q r s:List Int} (hp:okS p) (hq:okS q) (hr:okS r) (hs:okS s) (eX:nrm n (val B32 p) (val B32 q)=X) (eY:nrm m (val B32 r) (val B32 s)=Y) (kX:okQ X) (kY:okQ Y):J.rat_Same.f n p q m r s=some (decide (X=Y)):=by
 have h1:=okQ_D kX
 have h2:=okQ_D kY
 have inj:∀ a b:Nat,dg B32 a=dg B32 b→a=b:=fun a b e=>by have:=congrArg (val B32) e; rwa [zbX zbE,zbX zbE] at this
 unfold J.rat_Same.f
 rw [norm_f hp.okD hq.okD,Option.bind_some,norm_f hr.okD hs.okD,Option.bind_some,eX,eY]
 simp only []
 obtain⟨x0,x1,x2⟩:=X
 obtain⟨y0,y1,y2⟩:=Y
 simp only [] at h1 h2 ⊢
 by_cases e0:x0=y0
 ·
  rw [if_pos (by rw [e0]; simp),limbs_f h1.1 h2.1,Option.bind_some]
  by_cases e1:x1=y1
  ·
   rw [if_pos (decide_eq_true (by rw [e1])),limbs_f h1.2 h2.2,Option.bind_some]
   congr 1
   rw [decide_eq_decide]
   constructor
   ·
    intro e
    rw [e0,e1,inj _ _ e]
   ·
    intro e
    injection e with _ e
    injection e with _ e
    rw [e]
  ·
   rw [if_neg (by rw [decide_eq_true_iff]; exact fun e=>e1 (inj _ _ e).symm),decide_eq_false]
   intro e
   injection e with _ e
   injection e with e _
   exact e1 e
 ·
  rw [if_neg (by rw [beq_iff_eq]; exact e0),decide_eq_false]
  intro e
  injection e with e _
  exact e0 e
theorem same_nn {W:World} {u v:Value} {X Y:QN} (hu:NR W u X) (hv:NR W v Y):Calls Try.prog 44 #[u,v] W fun e w'=>e=.returned (.bool (sgnQ (addQ X (ngt Y)) == 0))∧Below W.heap.size W w':=by
 have kX:=hu.okQ
 have kY:=hv.okQ
 rw [cmpQ_zero hu.red hv.red]
 obtain⟨n,A1,c1,p,A2,c2,q,rfl,h1,h2,e1⟩:=hu
 obtain⟨m,A3,c3,r,A4,c4,s,rfl,h3,h4,e2⟩:=hv
 exact J.rat_Same.calls n A1 c1 p A2 c2 q m A3 c3 r A4 c4 s _ W h1.1 h1.2.1 h2.1 h2.2.1 h3.1 h3.2.1 h4.1 h4.2.1 (same_f h1.2.2 h2.2.2 h3.2.2 h4.2.2 e1 e2 kX kY)
set_option maxHeartbeats 1000000 in
set_option maxRecDepth 100000 in
theorem refcmp_n {W:World} {u v:Value} {X Y:QN} (hu:QD W u X) (hv:QD W v Y) (hY:red Y) (kX:lim 200 X) (kY:lim 200 Y):Calls Try.prog 43 #[u,v] W fun e w'=>e=.returned (.int .i64 (sgnQ (addQ X (ngt Y))))∧Below W.heap.size W w':=by
 have hu36:=Try.underlying36
 have HU:=Aside0.mk hu
 have HV:=Aside0.mk hv
 have HK:=Aside0.mk (And.intro hY (And.intro kX kY))
 obtain⟨u1,u2,rfl,g1,g2⟩:=hu
 obtain⟨v1,v2,rfl,g3,g4⟩:=hv
 clear g1 g2 g3 g4 hY kX kY
 go_enter Try.func43,Try.ntmps43
 go_wp2_with fail
 have HB:=Aside0.mk (zbt (zbt (Below.refl W.heap.size W) (.cells #[.bool X.1,u1,u2] 36)) (.cells #[.bool Y.1,v1,v2] 36))
 generalize (W.alloc (.cells #[.bool X.1,u1,u2] 36)).alloc (.cells #[.bool Y.1,v1,v2] 36)=W1 at HB ⊢
 refine(refsub_n (HU.out.below HB.out) (HV.out.below HB.out) HK.out.1 HK.out.2.1 HK.out.2.2).mono ?_
 rintro e W2 ⟨x,rfl,hR,hB⟩
 have HR:=Aside0.mk hR.qd
 have HB2:=Aside0.mk (zbx HB.out hB)
 clear hR hB HB
 go_wp2_with fail
 refine(refsign_n HR.out).mono ?_
 rintro e W3 ⟨rfl,hB⟩
 have HB3:=Aside0.mk (zbx HB2.out hB)
 clear hB HB2
 go_wp2
 go_ret
 exact⟨rfl,HB3.out⟩
end Go.Proofs.Ytehghijlchpeaaa.Nat1
end
section
namespace Go.Proofs.Ytehghijlchpeaaa.Nat1
open Go.RowKit Go.Proofs.YtehghijlchpeaaaW.PrintWords Go.Proofs.YtehghijlchpeaaaW.PrintLast Go.Proofs.YtehghijlchpeaaaW.PrintMore Go.Proofs.Ytehghijlchpeaaa.L Go.Proofs.Ytehghijlchpeaaa.Nt Go.Proofs.Ytehghijlchpeaaa.Ev
set_option linter.unusedVariables false
set_option linter.unusedSimpArgs false
set_option linter.unusedSectionVars false
def ratOrders.T3:Bool×List (List Nat×List Nat):=(true,[([],[]),([0],[0]),([],[]),([2,1],[2]),([],[]),([],[]),([4,1,3,0,1,4,5],[1,4]),([5,3,6,0,1,2,3,4,5,6],[3,5])])
def ratOrders.B3:List Nat:=[0,1,0,7,0,0,63,127]
theorem ratOrders.tab3:rtab .any (opsOf Try.f10 3)=ratOrders.T3:=by kernel_rfl
theorem ratOrders.bits3:zcI ratOrders.T3.2 ratOrders.B3=true:=by kernel_rfl
def ratOrders.T5:Bool×List (List Nat×List Nat):=(true,[([],[]),([0],[0]),([],[]),([2,1],[2]),([1,3,3],[1,3]),([],[]),([4,5],[4,5]),([6,4],[6]),([7],[7]),([7],[7]),([8,9,7,7],[7,8,9]),([7],[7]),([11,7],[7,11]),([10,12,7],[7,10,12]),([7,13],[7,13]),([14,10],[14]),([15],[15]),([16,15,15],[15,16]),([15],[15]),([18,17,15],[15,18]),([17,19,15],[15,17,19]),([15,20],[15,20]),([21,19],[21]),([22],[22]),([23,22,22],[22,23]),([22],[22]),([25,24,22],[22,25]),([24,26,22],[22,24,26]),([22,27],[22,27]),([28,26],[28]),([29,29],[29]),([29,30],[29,30]),([31,30,0,1,2,3,4,5,6,7,8,9,10,11,12,13,14,15,16,17,18,19,20,21,22,23,24,25,26,27,28,29,30,31],[31])])
def ratOrders.B5:List Nat:=[0,1,0,7,15,0,63,127,255,255,1023,255,2303,8191,16383,32767,65535,131071,65535,524287,1048575,2097151,4194303,8388607,16777215,8388607,67108863,134217727,268435455,536870911,1073741823,2147483647,4294967295]
theorem ratOrders.tab5:rtab .any (opsOf Try.f10 5)=ratOrders.T5:=by kernel_rfl
theorem ratOrders.bits5:zcI ratOrders.T5.2 ratOrders.B5=true:=by kernel_rfl
set_option maxHeartbeats 8000000 in
set_option maxRecDepth 100000 in
theorem ratOrders_q (n1:Bool) (Aa1:Option Addr) (ca1:Nat) (p1:List Int) (Ab1:Option Addr) (cb1:Nat) (q1:List Int) (n2:Bool) (Aa2:Option Addr) (ca2:Nat) (p2:List Int) (Ab2:Option Addr) (cb2:Nat) (q2:List Int) (w:World) (hr_p1:Kd.C (Kd.int .u32) w Aa1 p1.length p1) (hc_p1:p1.length≤ca1) (ho_p1:ok B32 p1) (hr_q1:Kd.C (Kd.int .u32) w Ab1 q1.length q1) (hc_q1:q1.length≤cb1) (ho_q1:ok B32 q1) (hr_p2:Kd.C (Kd.int .u32) w Aa2 p2.length p2) (hc_p2:p2.length≤ca2) (ho_p2:ok B32 p2) (hr_q2:Kd.C (Kd.int .u32) w Ab2 q2.length q2) (hc_q2:q2.length≤cb2) (ho_q2:ok B32 q2) :
  Calls Try.prog 10 #[.agg #[.bool n1,.slice Aa1 p1.length ca1,.slice Ab1 q1.length cb1],.agg #[.bool n2,.slice Aa2 p2.length ca2,.slice Ab2 q2.length cb2]] w fun e w'=>e=.returned (.bool true)∧Below w.heap.size w w':=by
 have hu25:=Try.underlying25
 have HF0:=Aside0.mk (fun (g:Nat) (t:TypeId) (W:World) hg (hb:Below w.heap.size w W)=>few_q [(Aa1,ca1,p1),(Ab1,cb1,q1),(Aa2,ca2,p2),(Ab2,cb2,q2)] g t W hg (by
  intro x hx
  simp only [List.mem_cons,List.not_mem_nil,or_false] at hx
  rcases hx with rfl | rfl | rfl | rfl
  ·
   exact⟨Kd.C_below hr_p1 hb,hc_p1⟩
  ·
   exact⟨Kd.C_below hr_q1 hb,hc_q1⟩
  ·
   exact⟨Kd.C_below hr_p2 hb,hc_p2⟩
  ·
   exact⟨Kd.C_below hr_q2 hb,hc_q2⟩
  ) (by simp))
 cases hfb:fewB [p1,q1,p2,q2] with
 | false =>
  simp only [List.map_cons,List.map_nil,hfb] at HF0
  clear hfb hr_p1 ho_p1 hr_q1 ho_q1 hr_p2 ho_p2 hr_q2 ho_q2
  go_enter Try.func10,Try.ntmps10
  go_wp2_with fail
  have hg:=zb3 ((w.alloc (.cells #[.bool n1,.slice Aa1 p1.length ca1,.slice Ab1 q1.length cb1] 25)).alloc (.cells #[.bool n2,.slice Aa2 p2.length ca2,.slice Ab2 q2.length cb2] 25)) (.cells #[.slice Aa1 p1.length ca1,.slice Ab1 q1.length cb1,.slice Aa2 p2.length ca2,.slice Ab2 q2.length cb2] 23)
  rw [show ((w.alloc (.cells #[.bool n1,.slice Aa1 p1.length ca1,.slice Ab1 q1.length cb1] 25)).alloc (.cells #[.bool n2,.slice Aa2 p2.length ca2,.slice Ab2 q2.length cb2] 25)).heap.size=w.heap.size+1+1 by simp] at hg
  have hbw:Below w.heap.size w (((w.alloc (.cells #[.bool n1,.slice Aa1 p1.length ca1,.slice Ab1 q1.length cb1] 25)).alloc (.cells #[.bool n2,.slice Aa2 p2.length ca2,.slice Ab2 q2.length cb2] 25)).alloc (.cells #[.slice Aa1 p1.length ca1,.slice Ab1 q1.length cb1,.slice Aa2 p2.length ca2,.slice Ab2 q2.length cb2] 23)):=zbt (zbt (zbt (Below.refl _ _) _) _) _
  generalize ((w.alloc (.cells #[.bool n1,.slice Aa1 p1.length ca1,.slice Ab1 q1.length cb1] 25)).alloc (.cells #[.bool n2,.slice Aa2 p2.length ca2,.slice Ab2 q2.length cb2] 25)).alloc (.cells #[.slice Aa1 p1.length ca1,.slice Ab1 q1.length cb1,.slice Aa2 p2.length ca2,.slice Ab2 q2.length cb2] 23)=W1 at hg hbw ⊢
  refine(HF0.out _ _ W1 hg hbw).mono ?_
  rintro e w2 ⟨rfl,hd⟩
  obtain⟨m,rfl⟩:=hd.out
  have HB:=Aside0.mk (zbs hbw m)
  clear hg hbw hd
  go_wp2_with fail
  refine(known_q _).mono ?_
  rintro e w3 ⟨rfl,hB⟩
  have HB2:=Aside0.mk (zbx HB.out hB)
  clear hB
  go_wp2
  go_ret
  exact⟨rfl,HB2.out⟩
 | true =>
  have hl:p1.length≤60∧q1.length≤60∧p2.length≤60∧q2.length≤60:=by simpa [fewB] using hfb
  have HP1:=Aside0.mk (show ∀ W:World,Below w.heap.size w W→NR W (.agg #[.bool n1,.slice Aa1 p1.length ca1,.slice Ab1 q1.length cb1]) (nrm n1 (val B32 p1) (val B32 q1)) from fun W hb=>⟨_,_,_,_,_,_,_,rfl,⟨Kd.C_below hr_p1 hb,hc_p1,okS60 ho_p1 hl.1⟩,⟨Kd.C_below hr_q1 hb,hc_q1,okS60 ho_q1 hl.2.1⟩,rfl⟩)
  have HL1:=Aside0.mk (lim_raw (n:=n1) ho_p1 ho_q1 hl.1 hl.2.1)
  have HD1:=Aside0.mk (nrm_red n1 (val B32 p1) (val B32 q1))
  have HP2:=Aside0.mk (show ∀ W:World,Below w.heap.size w W→NR W (.agg #[.bool n2,.slice Aa2 p2.length ca2,.slice Ab2 q2.length cb2]) (nrm n2 (val B32 p2) (val B32 q2)) from fun W hb=>⟨_,_,_,_,_,_,_,rfl,⟨Kd.C_below hr_p2 hb,hc_p2,okS60 ho_p2 hl.2.2.1⟩,⟨Kd.C_below hr_q2 hb,hc_q2,okS60 ho_q2 hl.2.2.2⟩,rfl⟩)
  have HL2:=Aside0.mk (lim_raw (n:=n2) ho_p2 ho_q2 hl.2.2.1 hl.2.2.2)
  have HD2:=Aside0.mk (nrm_red n2 (val B32 p2) (val B32 q2))
  generalize nrm n1 (val B32 p1) (val B32 q1)=X1 at HP1 HL1 HD1
  generalize nrm n2 (val B32 p2) (val B32 q2)=X2 at HP2 HL2 HD2
  have C0:=Aside0.mk (fun (W:World) (u v:Value) (hu:QD W u X1) (hv:QD W v X2)=>refcmp_n hu hv HD2.out (lim_up HL1.out (show 60≤200 by decide)) (lim_up HL2.out (show 60≤200 by decide)))
  have C1:=Aside0.mk (fun (W:World) (u v:Value) (hu:NR W u X1) (hv:NR W v X2)=>cmp_n hu hv (lim_ok (lim_add HL1.out (lim_ngt HL2.out)) (by decide)))
  have C2:=Aside0.mk (fun (W:World) (u v:Value) (hu:NR W u X1) (hv:NR W v X2)=>same_nn hu hv)
  have C3:=Aside0.mk (fun (W:World) (u:Value) (hu:NR W u X1)=>sign_n hu)
  have C4:=Aside0.mk (fun (W:World) (u:Value) (hu:QD W u X1)=>refsign_n hu)
  have C5:=Aside0.mk (fun (W:World) (u:Value) (hu:NR W u X1)=>bits_n hu)
  have C6:=Aside0.mk (fun (W:World) (u:Value) (hu:QD W u X1)=>refbits_n hu (lim_up HL1.out (show 60≤200 by decide)))
  generalize sgnQ (addQ X1 (ngt X2))=c at C0 C1 C2
  generalize sgnQ X1=s at C3 C4
  generalize mx (nb X1.2.1:Int) (nb X1.2.2:Int)=m at C5 C6
  have HE:=Aside0.mk (And.intro (beq_self_eq_true c) (And.intro (beq_self_eq_true s) (And.intro (beq_self_eq_true m) (beq_self_eq_true (c == 0)))))
  simp only [List.map_cons,List.map_nil,hfb] at HF0
  clear hfb hl hr_p1 ho_p1 hr_q1 ho_q1 hr_p2 ho_p2 hr_q2 ho_q2
  go_enter Try.func10,Try.ntmps10
  go_wp2_with fail
  have hg:=zb3 ((w.alloc (.cells #[.bool n1,.slice Aa1 p1.length ca1,.slice Ab1 q1.length cb1] 25)).alloc (.cells #[.bool n2,.slice Aa2 p2.length ca2,.slice Ab2 q2.length cb2] 25)) (.cells #[.slice Aa1 p1.length ca1,.slice Ab1 q1.length cb1,.slice Aa2 p2.length ca2,.slice Ab2 q2.length cb2] 23)
  rw [show ((w.alloc (.cells #[.bool n1,.slice Aa1 p1.length ca1,.slice Ab1 q1.length cb1] 25)).alloc (.cells #[.bool n2,.slice Aa2 p2.length ca2,.slice Ab2 q2.length cb2] 25)).heap.size=w.heap.size+1+1 by simp] at hg
  have hx1:=zby (zby (zb3 w (.cells #[.bool n1,.slice Aa1 p1.length ca1,.slice Ab1 q1.length cb1] 25)) (.cells #[.bool n2,.slice Aa2 p2.length ca2,.slice Ab2 q2.length cb2] 25)) (.cells #[.slice Aa1 p1.length ca1,.slice Ab1 q1.length cb1,.slice Aa2 p2.length ca2,.slice Ab2 q2.length cb2] 23)
  have hx2:=zby (zb3 (w.alloc (.cells #[.bool n1,.slice Aa1 p1.length ca1,.slice Ab1 q1.length cb1] 25)) (.cells #[.bool n2,.slice Aa2 p2.length ca2,.slice Ab2 q2.length cb2] 25)) (.cells #[.slice Aa1 p1.length ca1,.slice Ab1 q1.length cb1,.slice Aa2 p2.length ca2,.slice Ab2 q2.length cb2] 23)
  rw [show (w.alloc (.cells #[.bool n1,.slice Aa1 p1.length ca1,.slice Ab1 q1.length cb1] 25)).heap.size=w.heap.size+1 by simp] at hx2
  have hbw:Below w.heap.size w (((w.alloc (.cells #[.bool n1,.slice Aa1 p1.length ca1,.slice Ab1 q1.length cb1] 25)).alloc (.cells #[.bool n2,.slice Aa2 p2.length ca2,.slice Ab2 q2.length cb2] 25)).alloc (.cells #[.slice Aa1 p1.length ca1,.slice Ab1 q1.length cb1,.slice Aa2 p2.length ca2,.slice Ab2 q2.length cb2] 23)):=zbt (zbt (zbt (Below.refl _ _) _) _) _
  generalize ((w.alloc (.cells #[.bool n1,.slice Aa1 p1.length ca1,.slice Ab1 q1.length cb1] 25)).alloc (.cells #[.bool n2,.slice Aa2 p2.length ca2,.slice Ab2 q2.length cb2] 25)).alloc (.cells #[.slice Aa1 p1.length ca1,.slice Ab1 q1.length cb1,.slice Aa2 p2.length ca2,.slice Ab2 q2.length cb2] 23)=W1 at hg hbw hx1 hx2 ⊢
  refine(HF0.out _ _ W1 hg hbw).mono ?_
  rintro e w2 ⟨rfl,hd⟩
  obtain⟨m,rfl⟩:=hd.out
  have HB2:=Aside0.mk (zbs hbw m)
  have HX1:=Aside0.mk (zbz hx1 m)
  obtain⟨⟨x10,x11,x12⟩,y10,y11,y12⟩:=zbK HX1.out
  have HX2:=Aside0.mk (zbz hx2 m)
  obtain⟨⟨x20,x21,x22⟩,y20,y21,y22⟩:=zbK HX2.out
  clear hg hbw hd HF0 hx1 hx2
  go_wp2_with fail
  generalize W1.drewN m=W2 at HB2 HX1 HX2 ⊢
  clear x10 x11 x12 y10 y11 y12
  clear x20 x21 x22 y20 y21 y22
  have HF:Aside0 (∀ w':World,Below W2.heap.size W2 w'→(w'.cell? ⟨w.heap.size,0,none⟩=some (.bool n1)∧w'.cell? ⟨w.heap.size,1,none⟩=some (.slice Aa1 p1.length ca1)∧w'.cell? ⟨w.heap.size,2,none⟩=some (.slice Ab1 q1.length cb1)∧w'.cell? ⟨w.heap.size+1,0,none⟩=some (.bool n2)∧w'.cell? ⟨w.heap.size+1,1,none⟩=some (.slice Aa2 p2.length ca2)∧w'.cell? ⟨w.heap.size+1,2,none⟩=some (.slice Ab2 q2.length cb2))∧Below w.heap.size w w'):=⟨fun W hb=>⟨⟨(zbv (zbC HX1.out hb) 0).trans rfl,(zbv (zbC HX1.out hb) 1).trans rfl,(zbv (zbC HX1.out hb) 2).trans rfl,(zbv (zbC HX2.out hb) 0).trans rfl,(zbv (zbC HX2.out hb) 1).trans rfl,(zbv (zbC HX2.out hb) 2).trans rfl⟩,zbx HB2.out hb⟩⟩
  refine zcM (n:=8) (S:=fun w'=>(w'.cell? ⟨w.heap.size,0,none⟩=some (.bool n1)∧w'.cell? ⟨w.heap.size,1,none⟩=some (.slice Aa1 p1.length ca1)∧w'.cell? ⟨w.heap.size,2,none⟩=some (.slice Ab1 q1.length cb1)∧w'.cell? ⟨w.heap.size+1,0,none⟩=some (.bool n2)∧w'.cell? ⟨w.heap.size+1,1,none⟩=some (.slice Aa2 p2.length ca2)∧w'.cell? ⟨w.heap.size+1,2,none⟩=some (.slice Ab2 q2.length cb2))) (ds:=[6,7]) #[zf,zf,zf,zf,zf,zf,zf,zf] (by kernel_rfl) rfl rfl ((HF.out _ (zbu (Below.refl _ _))).1) (fun hHeld=>?_)
  have hb0:=Aside0.mk (show Below W2.heap.size W2 W2.drew from zbu (Below.refl _ _))
  generalize W2.drew=V0 at hb0 hHeld ⊢
  refine zcA ratOrders.tab3 ratOrders.bits3 (fun HT_ HW_=>?_)
  refine take_ (i:=0) (N:=some 20) (v:=?_) (a':=?_) #[zt,zf,zf,zf,zf,zf,zf,zf] rfl rfl (zbY HT_.out HW_.out (by kernel_rfl)) (fun _ _ _ h=>h) (Or.inl ⟨by rfl,?_⟩) hHeld ?_ ?_
  rotate_left
  ·
   intro w' s0
   go_simp
   with_reducible rfl
  rotate_left
  ·
   simp only [Act.put,zA1,zA2,zA3,zbI,zbJ]
   rfl
  refine take_ (i:=2) (N:=some 22) (v:=?_) (a':=?_) #[zt,zf,zt,zf,zf,zf,zf,zf] rfl rfl (zbY HT_.out HW_.out (by kernel_rfl)) (fun _ _ _ h=>h) (Or.inl ⟨by rfl,?_⟩) hHeld ?_ ?_
  rotate_left
  ·
   intro w' s0
   go_simp
   with_reducible rfl
  rotate_left
  ·
   simp only [Act.put,zA1,zA2,zA3,zbI,zbJ]
   rfl
  refine join_ (σ:=Option Addr×Nat×Option Addr×Nat×Option Addr×Nat×Option Addr×Nat×Nat×Nat) 2 #[zt,zt,zt,zt,zt,zt,zf,zf] (fun s=>[(21,.agg #[.bool X1.1,.slice s.1 (dg 10000 X1.2.1).length s.2.1,.slice s.2.2.1 (dg 10000 X1.2.2).length s.2.2.2.1]),(23,.agg #[.bool X2.1,.slice s.2.2.2.2.1 (dg 10000 X2.2.1).length s.2.2.2.2.2.1,.slice s.2.2.2.2.2.2.1 (dg 10000 X2.2.2).length s.2.2.2.2.2.2.2.1]),(5,.pointer (some ⟨s.2.2.2.2.2.2.2.2.1,0,none⟩)),(6,.pointer (some ⟨s.2.2.2.2.2.2.2.2.2,0,none⟩))]) (fun s w'=>(w'.cell? ⟨w.heap.size,0,none⟩=some (.bool n1)∧w'.cell? ⟨w.heap.size,1,none⟩=some (.slice Aa1 p1.length ca1)∧w'.cell? ⟨w.heap.size,2,none⟩=some (.slice Ab1 q1.length cb1)∧w'.cell? ⟨w.heap.size+1,0,none⟩=some (.bool n2)∧w'.cell? ⟨w.heap.size+1,1,none⟩=some (.slice Aa2 p2.length ca2)∧w'.cell? ⟨w.heap.size+1,2,none⟩=some (.slice Ab2 q2.length cb2))∧(QT w' w.heap.size (.agg #[.bool X1.1,.slice s.1 (dg 10000 X1.2.1).length s.2.1,.slice s.2.2.1 (dg 10000 X1.2.2).length s.2.2.2.1]) X1)∧(QT w' w.heap.size (.agg #[.bool X2.1,.slice s.2.2.2.2.1 (dg 10000 X2.2.1).length s.2.2.2.2.2.1,.slice s.2.2.2.2.2.2.1 (dg 10000 X2.2.2).length s.2.2.2.2.2.2.2.1]) X2)∧(w'.heap[s.2.2.2.2.2.2.2.2.1]? = some (.cells #[.bool false,.slice none 0 0,.slice none 0 0] 36 (0,0))∧W2.heap.size≤s.2.2.2.2.2.2.2.2.1)∧(w'.heap[s.2.2.2.2.2.2.2.2.2]? = some (.cells #[.bool false,.slice none 0 0,.slice none 0 0] 36 (0,0))∧W2.heap.size≤s.2.2.2.2.2.2.2.2.2)∧(s.2.2.2.2.2.2.2.2.1≠s.2.2.2.2.2.2.2.2.2)∧Below W2.heap.size W2 w') ?_ ?_
  rotate_left
  ·
   intro hJ1_3_4_5
   refine join_ (σ:=Option Addr×Nat×Option Addr×Nat×Option Addr×Nat×Option Addr×Nat×Nat) 3 #[zt,zt,zt,zt,zt,zf,zf,zf] (fun s=>[(21,.agg #[.bool X1.1,.slice s.1 (dg 10000 X1.2.1).length s.2.1,.slice s.2.2.1 (dg 10000 X1.2.2).length s.2.2.2.1]),(23,.agg #[.bool X2.1,.slice s.2.2.2.2.1 (dg 10000 X2.2.1).length s.2.2.2.2.2.1,.slice s.2.2.2.2.2.2.1 (dg 10000 X2.2.2).length s.2.2.2.2.2.2.2.1]),(5,.pointer (some ⟨s.2.2.2.2.2.2.2.2,0,none⟩))]) (fun s w'=>(w'.cell? ⟨w.heap.size,0,none⟩=some (.bool n1)∧w'.cell? ⟨w.heap.size,1,none⟩=some (.slice Aa1 p1.length ca1)∧w'.cell? ⟨w.heap.size,2,none⟩=some (.slice Ab1 q1.length cb1)∧w'.cell? ⟨w.heap.size+1,0,none⟩=some (.bool n2)∧w'.cell? ⟨w.heap.size+1,1,none⟩=some (.slice Aa2 p2.length ca2)∧w'.cell? ⟨w.heap.size+1,2,none⟩=some (.slice Ab2 q2.length cb2))∧(QT w' w.heap.size (.agg #[.bool X1.1,.slice s.1 (dg 10000 X1.2.1).length s.2.1,.slice s.2.2.1 (dg 10000 X1.2.2).length s.2.2.2.1]) X1)∧(QT w' w.heap.size (.agg #[.bool X2.1,.slice s.2.2.2.2.1 (dg 10000 X2.2.1).length s.2.2.2.2.2.1,.slice s.2.2.2.2.2.2.1 (dg 10000 X2.2.2).length s.2.2.2.2.2.2.2.1]) X2)∧(w'.heap[s.2.2.2.2.2.2.2.2]? = some (.cells #[.bool false,.slice none 0 0,.slice none 0 0] 36 (0,0))∧W2.heap.size≤s.2.2.2.2.2.2.2.2)∧Below W2.heap.size W2 w') ?_ ?_
   rotate_left
   ·
    intro hJ1_3_4
    refine join_ (σ:=Option Addr×Nat×Option Addr×Nat×Option Addr×Nat×Option Addr×Nat×Nat) 3 #[zt,zt,zt,zt,zf,zt,zf,zf] (fun s=>[(21,.agg #[.bool X1.1,.slice s.1 (dg 10000 X1.2.1).length s.2.1,.slice s.2.2.1 (dg 10000 X1.2.2).length s.2.2.2.1]),(23,.agg #[.bool X2.1,.slice s.2.2.2.2.1 (dg 10000 X2.2.1).length s.2.2.2.2.2.1,.slice s.2.2.2.2.2.2.1 (dg 10000 X2.2.2).length s.2.2.2.2.2.2.2.1]),(6,.pointer (some ⟨s.2.2.2.2.2.2.2.2,0,none⟩))]) (fun s w'=>(w'.cell? ⟨w.heap.size,0,none⟩=some (.bool n1)∧w'.cell? ⟨w.heap.size,1,none⟩=some (.slice Aa1 p1.length ca1)∧w'.cell? ⟨w.heap.size,2,none⟩=some (.slice Ab1 q1.length cb1)∧w'.cell? ⟨w.heap.size+1,0,none⟩=some (.bool n2)∧w'.cell? ⟨w.heap.size+1,1,none⟩=some (.slice Aa2 p2.length ca2)∧w'.cell? ⟨w.heap.size+1,2,none⟩=some (.slice Ab2 q2.length cb2))∧(QT w' w.heap.size (.agg #[.bool X1.1,.slice s.1 (dg 10000 X1.2.1).length s.2.1,.slice s.2.2.1 (dg 10000 X1.2.2).length s.2.2.2.1]) X1)∧(QT w' w.heap.size (.agg #[.bool X2.1,.slice s.2.2.2.2.1 (dg 10000 X2.2.1).length s.2.2.2.2.2.1,.slice s.2.2.2.2.2.2.1 (dg 10000 X2.2.2).length s.2.2.2.2.2.2.2.1]) X2)∧(w'.heap[s.2.2.2.2.2.2.2.2]? = some (.cells #[.bool false,.slice none 0 0,.slice none 0 0] 36 (0,0))∧W2.heap.size≤s.2.2.2.2.2.2.2.2)∧Below W2.heap.size W2 w') ?_ ?_
    rotate_left
    ·
     intro hJ1_3_5
     refine join_ (σ:=Option Addr×Nat×Option Addr×Nat×Nat×Nat) 3 #[zt,zt,zt,zf,zt,zt,zf,zf] (fun s=>[(21,.agg #[.bool X1.1,.slice s.1 (dg 10000 X1.2.1).length s.2.1,.slice s.2.2.1 (dg 10000 X1.2.2).length s.2.2.2.1]),(5,.pointer (some ⟨s.2.2.2.2.1,0,none⟩)),(6,.pointer (some ⟨s.2.2.2.2.2,0,none⟩))]) (fun s w'=>(w'.cell? ⟨w.heap.size,0,none⟩=some (.bool n1)∧w'.cell? ⟨w.heap.size,1,none⟩=some (.slice Aa1 p1.length ca1)∧w'.cell? ⟨w.heap.size,2,none⟩=some (.slice Ab1 q1.length cb1)∧w'.cell? ⟨w.heap.size+1,0,none⟩=some (.bool n2)∧w'.cell? ⟨w.heap.size+1,1,none⟩=some (.slice Aa2 p2.length ca2)∧w'.cell? ⟨w.heap.size+1,2,none⟩=some (.slice Ab2 q2.length cb2))∧(QT w' w.heap.size (.agg #[.bool X1.1,.slice s.1 (dg 10000 X1.2.1).length s.2.1,.slice s.2.2.1 (dg 10000 X1.2.2).length s.2.2.2.1]) X1)∧(w'.heap[s.2.2.2.2.1]? = some (.cells #[.bool false,.slice none 0 0,.slice none 0 0] 36 (0,0))∧W2.heap.size≤s.2.2.2.2.1)∧(w'.heap[s.2.2.2.2.2]? = some (.cells #[.bool false,.slice none 0 0,.slice none 0 0] 36 (0,0))∧W2.heap.size≤s.2.2.2.2.2)∧(s.2.2.2.2.1≠s.2.2.2.2.2)∧Below W2.heap.size W2 w') ?_ ?_
     rotate_left
     ·
      intro hJ1_4_5
      refine join_ (σ:=Option Addr×Nat×Option Addr×Nat×Option Addr×Nat×Option Addr×Nat) 4 #[zt,zt,zt,zt,zf,zf,zf,zf] (fun s=>[(21,.agg #[.bool X1.1,.slice s.1 (dg 10000 X1.2.1).length s.2.1,.slice s.2.2.1 (dg 10000 X1.2.2).length s.2.2.2.1]),(23,.agg #[.bool X2.1,.slice s.2.2.2.2.1 (dg 10000 X2.2.1).length s.2.2.2.2.2.1,.slice s.2.2.2.2.2.2.1 (dg 10000 X2.2.2).length s.2.2.2.2.2.2.2])]) (fun s w'=>(w'.cell? ⟨w.heap.size,0,none⟩=some (.bool n1)∧w'.cell? ⟨w.heap.size,1,none⟩=some (.slice Aa1 p1.length ca1)∧w'.cell? ⟨w.heap.size,2,none⟩=some (.slice Ab1 q1.length cb1)∧w'.cell? ⟨w.heap.size+1,0,none⟩=some (.bool n2)∧w'.cell? ⟨w.heap.size+1,1,none⟩=some (.slice Aa2 p2.length ca2)∧w'.cell? ⟨w.heap.size+1,2,none⟩=some (.slice Ab2 q2.length cb2))∧(QT w' w.heap.size (.agg #[.bool X1.1,.slice s.1 (dg 10000 X1.2.1).length s.2.1,.slice s.2.2.1 (dg 10000 X1.2.2).length s.2.2.2.1]) X1)∧(QT w' w.heap.size (.agg #[.bool X2.1,.slice s.2.2.2.2.1 (dg 10000 X2.2.1).length s.2.2.2.2.2.1,.slice s.2.2.2.2.2.2.1 (dg 10000 X2.2.2).length s.2.2.2.2.2.2.2]) X2)∧Below W2.heap.size W2 w') ?_ ?_
      rotate_left
      ·
       intro hJ1_3
       refine join_ (σ:=Option Addr×Nat×Option Addr×Nat×Nat) 4 #[zt,zt,zt,zf,zt,zf,zf,zf] (fun s=>[(21,.agg #[.bool X1.1,.slice s.1 (dg 10000 X1.2.1).length s.2.1,.slice s.2.2.1 (dg 10000 X1.2.2).length s.2.2.2.1]),(5,.pointer (some ⟨s.2.2.2.2,0,none⟩))]) (fun s w'=>(w'.cell? ⟨w.heap.size,0,none⟩=some (.bool n1)∧w'.cell? ⟨w.heap.size,1,none⟩=some (.slice Aa1 p1.length ca1)∧w'.cell? ⟨w.heap.size,2,none⟩=some (.slice Ab1 q1.length cb1)∧w'.cell? ⟨w.heap.size+1,0,none⟩=some (.bool n2)∧w'.cell? ⟨w.heap.size+1,1,none⟩=some (.slice Aa2 p2.length ca2)∧w'.cell? ⟨w.heap.size+1,2,none⟩=some (.slice Ab2 q2.length cb2))∧(QT w' w.heap.size (.agg #[.bool X1.1,.slice s.1 (dg 10000 X1.2.1).length s.2.1,.slice s.2.2.1 (dg 10000 X1.2.2).length s.2.2.2.1]) X1)∧(w'.heap[s.2.2.2.2]? = some (.cells #[.bool false,.slice none 0 0,.slice none 0 0] 36 (0,0))∧W2.heap.size≤s.2.2.2.2)∧Below W2.heap.size W2 w') ?_ ?_
       rotate_left
       ·
        intro hJ1_4
        refine join_ (σ:=Option Addr×Nat×Option Addr×Nat×Nat) 4 #[zt,zt,zt,zf,zf,zt,zf,zf] (fun s=>[(21,.agg #[.bool X1.1,.slice s.1 (dg 10000 X1.2.1).length s.2.1,.slice s.2.2.1 (dg 10000 X1.2.2).length s.2.2.2.1]),(6,.pointer (some ⟨s.2.2.2.2,0,none⟩))]) (fun s w'=>(w'.cell? ⟨w.heap.size,0,none⟩=some (.bool n1)∧w'.cell? ⟨w.heap.size,1,none⟩=some (.slice Aa1 p1.length ca1)∧w'.cell? ⟨w.heap.size,2,none⟩=some (.slice Ab1 q1.length cb1)∧w'.cell? ⟨w.heap.size+1,0,none⟩=some (.bool n2)∧w'.cell? ⟨w.heap.size+1,1,none⟩=some (.slice Aa2 p2.length ca2)∧w'.cell? ⟨w.heap.size+1,2,none⟩=some (.slice Ab2 q2.length cb2))∧(QT w' w.heap.size (.agg #[.bool X1.1,.slice s.1 (dg 10000 X1.2.1).length s.2.1,.slice s.2.2.1 (dg 10000 X1.2.2).length s.2.2.2.1]) X1)∧(w'.heap[s.2.2.2.2]? = some (.cells #[.bool false,.slice none 0 0,.slice none 0 0] 36 (0,0))∧W2.heap.size≤s.2.2.2.2)∧Below W2.heap.size W2 w') ?_ ?_
        rotate_left
        ·
         intro hJ1_5
         refine join_ (σ:=Nat×Nat) 4 #[zt,zf,zt,zf,zt,zt,zf,zf] (fun s=>[(5,.pointer (some ⟨s.1,0,none⟩)),(6,.pointer (some ⟨s.2,0,none⟩))]) (fun s w'=>(w'.cell? ⟨w.heap.size,0,none⟩=some (.bool n1)∧w'.cell? ⟨w.heap.size,1,none⟩=some (.slice Aa1 p1.length ca1)∧w'.cell? ⟨w.heap.size,2,none⟩=some (.slice Ab1 q1.length cb1)∧w'.cell? ⟨w.heap.size+1,0,none⟩=some (.bool n2)∧w'.cell? ⟨w.heap.size+1,1,none⟩=some (.slice Aa2 p2.length ca2)∧w'.cell? ⟨w.heap.size+1,2,none⟩=some (.slice Ab2 q2.length cb2))∧(w'.heap[s.1]? = some (.cells #[.bool false,.slice none 0 0,.slice none 0 0] 36 (0,0))∧W2.heap.size≤s.1)∧(w'.heap[s.2]? = some (.cells #[.bool false,.slice none 0 0,.slice none 0 0] 36 (0,0))∧W2.heap.size≤s.2)∧(s.1≠s.2)∧Below W2.heap.size W2 w') ?_ ?_
         rotate_left
         ·
          intro hJ4_5
          refine join_ (σ:=Option Addr×Nat×Option Addr×Nat) 5 #[zt,zt,zt,zf,zf,zf,zf,zf] (fun s=>[(21,.agg #[.bool X1.1,.slice s.1 (dg 10000 X1.2.1).length s.2.1,.slice s.2.2.1 (dg 10000 X1.2.2).length s.2.2.2])]) (fun s w'=>(w'.cell? ⟨w.heap.size,0,none⟩=some (.bool n1)∧w'.cell? ⟨w.heap.size,1,none⟩=some (.slice Aa1 p1.length ca1)∧w'.cell? ⟨w.heap.size,2,none⟩=some (.slice Ab1 q1.length cb1)∧w'.cell? ⟨w.heap.size+1,0,none⟩=some (.bool n2)∧w'.cell? ⟨w.heap.size+1,1,none⟩=some (.slice Aa2 p2.length ca2)∧w'.cell? ⟨w.heap.size+1,2,none⟩=some (.slice Ab2 q2.length cb2))∧(QT w' w.heap.size (.agg #[.bool X1.1,.slice s.1 (dg 10000 X1.2.1).length s.2.1,.slice s.2.2.1 (dg 10000 X1.2.2).length s.2.2.2]) X1)∧Below W2.heap.size W2 w') ?_ ?_
          rotate_left
          ·
           intro hJ1
           refine join_ (σ:=Nat) 5 #[zt,zf,zt,zf,zt,zf,zf,zf] (fun s=>[(5,.pointer (some ⟨s,0,none⟩))]) (fun s w'=>(w'.cell? ⟨w.heap.size,0,none⟩=some (.bool n1)∧w'.cell? ⟨w.heap.size,1,none⟩=some (.slice Aa1 p1.length ca1)∧w'.cell? ⟨w.heap.size,2,none⟩=some (.slice Ab1 q1.length cb1)∧w'.cell? ⟨w.heap.size+1,0,none⟩=some (.bool n2)∧w'.cell? ⟨w.heap.size+1,1,none⟩=some (.slice Aa2 p2.length ca2)∧w'.cell? ⟨w.heap.size+1,2,none⟩=some (.slice Ab2 q2.length cb2))∧(w'.heap[s]? = some (.cells #[.bool false,.slice none 0 0,.slice none 0 0] 36 (0,0))∧W2.heap.size≤s)∧Below W2.heap.size W2 w') ?_ ?_
           rotate_left
           ·
            intro hJ4
            refine join_ (σ:=Nat) 5 #[zt,zf,zt,zf,zf,zt,zf,zf] (fun s=>[(6,.pointer (some ⟨s,0,none⟩))]) (fun s w'=>(w'.cell? ⟨w.heap.size,0,none⟩=some (.bool n1)∧w'.cell? ⟨w.heap.size,1,none⟩=some (.slice Aa1 p1.length ca1)∧w'.cell? ⟨w.heap.size,2,none⟩=some (.slice Ab1 q1.length cb1)∧w'.cell? ⟨w.heap.size+1,0,none⟩=some (.bool n2)∧w'.cell? ⟨w.heap.size+1,1,none⟩=some (.slice Aa2 p2.length ca2)∧w'.cell? ⟨w.heap.size+1,2,none⟩=some (.slice Ab2 q2.length cb2))∧(w'.heap[s]? = some (.cells #[.bool false,.slice none 0 0,.slice none 0 0] 36 (0,0))∧W2.heap.size≤s)∧Below W2.heap.size W2 w') ?_ ?_
            rotate_left
            ·
             intro hJ5
             refine three_ (i:=1) (j:=4) (k:=5) (Ni:=some 21) (Nj:=some 5) (Nk:=some 6) #[zt,zt,zt,zf,zf,zf,zf,zf] #[zt,zf,zt,zf,zt,zf,zf,zf] #[zt,zf,zt,zf,zf,zt,zf,zf] rfl rfl rfl rfl rfl rfl (three_of HT_.out (by kernel_rfl)) (by decide) (by decide) (by decide) (fun K hK=>?_) (fun K hK=>?_) (fun K hK=>?_)
             ·
              skip
              refine zb8 Try.func21 (by kernel_rfl) rfl #[.agg #[.bool n1,.slice Aa1 p1.length ca1,.slice Ab1 q1.length cb1]] (by rfl) rfl rfl (by (try simp only [List.map_toArray,List.map_cons,List.map_nil]); first | done | rfl) ?_
              refine(ref_of_n (HP1.out V0 (HF.out _ hb0.out).2)).mono ?_
              rintro e Vn ⟨_,rfl,⟨m1,m2,rfl,R1,R2⟩,hB⟩
              refine⟨_,rfl,?_⟩
              obtain⟨A1,c1,rfl⟩:=Kd.R_slice R1
              obtain⟨B1,d1,rfl⟩:=Kd.R_slice R2
              have new:QT Vn w.heap.size (.agg #[.bool X1.1,.slice A1 (dg 10000 X1.2.1).length c1,.slice B1 (dg 10000 X1.2.2).length d1]) X1:=⟨_,_,rfl,Kd.R_lower R1 (HF.out _ hb0.out).2.size,Kd.R_lower R2 (HF.out _ hb0.out).2.size⟩
              have hbn:=Aside0.mk (zbx hb0.out hB)
              refine hK.out _ _ ((HF.out _ hbn.out).1) (fun hHeld=>?_)
              clear hK K
              refine zbR (a':=?_) ?_ ?_
              rotate_left
              ·
               show Act.put _ (some 21) _=_
               simp only [Act.put,zA1,zA2,zA3,zbI,zbJ]
               rfl
              exact zbR (by first | (simp only [zb2,Act.put,zA1,zA2,zA3]; done) | (simp only [zb2,Act.put,zA1,zA2,zA3]; rfl)) (hJ1 (A1,c1,B1,d1) _ ⟨(HF.out _ hbn.out).1,new,hbn.out⟩)
             ·
              skip
              refine value_ (w1:=?_) (v:=?_) (by rfl) rfl ?_ ?_
              rotate_left 2
              ·
               go_simp
               constructor
               ·
                rfl
               ·
                rfl
              have hB:Below V0.heap.size V0 (V0.alloc (.cells #[.bool false,.slice none 0 0,.slice none 0 0] 36 (0,0))):=zbt (Below.refl _ _) _
              have hN:=zb3 V0 (.cells #[.bool false,.slice none 0 0,.slice none 0 0] 36 (0,0))
              have hbn:=Aside0.mk (zbx hb0.out hB)
              refine hK.out _ _ ((HF.out _ hbn.out).1) (fun hHeld=>?_)
              clear hK K
              refine zbR (a':=?_) ?_ ?_
              rotate_left
              ·
               show Act.put _ (some 5) _=_
               simp only [Act.put,zA1,zA2,zA3,zbI,zbJ]
               rfl
              exact zbR (by first | (simp only [zb2,Act.put,zA1,zA2,zA3]; done) | (simp only [zb2,Act.put,zA1,zA2,zA3]; rfl)) (hJ4 (V0.heap.size) _ ⟨(HF.out _ hbn.out).1,⟨hN,hb0.out.size⟩,hbn.out⟩)
             ·
              skip
              refine value_ (w1:=?_) (v:=?_) (by rfl) rfl ?_ ?_
              rotate_left 2
              ·
               go_simp
               constructor
               ·
                rfl
               ·
                rfl
              have hB:Below V0.heap.size V0 (V0.alloc (.cells #[.bool false,.slice none 0 0,.slice none 0 0] 36 (0,0))):=zbt (Below.refl _ _) _
              have hN:=zb3 V0 (.cells #[.bool false,.slice none 0 0,.slice none 0 0] 36 (0,0))
              have hbn:=Aside0.mk (zbx hb0.out hB)
              refine hK.out _ _ ((HF.out _ hbn.out).1) (fun hHeld=>?_)
              clear hK K
              refine zbR (a':=?_) ?_ ?_
              rotate_left
              ·
               show Act.put _ (some 6) _=_
               simp only [Act.put,zA1,zA2,zA3,zbI,zbJ]
               rfl
              exact zbR (by first | (simp only [zb2,Act.put,zA1,zA2,zA3]; done) | (simp only [zb2,Act.put,zA1,zA2,zA3]; rfl)) (hJ5 (V0.heap.size) _ ⟨(HF.out _ hbn.out).1,⟨hN,hb0.out.size⟩,hbn.out⟩)
            ·
             skip
             rintro g5 V ⟨hHeld,kK5,hb⟩
             have K5:=Aside0.mk kK5
             have hbv:=Aside0.mk hb
             clear hb kK5
             refine zbR (a':=?_) ?_ ?_
             rotate_left
             ·
              simp only [zb2,Act.put,zA1,zA2,zA3]
              rfl
             refine two_ (i:=1) (j:=4) (Ni:=some 21) (Nj:=some 5) #[zt,zt,zt,zf,zf,zt,zf,zf] #[zt,zf,zt,zf,zt,zt,zf,zf] rfl rfl rfl rfl (two_of HT_.out (by kernel_rfl)) (by decide) (by decide) (fun K hK=>?_) (fun K hK=>?_)
             ·
              skip
              refine zb8 Try.func21 (by kernel_rfl) rfl #[.agg #[.bool n1,.slice Aa1 p1.length ca1,.slice Ab1 q1.length cb1]] (by rfl) rfl rfl (by (try simp only [List.map_toArray,List.map_cons,List.map_nil]); first | done | rfl) ?_
              refine(ref_of_n (HP1.out V (HF.out _ hbv.out).2)).mono ?_
              rintro e Vn ⟨_,rfl,⟨m1,m2,rfl,R1,R2⟩,hB⟩
              refine⟨_,rfl,?_⟩
              obtain⟨A1,c1,rfl⟩:=Kd.R_slice R1
              obtain⟨B1,d1,rfl⟩:=Kd.R_slice R2
              have new:QT Vn w.heap.size (.agg #[.bool X1.1,.slice A1 (dg 10000 X1.2.1).length c1,.slice B1 (dg 10000 X1.2.2).length d1]) X1:=⟨_,_,rfl,Kd.R_lower R1 (HF.out _ hbv.out).2.size,Kd.R_lower R2 (HF.out _ hbv.out).2.size⟩
              have hbn:=Aside0.mk (zbx hbv.out hB)
              refine hK.out _ _ ((HF.out _ hbn.out).1) (fun hHeld=>?_)
              clear hK K
              refine zbR (a':=?_) ?_ ?_
              rotate_left
              ·
               show Act.put _ (some 21) _=_
               simp only [Act.put,zA1,zA2,zA3,zbI,zbJ]
               rfl
              exact zbR (by first | (simp only [zb2,Act.put,zA1,zA2,zA3]; done) | (simp only [zb2,Act.put,zA1,zA2,zA3]; rfl)) (hJ1_5 (A1,c1,B1,d1,g5) _ ⟨(HF.out _ hbn.out).1,new,⟨zbC K5.out.1 hB,K5.out.2⟩,hbn.out⟩)
             ·
              skip
              refine value_ (w1:=?_) (v:=?_) (by rfl) rfl ?_ ?_
              rotate_left 2
              ·
               go_simp
               constructor
               ·
                rfl
               ·
                rfl
              have hB:Below V.heap.size V (V.alloc (.cells #[.bool false,.slice none 0 0,.slice none 0 0] 36 (0,0))):=zbt (Below.refl _ _) _
              have hN:=zb3 V (.cells #[.bool false,.slice none 0 0,.slice none 0 0] 36 (0,0))
              have hbn:=Aside0.mk (zbx hbv.out hB)
              refine hK.out _ _ ((HF.out _ hbn.out).1) (fun hHeld=>?_)
              clear hK K
              refine zbR (a':=?_) ?_ ?_
              rotate_left
              ·
               show Act.put _ (some 5) _=_
               simp only [Act.put,zA1,zA2,zA3,zbI,zbJ]
               rfl
              exact zbR (by first | (simp only [zb2,Act.put,zA1,zA2,zA3]; done) | (simp only [zb2,Act.put,zA1,zA2,zA3]; rfl)) (hJ4_5 (V.heap.size,g5) _ ⟨(HF.out _ hbn.out).1,⟨hN,hbv.out.size⟩,⟨zbC K5.out.1 hB,K5.out.2⟩,(Nat.ne_of_lt (zbV K5.out.1)).symm,hbn.out⟩)
           ·
            skip
            rintro g4 V ⟨hHeld,kK4,hb⟩
            have K4:=Aside0.mk kK4
            have hbv:=Aside0.mk hb
            clear hb kK4
            refine zbR (a':=?_) ?_ ?_
            rotate_left
            ·
             simp only [zb2,Act.put,zA1,zA2,zA3]
             rfl
            refine two_ (i:=1) (j:=5) (Ni:=some 21) (Nj:=some 6) #[zt,zt,zt,zf,zt,zf,zf,zf] #[zt,zf,zt,zf,zt,zt,zf,zf] rfl rfl rfl rfl (two_of HT_.out (by kernel_rfl)) (by decide) (by decide) (fun K hK=>?_) (fun K hK=>?_)
            ·
             skip
             refine zb8 Try.func21 (by kernel_rfl) rfl #[.agg #[.bool n1,.slice Aa1 p1.length ca1,.slice Ab1 q1.length cb1]] (by rfl) rfl rfl (by (try simp only [List.map_toArray,List.map_cons,List.map_nil]); first | done | rfl) ?_
             refine(ref_of_n (HP1.out V (HF.out _ hbv.out).2)).mono ?_
             rintro e Vn ⟨_,rfl,⟨m1,m2,rfl,R1,R2⟩,hB⟩
             refine⟨_,rfl,?_⟩
             obtain⟨A1,c1,rfl⟩:=Kd.R_slice R1
             obtain⟨B1,d1,rfl⟩:=Kd.R_slice R2
             have new:QT Vn w.heap.size (.agg #[.bool X1.1,.slice A1 (dg 10000 X1.2.1).length c1,.slice B1 (dg 10000 X1.2.2).length d1]) X1:=⟨_,_,rfl,Kd.R_lower R1 (HF.out _ hbv.out).2.size,Kd.R_lower R2 (HF.out _ hbv.out).2.size⟩
             have hbn:=Aside0.mk (zbx hbv.out hB)
             refine hK.out _ _ ((HF.out _ hbn.out).1) (fun hHeld=>?_)
             clear hK K
             refine zbR (a':=?_) ?_ ?_
             rotate_left
             ·
              show Act.put _ (some 21) _=_
              simp only [Act.put,zA1,zA2,zA3,zbI,zbJ]
              rfl
             exact zbR (by first | (simp only [zb2,Act.put,zA1,zA2,zA3]; done) | (simp only [zb2,Act.put,zA1,zA2,zA3]; rfl)) (hJ1_4 (A1,c1,B1,d1,g4) _ ⟨(HF.out _ hbn.out).1,new,⟨zbC K4.out.1 hB,K4.out.2⟩,hbn.out⟩)
            ·
             skip
             refine value_ (w1:=?_) (v:=?_) (by rfl) rfl ?_ ?_
             rotate_left 2
             ·
              go_simp
              constructor
              ·
               rfl
              ·
               rfl
             have hB:Below V.heap.size V (V.alloc (.cells #[.bool false,.slice none 0 0,.slice none 0 0] 36 (0,0))):=zbt (Below.refl _ _) _
             have hN:=zb3 V (.cells #[.bool false,.slice none 0 0,.slice none 0 0] 36 (0,0))
             have hbn:=Aside0.mk (zbx hbv.out hB)
             refine hK.out _ _ ((HF.out _ hbn.out).1) (fun hHeld=>?_)
             clear hK K
             refine zbR (a':=?_) ?_ ?_
             rotate_left
             ·
              show Act.put _ (some 6) _=_
              simp only [Act.put,zA1,zA2,zA3,zbI,zbJ]
              rfl
             exact zbR (by first | (simp only [zb2,Act.put,zA1,zA2,zA3]; done) | (simp only [zb2,Act.put,zA1,zA2,zA3]; rfl)) (hJ4_5 (g4,V.heap.size) _ ⟨(HF.out _ hbn.out).1,⟨zbC K4.out.1 hB,K4.out.2⟩,⟨hN,hbv.out.size⟩,Nat.ne_of_lt (zbV K4.out.1),hbn.out⟩)
          ·
           skip
           rintro⟨A1,c1,B1,d1⟩ V ⟨hHeld,kK1,hb⟩
           have K1:=Aside0.mk kK1
           have hbv:=Aside0.mk hb
           clear hb kK1
           refine zbR (a':=?_) ?_ ?_
           rotate_left
           ·
            simp only [zb2,Act.put,zA1,zA2,zA3]
            rfl
           refine three_ (i:=3) (j:=4) (k:=5) (Ni:=some 23) (Nj:=some 5) (Nk:=some 6) #[zt,zt,zt,zt,zf,zf,zf,zf] #[zt,zt,zt,zf,zt,zf,zf,zf] #[zt,zt,zt,zf,zf,zt,zf,zf] rfl rfl rfl rfl rfl rfl (three_of HT_.out (by kernel_rfl)) (by decide) (by decide) (by decide) (fun K hK=>?_) (fun K hK=>?_) (fun K hK=>?_)
           ·
            skip
            refine zb8 Try.func21 (by kernel_rfl) rfl #[.agg #[.bool n2,.slice Aa2 p2.length ca2,.slice Ab2 q2.length cb2]] (by rfl) rfl rfl (by (try simp only [List.map_toArray,List.map_cons,List.map_nil]); first | done | rfl) ?_
            refine(ref_of_n (HP2.out V (HF.out _ hbv.out).2)).mono ?_
            rintro e Vn ⟨_,rfl,⟨m1,m2,rfl,R1,R2⟩,hB⟩
            refine⟨_,rfl,?_⟩
            obtain⟨A3,c3,rfl⟩:=Kd.R_slice R1
            obtain⟨B3,d3,rfl⟩:=Kd.R_slice R2
            have new:QT Vn w.heap.size (.agg #[.bool X2.1,.slice A3 (dg 10000 X2.2.1).length c3,.slice B3 (dg 10000 X2.2.2).length d3]) X2:=⟨_,_,rfl,Kd.R_lower R1 (HF.out _ hbv.out).2.size,Kd.R_lower R2 (HF.out _ hbv.out).2.size⟩
            have hbn:=Aside0.mk (zbx hbv.out hB)
            refine hK.out _ _ ((HF.out _ hbn.out).1) (fun hHeld=>?_)
            clear hK K
            refine zbR (a':=?_) ?_ ?_
            rotate_left
            ·
             show Act.put _ (some 23) _=_
             simp only [Act.put,zA1,zA2,zA3,zbI,zbJ]
             rfl
            exact zbR (by first | (simp only [zb2,Act.put,zA1,zA2,zA3]; done) | (simp only [zb2,Act.put,zA1,zA2,zA3]; rfl)) (hJ1_3 (A1,c1,B1,d1,A3,c3,B3,d3) _ ⟨(HF.out _ hbn.out).1,K1.out.below hB,new,hbn.out⟩)
           ·
            skip
            refine value_ (w1:=?_) (v:=?_) (by rfl) rfl ?_ ?_
            rotate_left 2
            ·
             go_simp
             constructor
             ·
              rfl
             ·
              rfl
            have hB:Below V.heap.size V (V.alloc (.cells #[.bool false,.slice none 0 0,.slice none 0 0] 36 (0,0))):=zbt (Below.refl _ _) _
            have hN:=zb3 V (.cells #[.bool false,.slice none 0 0,.slice none 0 0] 36 (0,0))
            have hbn:=Aside0.mk (zbx hbv.out hB)
            refine hK.out _ _ ((HF.out _ hbn.out).1) (fun hHeld=>?_)
            clear hK K
            refine zbR (a':=?_) ?_ ?_
            rotate_left
            ·
             show Act.put _ (some 5) _=_
             simp only [Act.put,zA1,zA2,zA3,zbI,zbJ]
             rfl
            exact zbR (by first | (simp only [zb2,Act.put,zA1,zA2,zA3]; done) | (simp only [zb2,Act.put,zA1,zA2,zA3]; rfl)) (hJ1_4 (A1,c1,B1,d1,V.heap.size) _ ⟨(HF.out _ hbn.out).1,K1.out.below hB,⟨hN,hbv.out.size⟩,hbn.out⟩)
           ·
            skip
            refine value_ (w1:=?_) (v:=?_) (by rfl) rfl ?_ ?_
            rotate_left 2
            ·
             go_simp
             constructor
             ·
              rfl
             ·
              rfl
            have hB:Below V.heap.size V (V.alloc (.cells #[.bool false,.slice none 0 0,.slice none 0 0] 36 (0,0))):=zbt (Below.refl _ _) _
            have hN:=zb3 V (.cells #[.bool false,.slice none 0 0,.slice none 0 0] 36 (0,0))
            have hbn:=Aside0.mk (zbx hbv.out hB)
            refine hK.out _ _ ((HF.out _ hbn.out).1) (fun hHeld=>?_)
            clear hK K
            refine zbR (a':=?_) ?_ ?_
            rotate_left
            ·
             show Act.put _ (some 6) _=_
             simp only [Act.put,zA1,zA2,zA3,zbI,zbJ]
             rfl
            exact zbR (by first | (simp only [zb2,Act.put,zA1,zA2,zA3]; done) | (simp only [zb2,Act.put,zA1,zA2,zA3]; rfl)) (hJ1_5 (A1,c1,B1,d1,V.heap.size) _ ⟨(HF.out _ hbn.out).1,K1.out.below hB,⟨hN,hbv.out.size⟩,hbn.out⟩)
         ·
          skip
          rintro⟨g4,g5⟩ V ⟨hHeld,kK4,kK5,kE4_5,hb⟩
          have K4:=Aside0.mk kK4
          have K5:=Aside0.mk kK5
          have E4_5:=Aside0.mk kE4_5
          have hbv:=Aside0.mk hb
          clear hb kK4 kK5 kE4_5
          refine zbR (a':=?_) ?_ ?_
          rotate_left
          ·
           simp only [zb2,Act.put,zA1,zA2,zA3]
           rfl
          refine zct (i:=1) (N:=some 21) #[zt,zt,zt,zf,zt,zt,zf,zf] rfl rfl (zbZ HT_.out (by kernel_rfl)) (by decide) (fun K hK=>?_)
          refine zb8 Try.func21 (by kernel_rfl) rfl #[.agg #[.bool n1,.slice Aa1 p1.length ca1,.slice Ab1 q1.length cb1]] (by rfl) rfl rfl (by (try simp only [List.map_toArray,List.map_cons,List.map_nil]); first | done | rfl) ?_
          refine(ref_of_n (HP1.out V (HF.out _ hbv.out).2)).mono ?_
          rintro e Vn ⟨_,rfl,⟨m1,m2,rfl,R1,R2⟩,hB⟩
          refine⟨_,rfl,?_⟩
          obtain⟨A1,c1,rfl⟩:=Kd.R_slice R1
          obtain⟨B1,d1,rfl⟩:=Kd.R_slice R2
          have new:QT Vn w.heap.size (.agg #[.bool X1.1,.slice A1 (dg 10000 X1.2.1).length c1,.slice B1 (dg 10000 X1.2.2).length d1]) X1:=⟨_,_,rfl,Kd.R_lower R1 (HF.out _ hbv.out).2.size,Kd.R_lower R2 (HF.out _ hbv.out).2.size⟩
          have hbn:=Aside0.mk (zbx hbv.out hB)
          refine hK.out _ _ ((HF.out _ hbn.out).1) (fun hHeld=>?_)
          clear hK K
          refine zbR (a':=?_) ?_ ?_
          rotate_left
          ·
           show Act.put _ (some 21) _=_
           simp only [Act.put,zA1,zA2,zA3,zbI,zbJ]
           rfl
          exact zbR (by first | (simp only [zb2,Act.put,zA1,zA2,zA3]; done) | (simp only [zb2,Act.put,zA1,zA2,zA3]; rfl)) (hJ1_4_5 (A1,c1,B1,d1,g4,g5) _ ⟨(HF.out _ hbn.out).1,new,⟨zbC K4.out.1 hB,K4.out.2⟩,⟨zbC K5.out.1 hB,K5.out.2⟩,E4_5.out,hbn.out⟩)
        ·
         skip
         rintro⟨A1,c1,B1,d1,g5⟩ V ⟨hHeld,kK1,kK5,hb⟩
         have K1:=Aside0.mk kK1
         have K5:=Aside0.mk kK5
         have hbv:=Aside0.mk hb
         clear hb kK1 kK5
         refine zbR (a':=?_) ?_ ?_
         rotate_left
         ·
          simp only [zb2,Act.put,zA1,zA2,zA3]
          rfl
         refine two_ (i:=3) (j:=4) (Ni:=some 23) (Nj:=some 5) #[zt,zt,zt,zt,zf,zt,zf,zf] #[zt,zt,zt,zf,zt,zt,zf,zf] rfl rfl rfl rfl (two_of HT_.out (by kernel_rfl)) (by decide) (by decide) (fun K hK=>?_) (fun K hK=>?_)
         ·
          skip
          refine zb8 Try.func21 (by kernel_rfl) rfl #[.agg #[.bool n2,.slice Aa2 p2.length ca2,.slice Ab2 q2.length cb2]] (by rfl) rfl rfl (by (try simp only [List.map_toArray,List.map_cons,List.map_nil]); first | done | rfl) ?_
          refine(ref_of_n (HP2.out V (HF.out _ hbv.out).2)).mono ?_
          rintro e Vn ⟨_,rfl,⟨m1,m2,rfl,R1,R2⟩,hB⟩
          refine⟨_,rfl,?_⟩
          obtain⟨A3,c3,rfl⟩:=Kd.R_slice R1
          obtain⟨B3,d3,rfl⟩:=Kd.R_slice R2
          have new:QT Vn w.heap.size (.agg #[.bool X2.1,.slice A3 (dg 10000 X2.2.1).length c3,.slice B3 (dg 10000 X2.2.2).length d3]) X2:=⟨_,_,rfl,Kd.R_lower R1 (HF.out _ hbv.out).2.size,Kd.R_lower R2 (HF.out _ hbv.out).2.size⟩
          have hbn:=Aside0.mk (zbx hbv.out hB)
          refine hK.out _ _ ((HF.out _ hbn.out).1) (fun hHeld=>?_)
          clear hK K
          refine zbR (a':=?_) ?_ ?_
          rotate_left
          ·
           show Act.put _ (some 23) _=_
           simp only [Act.put,zA1,zA2,zA3,zbI,zbJ]
           rfl
          exact zbR (by first | (simp only [zb2,Act.put,zA1,zA2,zA3]; done) | (simp only [zb2,Act.put,zA1,zA2,zA3]; rfl)) (hJ1_3_5 (A1,c1,B1,d1,A3,c3,B3,d3,g5) _ ⟨(HF.out _ hbn.out).1,K1.out.below hB,new,⟨zbC K5.out.1 hB,K5.out.2⟩,hbn.out⟩)
         ·
          skip
          refine value_ (w1:=?_) (v:=?_) (by rfl) rfl ?_ ?_
          rotate_left 2
          ·
           go_simp
           constructor
           ·
            rfl
           ·
            rfl
          have hB:Below V.heap.size V (V.alloc (.cells #[.bool false,.slice none 0 0,.slice none 0 0] 36 (0,0))):=zbt (Below.refl _ _) _
          have hN:=zb3 V (.cells #[.bool false,.slice none 0 0,.slice none 0 0] 36 (0,0))
          have hbn:=Aside0.mk (zbx hbv.out hB)
          refine hK.out _ _ ((HF.out _ hbn.out).1) (fun hHeld=>?_)
          clear hK K
          refine zbR (a':=?_) ?_ ?_
          rotate_left
          ·
           show Act.put _ (some 5) _=_
           simp only [Act.put,zA1,zA2,zA3,zbI,zbJ]
           rfl
          exact zbR (by first | (simp only [zb2,Act.put,zA1,zA2,zA3]; done) | (simp only [zb2,Act.put,zA1,zA2,zA3]; rfl)) (hJ1_4_5 (A1,c1,B1,d1,V.heap.size,g5) _ ⟨(HF.out _ hbn.out).1,K1.out.below hB,⟨hN,hbv.out.size⟩,⟨zbC K5.out.1 hB,K5.out.2⟩,(Nat.ne_of_lt (zbV K5.out.1)).symm,hbn.out⟩)
       ·
        skip
        rintro⟨A1,c1,B1,d1,g4⟩ V ⟨hHeld,kK1,kK4,hb⟩
        have K1:=Aside0.mk kK1
        have K4:=Aside0.mk kK4
        have hbv:=Aside0.mk hb
        clear hb kK1 kK4
        refine zbR (a':=?_) ?_ ?_
        rotate_left
        ·
         simp only [zb2,Act.put,zA1,zA2,zA3]
         rfl
        refine two_ (i:=3) (j:=5) (Ni:=some 23) (Nj:=some 6) #[zt,zt,zt,zt,zt,zf,zf,zf] #[zt,zt,zt,zf,zt,zt,zf,zf] rfl rfl rfl rfl (two_of HT_.out (by kernel_rfl)) (by decide) (by decide) (fun K hK=>?_) (fun K hK=>?_)
        ·
         skip
         refine zb8 Try.func21 (by kernel_rfl) rfl #[.agg #[.bool n2,.slice Aa2 p2.length ca2,.slice Ab2 q2.length cb2]] (by rfl) rfl rfl (by (try simp only [List.map_toArray,List.map_cons,List.map_nil]); first | done | rfl) ?_
         refine(ref_of_n (HP2.out V (HF.out _ hbv.out).2)).mono ?_
         rintro e Vn ⟨_,rfl,⟨m1,m2,rfl,R1,R2⟩,hB⟩
         refine⟨_,rfl,?_⟩
         obtain⟨A3,c3,rfl⟩:=Kd.R_slice R1
         obtain⟨B3,d3,rfl⟩:=Kd.R_slice R2
         have new:QT Vn w.heap.size (.agg #[.bool X2.1,.slice A3 (dg 10000 X2.2.1).length c3,.slice B3 (dg 10000 X2.2.2).length d3]) X2:=⟨_,_,rfl,Kd.R_lower R1 (HF.out _ hbv.out).2.size,Kd.R_lower R2 (HF.out _ hbv.out).2.size⟩
         have hbn:=Aside0.mk (zbx hbv.out hB)
         refine hK.out _ _ ((HF.out _ hbn.out).1) (fun hHeld=>?_)
         clear hK K
         refine zbR (a':=?_) ?_ ?_
         rotate_left
         ·
          show Act.put _ (some 23) _=_
          simp only [Act.put,zA1,zA2,zA3,zbI,zbJ]
          rfl
         exact zbR (by first | (simp only [zb2,Act.put,zA1,zA2,zA3]; done) | (simp only [zb2,Act.put,zA1,zA2,zA3]; rfl)) (hJ1_3_4 (A1,c1,B1,d1,A3,c3,B3,d3,g4) _ ⟨(HF.out _ hbn.out).1,K1.out.below hB,new,⟨zbC K4.out.1 hB,K4.out.2⟩,hbn.out⟩)
        ·
         skip
         refine value_ (w1:=?_) (v:=?_) (by rfl) rfl ?_ ?_
         rotate_left 2
         ·
          go_simp
          constructor
          ·
           rfl
          ·
           rfl
         have hB:Below V.heap.size V (V.alloc (.cells #[.bool false,.slice none 0 0,.slice none 0 0] 36 (0,0))):=zbt (Below.refl _ _) _
         have hN:=zb3 V (.cells #[.bool false,.slice none 0 0,.slice none 0 0] 36 (0,0))
         have hbn:=Aside0.mk (zbx hbv.out hB)
         refine hK.out _ _ ((HF.out _ hbn.out).1) (fun hHeld=>?_)
         clear hK K
         refine zbR (a':=?_) ?_ ?_
         rotate_left
         ·
          show Act.put _ (some 6) _=_
          simp only [Act.put,zA1,zA2,zA3,zbI,zbJ]
          rfl
         exact zbR (by first | (simp only [zb2,Act.put,zA1,zA2,zA3]; done) | (simp only [zb2,Act.put,zA1,zA2,zA3]; rfl)) (hJ1_4_5 (A1,c1,B1,d1,g4,V.heap.size) _ ⟨(HF.out _ hbn.out).1,K1.out.below hB,⟨zbC K4.out.1 hB,K4.out.2⟩,⟨hN,hbv.out.size⟩,Nat.ne_of_lt (zbV K4.out.1),hbn.out⟩)
      ·
       skip
       rintro⟨A1,c1,B1,d1,A3,c3,B3,d3⟩ V ⟨hHeld,kK1,kK3,hb⟩
       have K1:=Aside0.mk kK1
       have K3:=Aside0.mk kK3
       have hbv:=Aside0.mk hb
       clear hb kK1 kK3
       refine zbR (a':=?_) ?_ ?_
       rotate_left
       ·
        simp only [zb2,Act.put,zA1,zA2,zA3]
        rfl
       refine two_ (i:=4) (j:=5) (Ni:=some 5) (Nj:=some 6) #[zt,zt,zt,zt,zt,zf,zf,zf] #[zt,zt,zt,zt,zf,zt,zf,zf] rfl rfl rfl rfl (two_of HT_.out (by kernel_rfl)) (by decide) (by decide) (fun K hK=>?_) (fun K hK=>?_)
       ·
        skip
        refine value_ (w1:=?_) (v:=?_) (by rfl) rfl ?_ ?_
        rotate_left 2
        ·
         go_simp
         constructor
         ·
          rfl
         ·
          rfl
        have hB:Below V.heap.size V (V.alloc (.cells #[.bool false,.slice none 0 0,.slice none 0 0] 36 (0,0))):=zbt (Below.refl _ _) _
        have hN:=zb3 V (.cells #[.bool false,.slice none 0 0,.slice none 0 0] 36 (0,0))
        have hbn:=Aside0.mk (zbx hbv.out hB)
        refine hK.out _ _ ((HF.out _ hbn.out).1) (fun hHeld=>?_)
        clear hK K
        refine zbR (a':=?_) ?_ ?_
        rotate_left
        ·
         show Act.put _ (some 5) _=_
         simp only [Act.put,zA1,zA2,zA3,zbI,zbJ]
         rfl
        exact zbR (by first | (simp only [zb2,Act.put,zA1,zA2,zA3]; done) | (simp only [zb2,Act.put,zA1,zA2,zA3]; rfl)) (hJ1_3_4 (A1,c1,B1,d1,A3,c3,B3,d3,V.heap.size) _ ⟨(HF.out _ hbn.out).1,K1.out.below hB,K3.out.below hB,⟨hN,hbv.out.size⟩,hbn.out⟩)
       ·
        skip
        refine value_ (w1:=?_) (v:=?_) (by rfl) rfl ?_ ?_
        rotate_left 2
        ·
         go_simp
         constructor
         ·
          rfl
         ·
          rfl
        have hB:Below V.heap.size V (V.alloc (.cells #[.bool false,.slice none 0 0,.slice none 0 0] 36 (0,0))):=zbt (Below.refl _ _) _
        have hN:=zb3 V (.cells #[.bool false,.slice none 0 0,.slice none 0 0] 36 (0,0))
        have hbn:=Aside0.mk (zbx hbv.out hB)
        refine hK.out _ _ ((HF.out _ hbn.out).1) (fun hHeld=>?_)
        clear hK K
        refine zbR (a':=?_) ?_ ?_
        rotate_left
        ·
         show Act.put _ (some 6) _=_
         simp only [Act.put,zA1,zA2,zA3,zbI,zbJ]
         rfl
        exact zbR (by first | (simp only [zb2,Act.put,zA1,zA2,zA3]; done) | (simp only [zb2,Act.put,zA1,zA2,zA3]; rfl)) (hJ1_3_5 (A1,c1,B1,d1,A3,c3,B3,d3,V.heap.size) _ ⟨(HF.out _ hbn.out).1,K1.out.below hB,K3.out.below hB,⟨hN,hbv.out.size⟩,hbn.out⟩)
     ·
      skip
      rintro⟨A1,c1,B1,d1,g4,g5⟩ V ⟨hHeld,kK1,kK4,kK5,kE4_5,hb⟩
      have K1:=Aside0.mk kK1
      have K4:=Aside0.mk kK4
      have K5:=Aside0.mk kK5
      have E4_5:=Aside0.mk kE4_5
      have hbv:=Aside0.mk hb
      clear hb kK1 kK4 kK5 kE4_5
      refine zbR (a':=?_) ?_ ?_
      rotate_left
      ·
       simp only [zb2,Act.put,zA1,zA2,zA3]
       rfl
      refine zct (i:=3) (N:=some 23) #[zt,zt,zt,zt,zt,zt,zf,zf] rfl rfl (zbZ HT_.out (by kernel_rfl)) (by decide) (fun K hK=>?_)
      refine zb8 Try.func21 (by kernel_rfl) rfl #[.agg #[.bool n2,.slice Aa2 p2.length ca2,.slice Ab2 q2.length cb2]] (by rfl) rfl rfl (by (try simp only [List.map_toArray,List.map_cons,List.map_nil]); first | done | rfl) ?_
      refine(ref_of_n (HP2.out V (HF.out _ hbv.out).2)).mono ?_
      rintro e Vn ⟨_,rfl,⟨m1,m2,rfl,R1,R2⟩,hB⟩
      refine⟨_,rfl,?_⟩
      obtain⟨A3,c3,rfl⟩:=Kd.R_slice R1
      obtain⟨B3,d3,rfl⟩:=Kd.R_slice R2
      have new:QT Vn w.heap.size (.agg #[.bool X2.1,.slice A3 (dg 10000 X2.2.1).length c3,.slice B3 (dg 10000 X2.2.2).length d3]) X2:=⟨_,_,rfl,Kd.R_lower R1 (HF.out _ hbv.out).2.size,Kd.R_lower R2 (HF.out _ hbv.out).2.size⟩
      have hbn:=Aside0.mk (zbx hbv.out hB)
      refine hK.out _ _ ((HF.out _ hbn.out).1) (fun hHeld=>?_)
      clear hK K
      refine zbR (a':=?_) ?_ ?_
      rotate_left
      ·
       show Act.put _ (some 23) _=_
       simp only [Act.put,zA1,zA2,zA3,zbI,zbJ]
       rfl
      exact zbR (by first | (simp only [zb2,Act.put,zA1,zA2,zA3]; done) | (simp only [zb2,Act.put,zA1,zA2,zA3]; rfl)) (hJ1_3_4_5 (A1,c1,B1,d1,A3,c3,B3,d3,g4,g5) _ ⟨(HF.out _ hbn.out).1,K1.out.below hB,new,⟨zbC K4.out.1 hB,K4.out.2⟩,⟨zbC K5.out.1 hB,K5.out.2⟩,E4_5.out,hbn.out⟩)
    ·
     skip
     rintro⟨A1,c1,B1,d1,A3,c3,B3,d3,g5⟩ V ⟨hHeld,kK1,kK3,kK5,hb⟩
     have K1:=Aside0.mk kK1
     have K3:=Aside0.mk kK3
     have K5:=Aside0.mk kK5
     have hbv:=Aside0.mk hb
     clear hb kK1 kK3 kK5
     refine zbR (a':=?_) ?_ ?_
     rotate_left
     ·
      simp only [zb2,Act.put,zA1,zA2,zA3]
      rfl
     refine zct (i:=4) (N:=some 5) #[zt,zt,zt,zt,zt,zt,zf,zf] rfl rfl (zbZ HT_.out (by kernel_rfl)) (by decide) (fun K hK=>?_)
     refine value_ (w1:=?_) (v:=?_) (by rfl) rfl ?_ ?_
     rotate_left 2
     ·
      go_simp
      constructor
      ·
       rfl
      ·
       rfl
     have hB:Below V.heap.size V (V.alloc (.cells #[.bool false,.slice none 0 0,.slice none 0 0] 36 (0,0))):=zbt (Below.refl _ _) _
     have hN:=zb3 V (.cells #[.bool false,.slice none 0 0,.slice none 0 0] 36 (0,0))
     have hbn:=Aside0.mk (zbx hbv.out hB)
     refine hK.out _ _ ((HF.out _ hbn.out).1) (fun hHeld=>?_)
     clear hK K
     refine zbR (a':=?_) ?_ ?_
     rotate_left
     ·
      show Act.put _ (some 5) _=_
      simp only [Act.put,zA1,zA2,zA3,zbI,zbJ]
      rfl
     exact zbR (by first | (simp only [zb2,Act.put,zA1,zA2,zA3]; done) | (simp only [zb2,Act.put,zA1,zA2,zA3]; rfl)) (hJ1_3_4_5 (A1,c1,B1,d1,A3,c3,B3,d3,V.heap.size,g5) _ ⟨(HF.out _ hbn.out).1,K1.out.below hB,K3.out.below hB,⟨hN,hbv.out.size⟩,⟨zbC K5.out.1 hB,K5.out.2⟩,(Nat.ne_of_lt (zbV K5.out.1)).symm,hbn.out⟩)
   ·
    skip
    rintro⟨A1,c1,B1,d1,A3,c3,B3,d3,g4⟩ V ⟨hHeld,kK1,kK3,kK4,hb⟩
    have K1:=Aside0.mk kK1
    have K3:=Aside0.mk kK3
    have K4:=Aside0.mk kK4
    have hbv:=Aside0.mk hb
    clear hb kK1 kK3 kK4
    refine zbR (a':=?_) ?_ ?_
    rotate_left
    ·
     simp only [zb2,Act.put,zA1,zA2,zA3]
     rfl
    refine zct (i:=5) (N:=some 6) #[zt,zt,zt,zt,zt,zt,zf,zf] rfl rfl (zbZ HT_.out (by kernel_rfl)) (by decide) (fun K hK=>?_)
    refine value_ (w1:=?_) (v:=?_) (by rfl) rfl ?_ ?_
    rotate_left 2
    ·
     go_simp
     constructor
     ·
      rfl
     ·
      rfl
    have hB:Below V.heap.size V (V.alloc (.cells #[.bool false,.slice none 0 0,.slice none 0 0] 36 (0,0))):=zbt (Below.refl _ _) _
    have hN:=zb3 V (.cells #[.bool false,.slice none 0 0,.slice none 0 0] 36 (0,0))
    have hbn:=Aside0.mk (zbx hbv.out hB)
    refine hK.out _ _ ((HF.out _ hbn.out).1) (fun hHeld=>?_)
    clear hK K
    refine zbR (a':=?_) ?_ ?_
    rotate_left
    ·
     show Act.put _ (some 6) _=_
     simp only [Act.put,zA1,zA2,zA3,zbI,zbJ]
     rfl
    exact zbR (by first | (simp only [zb2,Act.put,zA1,zA2,zA3]; done) | (simp only [zb2,Act.put,zA1,zA2,zA3]; rfl)) (hJ1_3_4_5 (A1,c1,B1,d1,A3,c3,B3,d3,g4,V.heap.size) _ ⟨(HF.out _ hbn.out).1,K1.out.below hB,K3.out.below hB,⟨zbC K4.out.1 hB,K4.out.2⟩,⟨hN,hbv.out.size⟩,Nat.ne_of_lt (zbV K4.out.1),hbn.out⟩)
  rintro⟨A1,c1,B1,d1,A3,c3,B3,d3,g4,g5⟩ V ⟨hHeld,kK1,kK3,kK4,kK5,kE4_5,hb⟩
  have K1:=Aside0.mk kK1
  have K3:=Aside0.mk kK3
  have K4:=Aside0.mk kK4
  have K5:=Aside0.mk kK5
  have E4_5:=Aside0.mk kE4_5
  have hbv:=Aside0.mk hb
  clear hb kK1 kK3 kK4 kK5 kE4_5
  refine zbR (a':=?_) ?_ ?_
  rotate_left
  ·
   simp only [zb2,Act.put,zA1,zA2,zA3]
   rfl
  refine last_ (i:=6) (N:=none) #[zt,zt,zt,zt,zt,zt,zt,zf] rfl rfl (zbZ HT_.out (by kernel_rfl)) (by decide) (fun K hK=>?_)
  obtain⟨⟨z0,z1,z2⟩,z3,z4,z5⟩:=zbK K4.out.1
  obtain⟨⟨z6,z7,z8⟩,z9,z10,z11⟩:=zbK K5.out.1
  have ne1:=E4_5.out
  have ne2:=ne1.symm
  refine skip_ (w1:=?_) (by rfl) rfl ?_ ?_
  rotate_left
  ·
   go_simp
   rfl
  refine hK.out _ _ ?_
  clear hK K
  refine last_ (i:=7) (N:=none) #[zt,zt,zt,zt,zt,zt,zt,zt] rfl rfl (zbZ HT_.out (by kernel_rfl)) (by decide) (fun K hK=>?_)
  refine skip_ (w1:=?_) (by rfl) rfl ?_ ?_
  rotate_left
  ·
   go_simp
   rfl
  refine hK.out _ _ ?_
  clear hK K
  refine done_ (done_of HT_.out (by kernel_rfl)) ?_
  clear hHeld z0 z1 z2 z3 z4 z5 z6 z7 z8 z9 z10 z11 ne1 ne2
  rw [store3_eq,store3_eq]
  have hg4:=(zcf E4_5.out (.bool X2.1) (.slice A3 (dg 10000 X2.2.1).length c3) (.slice B3 (dg 10000 X2.2.2).length d3)).trans (zb1 (K4.out.1) (.bool X1.1) (.slice A1 (dg 10000 X1.2.1).length c1) (.slice B1 (dg 10000 X1.2.2).length d1))
  have hg5:=zb1 ((zcf E4_5.out.symm (.bool X1.1) (.slice A1 (dg 10000 X1.2.1).length c1) (.slice B1 (dg 10000 X1.2.2).length d1)).trans (K5.out.1)) (.bool X2.1) (.slice A3 (dg 10000 X2.2.1).length c3) (.slice B3 (dg 10000 X2.2.2).length d3)
  have hq1:=((K1.out.store3 K4.out.1 (.bool X1.1) (.slice A1 (dg 10000 X1.2.1).length c1) (.slice B1 (dg 10000 X1.2.2).length d1)).store3 ((zcf E4_5.out.symm (.bool X1.1) (.slice A1 (dg 10000 X1.2.1).length c1) (.slice B1 (dg 10000 X1.2.2).length d1)).trans (K5.out.1)) (.bool X2.1) (.slice A3 (dg 10000 X2.2.1).length c3) (.slice B3 (dg 10000 X2.2.2).length d3))
  have hq3:=((K3.out.store3 K4.out.1 (.bool X1.1) (.slice A1 (dg 10000 X1.2.1).length c1) (.slice B1 (dg 10000 X1.2.2).length d1)).store3 ((zcf E4_5.out.symm (.bool X1.1) (.slice A1 (dg 10000 X1.2.1).length c1) (.slice B1 (dg 10000 X1.2.2).length d1)).trans (K5.out.1)) (.bool X2.1) (.slice A3 (dg 10000 X2.2.1).length c3) (.slice B3 (dg 10000 X2.2.2).length d3))
  have hb8:Below W2.heap.size W2 (store3 (store3 V g4 (.bool X1.1) (.slice A1 (dg 10000 X1.2.1).length c1) (.slice B1 (dg 10000 X1.2.2).length d1)) g5 (.bool X2.1) (.slice A3 (dg 10000 X2.2.1).length c3) (.slice B3 (dg 10000 X2.2.2).length d3)):=zbU (zbU (hbv.out) K4.out.2 (.bool X1.1) (.slice A1 (dg 10000 X1.2.1).length c1) (.slice B1 (dg 10000 X1.2.2).length d1)) K5.out.2 (.bool X2.1) (.slice A3 (dg 10000 X2.2.1).length c3) (.slice B3 (dg 10000 X2.2.2).length d3)
  generalize store3 (store3 V g4 (.bool X1.1) (.slice A1 (dg 10000 X1.2.1).length c1) (.slice B1 (dg 10000 X1.2.2).length d1)) g5 (.bool X2.1) (.slice A3 (dg 10000 X2.2.1).length c3) (.slice B3 (dg 10000 X2.2.2).length d3)=W8 at hg4 hg5 hq1 hq3 hb8 ⊢
  clear hbv K1 K3 K4 K5 E4_5
  have hS0:(W8.cell? ⟨w.heap.size,0,none⟩=some (.bool n1)∧W8.cell? ⟨w.heap.size,1,none⟩=some (.slice Aa1 p1.length ca1)∧W8.cell? ⟨w.heap.size,2,none⟩=some (.slice Ab1 q1.length cb1)∧W8.cell? ⟨w.heap.size+1,0,none⟩=some (.bool n2)∧W8.cell? ⟨w.heap.size+1,1,none⟩=some (.slice Aa2 p2.length ca2)∧W8.cell? ⟨w.heap.size+1,2,none⟩=some (.slice Ab2 q2.length cb2)∧W8.cell? ⟨g4,0,none⟩=some (.bool X1.1)∧W8.cell? ⟨g4,1,none⟩=some (.slice A1 (dg 10000 X1.2.1).length c1)∧W8.cell? ⟨g4,2,none⟩=some (.slice B1 (dg 10000 X1.2.2).length d1)∧W8.cell? ⟨g5,0,none⟩=some (.bool X2.1)∧W8.cell? ⟨g5,1,none⟩=some (.slice A3 (dg 10000 X2.2.1).length c3)∧W8.cell? ⟨g5,2,none⟩=some (.slice B3 (dg 10000 X2.2.2).length d3)):=⟨(zbv (zbC HX1.out hb8) 0).trans rfl,(zbv (zbC HX1.out hb8) 1).trans rfl,(zbv (zbC HX1.out hb8) 2).trans rfl,(zbv (zbC HX2.out hb8) 0).trans rfl,(zbv (zbC HX2.out hb8) 1).trans rfl,(zbv (zbC HX2.out hb8) 2).trans rfl,(zbv hg4 0).trans rfl,(zbv hg4 1).trans rfl,(zbv hg4 2).trans rfl,(zbv hg5 0).trans rfl,(zbv hg5 1).trans rfl,(zbv hg5 2).trans rfl⟩
  have HG:Aside0 (∀ w':World,Below W8.heap.size W8 w'→(w'.cell? ⟨w.heap.size,0,none⟩=some (.bool n1)∧w'.cell? ⟨w.heap.size,1,none⟩=some (.slice Aa1 p1.length ca1)∧w'.cell? ⟨w.heap.size,2,none⟩=some (.slice Ab1 q1.length cb1)∧w'.cell? ⟨w.heap.size+1,0,none⟩=some (.bool n2)∧w'.cell? ⟨w.heap.size+1,1,none⟩=some (.slice Aa2 p2.length ca2)∧w'.cell? ⟨w.heap.size+1,2,none⟩=some (.slice Ab2 q2.length cb2)∧w'.cell? ⟨g4,0,none⟩=some (.bool X1.1)∧w'.cell? ⟨g4,1,none⟩=some (.slice A1 (dg 10000 X1.2.1).length c1)∧w'.cell? ⟨g4,2,none⟩=some (.slice B1 (dg 10000 X1.2.2).length d1)∧w'.cell? ⟨g5,0,none⟩=some (.bool X2.1)∧w'.cell? ⟨g5,1,none⟩=some (.slice A3 (dg 10000 X2.2.1).length c3)∧w'.cell? ⟨g5,2,none⟩=some (.slice B3 (dg 10000 X2.2.2).length d3))∧QD w' (.agg #[.bool X1.1,.slice A1 (dg 10000 X1.2.1).length c1,.slice B1 (dg 10000 X1.2.2).length d1]) X1∧QD w' (.agg #[.bool X2.1,.slice A3 (dg 10000 X2.2.1).length c3,.slice B3 (dg 10000 X2.2.2).length d3]) X2∧Below w.heap.size w w'):=⟨fun W hb=>⟨⟨(zbv (zbC (zbC HX1.out hb8) hb) 0).trans rfl,(zbv (zbC (zbC HX1.out hb8) hb) 1).trans rfl,(zbv (zbC (zbC HX1.out hb8) hb) 2).trans rfl,(zbv (zbC (zbC HX2.out hb8) hb) 0).trans rfl,(zbv (zbC (zbC HX2.out hb8) hb) 1).trans rfl,(zbv (zbC (zbC HX2.out hb8) hb) 2).trans rfl,(zbv (zbC hg4 hb) 0).trans rfl,(zbv (zbC hg4 hb) 1).trans rfl,(zbv (zbC hg4 hb) 2).trans rfl,(zbv (zbC hg5 hb) 0).trans rfl,(zbv (zbC hg5 hb) 1).trans rfl,(zbv (zbC hg5 hb) 2).trans rfl⟩,hq1.qd.below hb,hq3.qd.below hb,zbx (HF.out _ hb8).2 hb⟩⟩
  obtain⟨s0,s1,s2,s3,s4,s5,s6,s7,s8,s9,s10,s11⟩:=hS0
  clear hg4 hg5 hq1 hq3 hb8 HF HX1 HX2 HB2 hb0
  go_wp2_with fail
  clear s0 s1 s2 s3 s4 s5 s6 s7 s8 s9 s10 s11
  refine(C0.out W8 _ _ (HG.out _ (Below.refl _ _)).2.1 (HG.out _ (Below.refl _ _)).2.2.1).mono ?_
  rintro e W9 ⟨rfl,hB⟩
  have hd:=Aside0.mk hB
  clear hB
  obtain⟨he1,he2,he3,he4⟩:=HE.out
  go_wp2_with fail
  refine zcM (n:=33) (S:=fun w'=>(w'.cell? ⟨w.heap.size,0,none⟩=some (.bool n1)∧w'.cell? ⟨w.heap.size,1,none⟩=some (.slice Aa1 p1.length ca1)∧w'.cell? ⟨w.heap.size,2,none⟩=some (.slice Ab1 q1.length cb1)∧w'.cell? ⟨w.heap.size+1,0,none⟩=some (.bool n2)∧w'.cell? ⟨w.heap.size+1,1,none⟩=some (.slice Aa2 p2.length ca2)∧w'.cell? ⟨w.heap.size+1,2,none⟩=some (.slice Ab2 q2.length cb2)∧w'.cell? ⟨g4,0,none⟩=some (.bool X1.1)∧w'.cell? ⟨g4,1,none⟩=some (.slice A1 (dg 10000 X1.2.1).length c1)∧w'.cell? ⟨g4,2,none⟩=some (.slice B1 (dg 10000 X1.2.2).length d1)∧w'.cell? ⟨g5,0,none⟩=some (.bool X2.1)∧w'.cell? ⟨g5,1,none⟩=some (.slice A3 (dg 10000 X2.2.1).length c3)∧w'.cell? ⟨g5,2,none⟩=some (.slice B3 (dg 10000 X2.2.2).length d3))) (ds:=[]) #[zf,zf,zf,zf,zf,zf,zf,zf,zf,zf,zf,zf,zf,zf,zf,zf,zf,zf,zf,zf,zf,zf,zf,zf,zf,zf,zf,zf,zf,zf,zf,zf,zf] (by kernel_rfl) rfl rfl ((HG.out _ (zbu hd.out)).1) (fun hHeld=>?_)
  refine zcA ratOrders.tab5 ratOrders.bits5 (fun HT_ HW_=>?_)
  have hb0:=Aside0.mk (zbu hd.out)
  generalize W9.drew=V0 at hb0 hHeld ⊢
  refine zbS (i:=5) (N:=some 32) (v:=?_) (a':=?_) #[zf,zf,zf,zf,zf,zt,zf,zf,zf,zf,zf,zf,zf,zf,zf,zf,zf,zf,zf,zf,zf,zf,zf,zf,zf,zf,zf,zf,zf,zf,zf,zf,zf] rfl rfl (zbP HT_.out (by kernel_rfl)) (fun _ _ _ h=>h) (Or.inl ⟨by rfl,?_⟩) ?_ ?_
  rotate_left
  ·
   intro w'
   go_simp
   with_reducible rfl
  rotate_left
  ·
   simp only [Act.put,zA1,zA2,zA3,zbI,zbJ]
   rfl
  refine take_ (i:=0) (N:=some 27) (v:=?_) (a':=?_) #[zt,zf,zf,zf,zf,zt,zf,zf,zf,zf,zf,zf,zf,zf,zf,zf,zf,zf,zf,zf,zf,zf,zf,zf,zf,zf,zf,zf,zf,zf,zf,zf,zf] rfl rfl (zbY HT_.out HW_.out (by kernel_rfl)) (fun _ _ _ h=>h) (Or.inl ⟨by rfl,?_⟩) hHeld ?_ ?_
  rotate_left
  ·
   intro w' s0
   go_simp
   with_reducible rfl
  rotate_left
  ·
   simp only [Act.put,zA1,zA2,zA3,zbI,zbJ]
   rfl
  refine take_ (i:=2) (N:=some 29) (v:=?_) (a':=?_) #[zt,zf,zt,zf,zf,zt,zf,zf,zf,zf,zf,zf,zf,zf,zf,zf,zf,zf,zf,zf,zf,zf,zf,zf,zf,zf,zf,zf,zf,zf,zf,zf,zf] rfl rfl (zbY HT_.out HW_.out (by kernel_rfl)) (fun _ _ _ h=>h) (Or.inl ⟨by rfl,?_⟩) hHeld ?_ ?_
  rotate_left
  ·
   intro w' s0
   go_simp
   with_reducible rfl
  rotate_left
  ·
   simp only [Act.put,zA1,zA2,zA3,zbI,zbJ]
   rfl
  refine zct (i:=1) (N:=some 28) #[zt,zt,zt,zf,zf,zt,zf,zf,zf,zf,zf,zf,zf,zf,zf,zf,zf,zf,zf,zf,zf,zf,zf,zf,zf,zf,zf,zf,zf,zf,zf,zf,zf] rfl rfl (zbZ HT_.out (by kernel_rfl)) (by decide) (fun K hK=>?_)
  refine zb8 Try.func17 (by kernel_rfl) rfl #[.agg #[.bool n1,.slice Aa1 p1.length ca1,.slice Ab1 q1.length cb1]] (by rfl) rfl rfl (by (try simp only [List.map_toArray,List.map_cons,List.map_nil]); first | done | rfl) ?_
  refine(ownR_n (HP1.out V0 (HG.out _ hb0.out).2.2.2)).mono ?_
  rintro e V1 ⟨o1,rfl,hN,hB⟩
  refine⟨_,rfl,?_⟩
  have O1:=Aside0.mk hN
  have hb1:=Aside0.mk (zbx hb0.out hB)
  clear hB hb0 hN
  refine hK.out _ _ ((HG.out _ hb1.out).1) (fun hHeld=>?_)
  clear hK K
  refine zbR (a':=?_) ?_ ?_
  rotate_left
  ·
   show Act.put _ (some 28) _=_
   simp only [Act.put,zA1,zA2,zA3,zbI,zbJ]
   rfl
  refine zct (i:=3) (N:=some 30) #[zt,zt,zt,zt,zf,zt,zf,zf,zf,zf,zf,zf,zf,zf,zf,zf,zf,zf,zf,zf,zf,zf,zf,zf,zf,zf,zf,zf,zf,zf,zf,zf,zf] rfl rfl (zbZ HT_.out (by kernel_rfl)) (by decide) (fun K hK=>?_)
  refine zb8 Try.func17 (by kernel_rfl) rfl #[.agg #[.bool n2,.slice Aa2 p2.length ca2,.slice Ab2 q2.length cb2]] (by rfl) rfl rfl (by (try simp only [List.map_toArray,List.map_cons,List.map_nil]); first | done | rfl) ?_
  refine(ownR_n (HP2.out V1 (HG.out _ hb1.out).2.2.2)).mono ?_
  rintro e V2 ⟨o3,rfl,hN,hB⟩
  refine⟨_,rfl,?_⟩
  replace O1:=Aside0.mk (O1.out.below hB)
  have O2:=Aside0.mk hN
  have hb2:=Aside0.mk (zbx hb1.out hB)
  clear hB hb1 hN
  refine hK.out _ _ ((HG.out _ hb2.out).1) (fun hHeld=>?_)
  clear hK K
  refine zbR (a':=?_) ?_ ?_
  rotate_left
  ·
   show Act.put _ (some 30) _=_
   simp only [Act.put,zA1,zA2,zA3,zbI,zbJ]
   rfl
  refine zct (i:=4) (N:=some 31) #[zt,zt,zt,zt,zt,zt,zf,zf,zf,zf,zf,zf,zf,zf,zf,zf,zf,zf,zf,zf,zf,zf,zf,zf,zf,zf,zf,zf,zf,zf,zf,zf,zf] rfl rfl (zbZ HT_.out (by kernel_rfl)) (by decide) (fun K hK=>?_)
  refine zb8 Try.func42 (by kernel_rfl) rfl #[o1,o3] (by rfl) rfl rfl (by (try simp only [List.map_toArray,List.map_cons,List.map_nil]); first | done | rfl) ?_
  refine(C1.out V2 _ _ O1.out O2.out).mono ?_
  rintro e V3 ⟨rfl,hB⟩
  refine⟨_,rfl,?_⟩
  clear O1 O2
  have hb3:=Aside0.mk (zbx hb2.out hB)
  clear hB hb2
  refine hK.out _ _ ((HG.out _ hb3.out).1) (fun hHeld=>?_)
  clear hK K
  refine zbR (a':=?_) ?_ ?_
  rotate_left
  ·
   show Act.put _ (some 31) _=_
   simp only [Act.put,zA1,zA2,zA3,zbI,zbJ]
   rfl
  refine zbS (i:=6) (N:=some 33) (v:=?_) (a':=?_) #[zt,zt,zt,zt,zt,zt,zt,zf,zf,zf,zf,zf,zf,zf,zf,zf,zf,zf,zf,zf,zf,zf,zf,zf,zf,zf,zf,zf,zf,zf,zf,zf,zf] rfl rfl (zbP HT_.out (by kernel_rfl)) (fun _ _ _ h=>h) (Or.inl ⟨by rfl,?_⟩) ?_ ?_
  rotate_left
  ·
   intro w'
   go_simp
   with_reducible rfl
  rotate_left
  ·
   simp only [Act.put,zA1,zA2,zA3,zbI,zbJ]
   rfl
  refine zbS (i:=7) (N:=some 34) (v:=?_) (a':=?_) #[zt,zt,zt,zt,zt,zt,zt,zt,zf,zf,zf,zf,zf,zf,zf,zf,zf,zf,zf,zf,zf,zf,zf,zf,zf,zf,zf,zf,zf,zf,zf,zf,zf] rfl rfl (zbP HT_.out (by kernel_rfl)) (fun _ _ _ h=>h) (Or.inl ⟨by rfl,?_⟩) ?_ ?_
  rotate_left
  ·
   intro w'
   go_simp
   with_reducible rfl
  rotate_left
  ·
   simp only [Act.put,zA1,zA2,zA3,zbI,zbJ]
   rfl
  refine zbS (i:=11) (N:=some 38) (v:=?_) (a':=?_) #[zt,zt,zt,zt,zt,zt,zt,zt,zf,zf,zf,zt,zf,zf,zf,zf,zf,zf,zf,zf,zf,zf,zf,zf,zf,zf,zf,zf,zf,zf,zf,zf,zf] rfl rfl (zbP HT_.out (by kernel_rfl)) (fun _ _ _ h=>h) (Or.inl ⟨by rfl,?_⟩) ?_ ?_
  rotate_left
  ·
   intro w'
   go_simp
   with_reducible rfl
  rotate_left
  ·
   simp only [Act.put,zA1,zA2,zA3,zbI,zbJ]
   rfl
  refine zbS (i:=12) (N:=some 39) (v:=?_) (a':=?_) #[zt,zt,zt,zt,zt,zt,zt,zt,zf,zf,zf,zt,zt,zf,zf,zf,zf,zf,zf,zf,zf,zf,zf,zf,zf,zf,zf,zf,zf,zf,zf,zf,zf] rfl rfl (zbP HT_.out (by kernel_rfl)) (fun _ _ _ h=>h) (Or.inl ⟨by rfl,?_⟩) ?_ ?_
  rotate_left
  ·
   intro w'
   go_simp
   with_reducible rfl
  rotate_left
  ·
   simp only [Act.put,zA1,zA2,zA3,zbI,zbJ]
   rfl
  refine take_ (i:=8) (N:=some 35) (v:=?_) (a':=?_) #[zt,zt,zt,zt,zt,zt,zt,zt,zt,zf,zf,zt,zt,zf,zf,zf,zf,zf,zf,zf,zf,zf,zf,zf,zf,zf,zf,zf,zf,zf,zf,zf,zf] rfl rfl (zbY HT_.out HW_.out (by kernel_rfl)) (fun _ _ _ h=>h) (Or.inl ⟨by rfl,?_⟩) hHeld ?_ ?_
  rotate_left
  ·
   intro w' s0
   go_simp
   with_reducible rfl
  rotate_left
  ·
   simp only [Act.put,zA1,zA2,zA3,zbI,zbJ]
   rfl
  refine take_ (i:=9) (N:=some 36) (v:=?_) (a':=?_) #[zt,zt,zt,zt,zt,zt,zt,zt,zt,zt,zf,zt,zt,zf,zf,zf,zf,zf,zf,zf,zf,zf,zf,zf,zf,zf,zf,zf,zf,zf,zf,zf,zf] rfl rfl (zbY HT_.out HW_.out (by kernel_rfl)) (fun _ _ _ h=>h) (Or.inl ⟨by rfl,?_⟩) hHeld ?_ ?_
  rotate_left
  ·
   intro w' s0
   go_simp
   with_reducible rfl
  rotate_left
  ·
   simp only [Act.put,zA1,zA2,zA3,zbI,zbJ]
   rfl
  refine zct (i:=10) (N:=some 37) #[zt,zt,zt,zt,zt,zt,zt,zt,zt,zt,zt,zt,zt,zf,zf,zf,zf,zf,zf,zf,zf,zf,zf,zf,zf,zf,zf,zf,zf,zf,zf,zf,zf] rfl rfl (zbZ HT_.out (by kernel_rfl)) (by decide) (fun K hK=>?_)
  refine zb8 Try.func44 (by kernel_rfl) rfl #[.agg #[.bool n1,.slice Aa1 p1.length ca1,.slice Ab1 q1.length cb1],.agg #[.bool n2,.slice Aa2 p2.length ca2,.slice Ab2 q2.length cb2]] (by rfl) rfl rfl (by (try simp only [List.map_toArray,List.map_cons,List.map_nil]); first | done | rfl) ?_
  refine(C2.out V3 _ _ (HP1.out V3 (HG.out _ hb3.out).2.2.2) (HP2.out V3 (HG.out _ hb3.out).2.2.2)).mono ?_
  rintro e V4 ⟨rfl,hB⟩
  refine⟨_,rfl,?_⟩
  have hb4:=Aside0.mk (zbx hb3.out hB)
  clear hB hb3
  refine hK.out _ _ ((HG.out _ hb4.out).1) (fun hHeld=>?_)
  clear hK K
  refine zbR (a':=?_) ?_ ?_
  rotate_left
  ·
   show Act.put _ (some 37) _=_
   simp only [Act.put,zA1,zA2,zA3,zbI,zbJ]
   rfl
  refine zbS (i:=13) (N:=some 40) (v:=?_) (a':=?_) #[zt,zt,zt,zt,zt,zt,zt,zt,zt,zt,zt,zt,zt,zt,zf,zf,zf,zf,zf,zf,zf,zf,zf,zf,zf,zf,zf,zf,zf,zf,zf,zf,zf] rfl rfl (zbP HT_.out (by kernel_rfl)) (fun _ _ _ h=>h) (Or.inl ⟨by rfl,?_⟩) ?_ ?_
  rotate_left
  ·
   intro w'
   go_simp
   with_reducible rfl
  rotate_left
  ·
   simp only [Act.put,zA1,zA2,zA3,zbI,zbJ]
   rfl
  refine zbS (i:=14) (N:=some 41) (v:=?_) (a':=?_) #[zt,zt,zt,zt,zt,zt,zt,zt,zt,zt,zt,zt,zt,zt,zt,zf,zf,zf,zf,zf,zf,zf,zf,zf,zf,zf,zf,zf,zf,zf,zf,zf,zf] rfl rfl (zbP HT_.out (by kernel_rfl)) (fun _ _ _ h=>h) (Or.inl ⟨by rfl,?_⟩) ?_ ?_
  rotate_left
  ·
   intro w'
   go_simp
   with_reducible rfl
  rotate_left
  ·
   simp only [Act.put,zA1,zA2,zA3,zbI,zbJ]
   rfl
  refine zbS (i:=15) (N:=some 42) (v:=?_) (a':=?_) #[zt,zt,zt,zt,zt,zt,zt,zt,zt,zt,zt,zt,zt,zt,zt,zt,zf,zf,zf,zf,zf,zf,zf,zf,zf,zf,zf,zf,zf,zf,zf,zf,zf] rfl rfl (zbP HT_.out (by kernel_rfl)) (fun _ _ _ h=>h) (Or.inl ⟨by rfl,?_⟩) ?_ ?_
  rotate_left
  ·
   intro w'
   go_simp
   with_reducible rfl
  rotate_left
  ·
   simp only [Act.put,zA1,zA2,zA3,zbI,zbJ]
   rfl
  refine take_ (i:=16) (N:=some 43) (v:=?_) (a':=?_) #[zt,zt,zt,zt,zt,zt,zt,zt,zt,zt,zt,zt,zt,zt,zt,zt,zt,zf,zf,zf,zf,zf,zf,zf,zf,zf,zf,zf,zf,zf,zf,zf,zf] rfl rfl (zbY HT_.out HW_.out (by kernel_rfl)) (fun _ _ _ h=>h) (Or.inl ⟨by rfl,?_⟩) hHeld ?_ ?_
  rotate_left
  ·
   intro w' s0
   go_simp
   with_reducible rfl
  rotate_left
  ·
   simp only [Act.put,zA1,zA2,zA3,zbI,zbJ]
   rfl
  refine take_ (i:=18) (N:=some 45) (v:=?_) (a':=?_) #[zt,zt,zt,zt,zt,zt,zt,zt,zt,zt,zt,zt,zt,zt,zt,zt,zt,zf,zt,zf,zf,zf,zf,zf,zf,zf,zf,zf,zf,zf,zf,zf,zf] rfl rfl (zbY HT_.out HW_.out (by kernel_rfl)) (fun _ _ _ h=>h) (Or.inl ⟨by rfl,?_⟩) hHeld ?_ ?_
  rotate_left
  ·
   intro w' s0
   go_simp
   with_reducible rfl
  rotate_left
  ·
   simp only [Act.put,zA1,zA2,zA3,zbI,zbJ]
   rfl
  refine zct (i:=17) (N:=some 44) #[zt,zt,zt,zt,zt,zt,zt,zt,zt,zt,zt,zt,zt,zt,zt,zt,zt,zt,zt,zf,zf,zf,zf,zf,zf,zf,zf,zf,zf,zf,zf,zf,zf] rfl rfl (zbZ HT_.out (by kernel_rfl)) (by decide) (fun K hK=>?_)
  refine zb8 Try.func41 (by kernel_rfl) rfl #[.agg #[.bool n1,.slice Aa1 p1.length ca1,.slice Ab1 q1.length cb1]] (by rfl) rfl rfl (by (try simp only [List.map_toArray,List.map_cons,List.map_nil]); first | done | rfl) ?_
  refine(C3.out V4 _ (HP1.out V4 (HG.out _ hb4.out).2.2.2)).mono ?_
  rintro e V5 ⟨rfl,hB⟩
  refine⟨_,rfl,?_⟩
  have hb5:=Aside0.mk (zbx hb4.out hB)
  clear hB hb4
  refine hK.out _ _ ((HG.out _ hb5.out).1) (fun hHeld=>?_)
  clear hK K
  refine zbR (a':=?_) ?_ ?_
  rotate_left
  ·
   show Act.put _ (some 44) _=_
   simp only [Act.put,zA1,zA2,zA3,zbI,zbJ]
   rfl
  refine zct (i:=19) (N:=some 46) #[zt,zt,zt,zt,zt,zt,zt,zt,zt,zt,zt,zt,zt,zt,zt,zt,zt,zt,zt,zt,zf,zf,zf,zf,zf,zf,zf,zf,zf,zf,zf,zf,zf] rfl rfl (zbZ HT_.out (by kernel_rfl)) (by decide) (fun K hK=>?_)
  refine zb8 Try.func45 (by kernel_rfl) rfl #[.agg #[.bool X1.1,.slice A1 (dg 10000 X1.2.1).length c1,.slice B1 (dg 10000 X1.2.2).length d1]] (by rfl) rfl rfl (by (try simp only [List.map_toArray,List.map_cons,List.map_nil]); first | done | rfl) ?_
  refine(C4.out V5 _ (HG.out _ hb5.out).2.1).mono ?_
  rintro e V6 ⟨rfl,hB⟩
  refine⟨_,rfl,?_⟩
  have hb6:=Aside0.mk (zbx hb5.out hB)
  clear hB hb5
  refine hK.out _ _ ((HG.out _ hb6.out).1) (fun hHeld=>?_)
  clear hK K
  refine zbR (a':=?_) ?_ ?_
  rotate_left
  ·
   show Act.put _ (some 46) _=_
   simp only [Act.put,zA1,zA2,zA3,zbI,zbJ]
   rfl
  refine zbS (i:=20) (N:=some 47) (v:=?_) (a':=?_) #[zt,zt,zt,zt,zt,zt,zt,zt,zt,zt,zt,zt,zt,zt,zt,zt,zt,zt,zt,zt,zt,zf,zf,zf,zf,zf,zf,zf,zf,zf,zf,zf,zf] rfl rfl (zbP HT_.out (by kernel_rfl)) (fun _ _ _ h=>h) (Or.inl ⟨by rfl,?_⟩) ?_ ?_
  rotate_left
  ·
   intro w'
   go_simp
   with_reducible rfl
  rotate_left
  ·
   simp only [Act.put,zA1,zA2,zA3,zbI,zbJ]
   rfl
  refine zbS (i:=21) (N:=some 48) (v:=?_) (a':=?_) #[zt,zt,zt,zt,zt,zt,zt,zt,zt,zt,zt,zt,zt,zt,zt,zt,zt,zt,zt,zt,zt,zt,zf,zf,zf,zf,zf,zf,zf,zf,zf,zf,zf] rfl rfl (zbP HT_.out (by kernel_rfl)) (fun _ _ _ h=>h) (Or.inl ⟨by rfl,?_⟩) ?_ ?_
  rotate_left
  ·
   intro w'
   go_simp
   with_reducible rfl
  rotate_left
  ·
   simp only [Act.put,zA1,zA2,zA3,zbI,zbJ]
   rfl
  refine zbS (i:=22) (N:=some 49) (v:=?_) (a':=?_) #[zt,zt,zt,zt,zt,zt,zt,zt,zt,zt,zt,zt,zt,zt,zt,zt,zt,zt,zt,zt,zt,zt,zt,zf,zf,zf,zf,zf,zf,zf,zf,zf,zf] rfl rfl (zbP HT_.out (by kernel_rfl)) (fun _ _ _ h=>h) (Or.inl ⟨by rfl,?_⟩) ?_ ?_
  rotate_left
  ·
   intro w'
   go_simp
   with_reducible rfl
  rotate_left
  ·
   simp only [Act.put,zA1,zA2,zA3,zbI,zbJ]
   rfl
  refine take_ (i:=23) (N:=some 50) (v:=?_) (a':=?_) #[zt,zt,zt,zt,zt,zt,zt,zt,zt,zt,zt,zt,zt,zt,zt,zt,zt,zt,zt,zt,zt,zt,zt,zt,zf,zf,zf,zf,zf,zf,zf,zf,zf] rfl rfl (zbY HT_.out HW_.out (by kernel_rfl)) (fun _ _ _ h=>h) (Or.inl ⟨by rfl,?_⟩) hHeld ?_ ?_
  rotate_left
  ·
   intro w' s0
   go_simp
   with_reducible rfl
  rotate_left
  ·
   simp only [Act.put,zA1,zA2,zA3,zbI,zbJ]
   rfl
  refine take_ (i:=25) (N:=some 52) (v:=?_) (a':=?_) #[zt,zt,zt,zt,zt,zt,zt,zt,zt,zt,zt,zt,zt,zt,zt,zt,zt,zt,zt,zt,zt,zt,zt,zt,zf,zt,zf,zf,zf,zf,zf,zf,zf] rfl rfl (zbY HT_.out HW_.out (by kernel_rfl)) (fun _ _ _ h=>h) (Or.inl ⟨by rfl,?_⟩) hHeld ?_ ?_
  rotate_left
  ·
   intro w' s0
   go_simp
   with_reducible rfl
  rotate_left
  ·
   simp only [Act.put,zA1,zA2,zA3,zbI,zbJ]
   rfl
  refine zct (i:=24) (N:=some 51) #[zt,zt,zt,zt,zt,zt,zt,zt,zt,zt,zt,zt,zt,zt,zt,zt,zt,zt,zt,zt,zt,zt,zt,zt,zt,zt,zf,zf,zf,zf,zf,zf,zf] rfl rfl (zbZ HT_.out (by kernel_rfl)) (by decide) (fun K hK=>?_)
  refine zb8 Try.func46 (by kernel_rfl) rfl #[.agg #[.bool n1,.slice Aa1 p1.length ca1,.slice Ab1 q1.length cb1]] (by rfl) rfl rfl (by (try simp only [List.map_toArray,List.map_cons,List.map_nil]); first | done | rfl) ?_
  refine(C5.out V6 _ (HP1.out V6 (HG.out _ hb6.out).2.2.2)).mono ?_
  rintro e V7 ⟨rfl,hB⟩
  refine⟨_,rfl,?_⟩
  have hb7:=Aside0.mk (zbx hb6.out hB)
  clear hB hb6
  refine hK.out _ _ ((HG.out _ hb7.out).1) (fun hHeld=>?_)
  clear hK K
  refine zbR (a':=?_) ?_ ?_
  rotate_left
  ·
   show Act.put _ (some 51) _=_
   simp only [Act.put,zA1,zA2,zA3,zbI,zbJ]
   rfl
  refine zct (i:=26) (N:=some 53) #[zt,zt,zt,zt,zt,zt,zt,zt,zt,zt,zt,zt,zt,zt,zt,zt,zt,zt,zt,zt,zt,zt,zt,zt,zt,zt,zt,zf,zf,zf,zf,zf,zf] rfl rfl (zbZ HT_.out (by kernel_rfl)) (by decide) (fun K hK=>?_)
  refine zb8 Try.func47 (by kernel_rfl) rfl #[.agg #[.bool X1.1,.slice A1 (dg 10000 X1.2.1).length c1,.slice B1 (dg 10000 X1.2.2).length d1]] (by rfl) rfl rfl (by (try simp only [List.map_toArray,List.map_cons,List.map_nil]); first | done | rfl) ?_
  refine(C6.out V7 _ (HG.out _ hb7.out).2.1).mono ?_
  rintro e V8 ⟨rfl,hB⟩
  refine⟨_,rfl,?_⟩
  have hb8:=Aside0.mk (zbx hb7.out hB)
  clear hB hb7
  refine hK.out _ _ ((HG.out _ hb8.out).1) (fun hHeld=>?_)
  clear hK K
  refine zbR (a':=?_) ?_ ?_
  rotate_left
  ·
   show Act.put _ (some 53) _=_
   simp only [Act.put,zA1,zA2,zA3,zbI,zbJ]
   rfl
  refine zbS (i:=27) (N:=some 54) (v:=?_) (a':=?_) #[zt,zt,zt,zt,zt,zt,zt,zt,zt,zt,zt,zt,zt,zt,zt,zt,zt,zt,zt,zt,zt,zt,zt,zt,zt,zt,zt,zt,zf,zf,zf,zf,zf] rfl rfl (zbP HT_.out (by kernel_rfl)) (fun _ _ _ h=>h) (Or.inl ⟨by rfl,?_⟩) ?_ ?_
  rotate_left
  ·
   intro w'
   go_simp
   with_reducible rfl
  rotate_left
  ·
   simp only [Act.put,zA1,zA2,zA3,zbI,zbJ]
   rfl
  refine zbS (i:=28) (N:=some 55) (v:=?_) (a':=?_) #[zt,zt,zt,zt,zt,zt,zt,zt,zt,zt,zt,zt,zt,zt,zt,zt,zt,zt,zt,zt,zt,zt,zt,zt,zt,zt,zt,zt,zt,zf,zf,zf,zf] rfl rfl (zbP HT_.out (by kernel_rfl)) (fun _ _ _ h=>h) (Or.inl ⟨by rfl,?_⟩) ?_ ?_
  rotate_left
  ·
   intro w'
   go_simp
   with_reducible rfl
  rotate_left
  ·
   simp only [Act.put,zA1,zA2,zA3,zbI,zbJ]
   rfl
  refine zbS (i:=29) (N:=some 56) (v:=?_) (a':=?_) #[zt,zt,zt,zt,zt,zt,zt,zt,zt,zt,zt,zt,zt,zt,zt,zt,zt,zt,zt,zt,zt,zt,zt,zt,zt,zt,zt,zt,zt,zt,zf,zf,zf] rfl rfl (zbP HT_.out (by kernel_rfl)) (fun _ _ _ h=>h) (Or.inl ⟨by rfl,?_⟩) ?_ ?_
  rotate_left
  ·
   intro w'
   go_simp
   with_reducible rfl
  rotate_left
  ·
   simp only [Act.put,zA1,zA2,zA3,zbI,zbJ]
   rfl
  refine zct (i:=30) (N:=some 57) #[zt,zt,zt,zt,zt,zt,zt,zt,zt,zt,zt,zt,zt,zt,zt,zt,zt,zt,zt,zt,zt,zt,zt,zt,zt,zt,zt,zt,zt,zt,zt,zf,zf] rfl rfl (zbZ HT_.out (by kernel_rfl)) (by decide) (fun K hK=>?_)
  refine zb8 Try.func15 (by kernel_rfl) rfl #[] (by rfl) rfl rfl (by (try simp only [List.map_toArray,List.map_cons,List.map_nil]); first | done | rfl) ?_
  refine(known_q V8).mono ?_
  rintro e V9 ⟨rfl,hB⟩
  refine⟨_,rfl,?_⟩
  have hb9:=Aside0.mk (zbx hb8.out hB)
  clear hB hb8
  refine hK.out _ _ ((HG.out _ hb9.out).1) (fun hHeld=>?_)
  clear hK K
  refine zbR (a':=?_) ?_ ?_
  rotate_left
  ·
   show Act.put _ (some 57) _=_
   simp only [Act.put,zA1,zA2,zA3,zbI,zbJ]
   rfl
  refine zbS (i:=31) (N:=some 58) (v:=?_) (a':=?_) #[zt,zt,zt,zt,zt,zt,zt,zt,zt,zt,zt,zt,zt,zt,zt,zt,zt,zt,zt,zt,zt,zt,zt,zt,zt,zt,zt,zt,zt,zt,zt,zt,zf] rfl rfl (zbP HT_.out (by kernel_rfl)) (fun _ _ _ h=>h) (Or.inl ⟨by rfl,?_⟩) ?_ ?_
  rotate_left
  ·
   intro w'
   go_simp
   with_reducible rfl
  rotate_left
  ·
   simp only [Act.put,zA1,zA2,zA3,zbI,zbJ]
   rfl
  refine zbS (i:=32) (N:=some 4) (v:=?_) (a':=?_) #[zt,zt,zt,zt,zt,zt,zt,zt,zt,zt,zt,zt,zt,zt,zt,zt,zt,zt,zt,zt,zt,zt,zt,zt,zt,zt,zt,zt,zt,zt,zt,zt,zt] rfl rfl (zbP HT_.out (by kernel_rfl)) (fun _ _ _ h=>h) (Or.inl ⟨by rfl,?_⟩) ?_ ?_
  rotate_left
  ·
   intro w'
   go_simp
   with_reducible rfl
  rotate_left
  ·
   simp only [Act.put,zA1,zA2,zA3,zbI,zbJ]
   rfl
  refine done_ (done_of HT_.out (by kernel_rfl)) ?_
  clear hHeld
  go_wp2
  go_ret
  exact⟨rfl,(HG.out _ hb9.out).2.2.2⟩
end Go.Proofs.Ytehghijlchpeaaa.Nat1
end
