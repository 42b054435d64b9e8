/- Part 17 of the proof of ratFracs_holds: what it uses, in build order. -/
import Derived.Test.YtehghijlchpeaaaC115
import Derived.Below
import Derived.ChangeOld
import Derived.Lib.SmallJoins
import Derived.OpenShut
import Derived.ProofKit
import Derived.SizedLaws
import Derived.Test.YtehghijlchpeaaaRows
import Derived.WalkKit
section
namespace Go.Proofs.Ytehghijlchpeaaa.Nat1
open Go.RowKit Go.Proofs.YtehghijlchpeaaaW.PrintWords Go.Proofs.YtehghijlchpeaaaW.PrintLast Go.Proofs.YtehghijlchpeaaaW.PrintMore Go.Proofs.Ytehghijlchpeaaa.L Go.Proofs.Ytehghijlchpeaaa.Nt Go.Proofs.Ytehghijlchpeaaa.Ev
set_option linter.unusedVariables false
set_option linter.unusedSimpArgs false
set_option linter.unusedSectionVars false
theorem dg_lit {n:Nat} (h0:0 < n) (h:n < B32):dg B32 n=[(n:Int)]:=by
 rw [dg_pos zam h0,Nat.mod_eq_of_lt h,Nat.div_eq_of_lt h,zaH]
theorem bits4 {W:World} {b1:Nat} {u:Value} {X:QN} (e:X=(false,3,8)) (hu:RT W b1 u X) (rX:red X) (kX:okQ X):Calls Try.prog 46 #[u] W fun e w'=>e=.returned (.int .i64 4)∧Below W.heap.size W w':=by
 have:=bitsR_d hu rX kX
 rwa [show mx (nb X.2.1:Int) (nb X.2.2:Int)=4 by rw [e]; decide] at this
theorem okS_lit {x:Int} (h:0≤x∧x < 4294967296):okS [x]:=⟨fun y hy=>by rw [List.mem_singleton.1 hy]; exact h,by simp⟩
theorem okS_nil:okS []:=⟨ok_nil _,by simp⟩
theorem may24 {W:World} {A1 A2:Addr} (h1:Kd.C (Kd.int .u32) W (some A1) 1 [2]) (h2:Kd.C (Kd.int .u32) W (some A2) 1 [4]):Calls Try.prog 18 #[.agg #[.bool false,.slice (some A1) 1 1,.slice (some A2) 1 1]] W fun e w'=>e=.returned (.int .i64 6)∧Below W.heap.size W w':=by
 refine J.rat_May.calls false (some A1) 1 [2] (some A2) 1 [4] 6 W h1 (Nat.le_refl _) h2 (Nat.le_refl _) ?_
 rw [may_f (okS_lit (by decide)) (okS_lit (by decide)),mayV,show nrm false (val B32 [2]) (val B32 [4])=(false,1,2) by decide,if_neg]
 rintro⟨_,h,_⟩
 rw [dg_lit (by decide) (by decide)] at h
 exact absurd h (by decide)
theorem C_none (W:World):Kd.C (Kd.int .u32) W none 0 []:=⟨rfl,by omega,fun h=>absurd h (by omega)⟩
theorem may_5 {W:World} {A2:Addr} (h2:Kd.C (Kd.int .u32) W (some A2) 1 [5]):Calls Try.prog 18 #[.agg #[.bool false,.slice none 0 0,.slice (some A2) 1 1]] W fun e w'=>e=.returned (.int .i64 6)∧Below W.heap.size W w':=by
 refine J.rat_May.calls false none 0 [] (some A2) 1 [5] 6 W (C_none W) (Nat.le_refl _) h2 (Nat.le_refl _) ?_
 rw [may_f okS_nil (okS_lit (by decide)),mayV,show nrm false (val B32 []) (val B32 [5])=(false,0,1) by decide,if_neg]
 rintro⟨_,_,h⟩
 rw [dg_lit (by decide) (by decide)] at h
 exact absurd h (by decide)
theorem may3_ {W:World} {A1:Addr} (h1:Kd.C (Kd.int .u32) W (some A1) 1 [3]):Calls Try.prog 18 #[.agg #[.bool false,.slice (some A1) 1 1,.slice none 0 0]] W fun e w'=>e=.returned (.int .i64 6)∧Below W.heap.size W w':=by
 refine J.rat_May.calls false (some A1) 1 [3] none 0 [] 6 W h1 (Nat.le_refl _) (C_none W) (Nat.le_refl _) ?_
 rw [may_f (okS_lit (by decide)) okS_nil,mayV,show nrm false (val B32 [3]) (val B32 [])=(false,0,1) by decide,if_neg]
 rintro⟨_,h,_⟩
 rw [zaH] at h
 exact absurd h (by decide)
def known.T6:Bool×List (List Nat×List Nat):=(true,[([],[]),([0],[0]),([1],[1]),([2],[2]),([3,2],[2,3]),([2,4],[2,4]),([5,2],[5]),([6,6],[6]),([6],[6]),([6],[6]),([8,9,7,6],[6,8,9]),([7,10,10,6],[6,7,10]),([6,11],[6,11]),([12,11],[12]),([13,13],[13]),([13],[13]),([13],[13]),([15,16,14,13],[13,15,16]),([14,17,17,13],[13,14,17]),([13,18],[13,18]),([19,18],[19]),([20,20],[20]),([20],[20]),([20],[20]),([22,23,21,20],[20,22,23]),([21,24,24,20],[20,21,24]),([20,25],[20,25]),([26,25],[26]),([27],[27]),([28,27],[27,28]),([27,29],[27,29]),([30,27],[30]),([31,31],[31]),([31],[31]),([32,33,32,31],[31,32,33]),([31,34],[31,34]),([35,34],[35]),([36],[36]),([37,36],[36,37]),([36,38],[36,38]),([39,36],[39]),([40,40],[40]),([40],[40]),([41,42,41,40],[40,41,42]),([40,43],[40,43]),([44,43],[44]),([45],[45]),([46,45],[45,46]),([45,47],[45,47]),([48,45],[48]),([49],[49]),([50,49,49],[49,50]),([51,49],[49,51]),([49,52],[49,52]),([53,51],[53]),([54],[54]),([54],[54]),([55,56,54],[54,55,56]),([57,54,54],[54,57]),([58,54],[54,58]),([54,59],[54,59]),([60,58],[60]),([61],[61]),([62,61],[61,62]),([63,61,61],[61,63]),([64,61],[61,64]),([61,65],[61,65]),([66,64],[66]),([67],[67]),([68,67],[67,68]),([69,67,67],[67,69]),([70,67],[67,70]),([67,71],[67,71]),([72,70,0,1,2,3,4,5,6,7,8,9,10,11,12,13,14,15,16,17,18,19,20,21,22,23,24,25,26,27,28,29,30,31,32,33,34,35,36,37,38,39,40,41,42,43,44,45,46,47,48,49,50,51,52,53,54,55,56,57,58,59,60,61,62,63,64,65,66,67,68,69,70,71,72],[72])])
def known.B6:List Nat:=[0,1,3,7,15,31,63,127,127,127,1023,2047,4095,8191,16383,16383,16383,131071,262143,524287,1048575,2097151,2097151,2097151,16777215,33554431,67108863,134217727,268435455,536870911,1073741823,2147483647,4294967295,4294967295,17179869183,34359738367,68719476735,137438953471,274877906943,549755813887,1099511627775,2199023255551,2199023255551,8796093022207,17592186044415,35184372088831,70368744177663,140737488355327,281474976710655,562949953421311,1125899906842623,2251799813685247,4503599627370495,9007199254740991,18014398509481983,36028797018963967,36028797018963967,144115188075855871,288230376151711743,576460752303423487,1152921504606846975,2305843009213693951,4611686018427387903,9223372036854775807,18446744073709551615,36893488147419103231,73786976294838206463,147573952589676412927,295147905179352825855,590295810358705651711,1180591620717411303423,2361183241434822606847,4722366482869645213695,9444732965739290427391]
theorem known.tab6:rtab .any (opsOf Try.f15 6)=known.T6:=by kernel_rfl
theorem known.bits6:waitsOk known.T6.2 known.B6=true:=by kernel_rfl
set_option maxHeartbeats 8000000 in
set_option maxRecDepth 100000 in
theorem known_q (w:World):Calls Try.prog 15 #[] w fun e w'=>e=.returned (.bool true)∧Below w.heap.size w w':=by
 have hu25:=Try.underlying25
 obtain⟨H,hH⟩:∃ H:QN,H=(false,1,2):=⟨_,rfl⟩
 have EH:=Aside0.mk hH
 have KH:=Aside0.mk (show red H∧okQ H from by rw [hH]; exact⟨⟨by decide,by decide,by decide⟩,okQ_small (by decide) (by decide)⟩)
 obtain⟨T,hT⟩:∃ T:QN,T=(false,1,3):=⟨_,rfl⟩
 have ET:=Aside0.mk hT
 have KT:=Aside0.mk (show red T∧okQ T from by rw [hT]; exact⟨⟨by decide,by decide,by decide⟩,okQ_small (by decide) (by decide)⟩)
 obtain⟨Q,hQ⟩:∃ Q:QN,Q=(false,3,2):=⟨_,rfl⟩
 have EQ:=Aside0.mk hQ
 have KQ:=Aside0.mk (show red Q∧okQ Q from by rw [hQ]; exact⟨⟨by decide,by decide,by decide⟩,okQ_small (by decide) (by decide)⟩)
 obtain⟨M,hM⟩:∃ M:QN,M=(true,3,2):=⟨_,rfl⟩
 have EM:=Aside0.mk hM
 have KM:=Aside0.mk (show red M∧okQ M from by rw [hM]; exact⟨⟨by decide,by decide,by decide⟩,okQ_small (by decide) (by decide)⟩)
 obtain⟨B,hB⟩:∃ B:QN,B=(false,3,8):=⟨_,rfl⟩
 have EB:=Aside0.mk hB
 have KB:=Aside0.mk (show red B∧okQ B from by rw [hB]; exact⟨⟨by decide,by decide,by decide⟩,okQ_small (by decide) (by decide)⟩)
 clear hH hT hQ hM hB
 go_enter Try.func15,Try.ntmps15
 go_wp2_with fail
 refine(frac_d (x:=1) (y:=2) w (by decide) (by decide) (by decide) (by decide) (by decide) (show _=H from EH.out ▸ (by decide))).mono ?_
 rintro e u0 ⟨AH1,cH1,AH2,cH2,rfl,hR,hB⟩
 have hA:Below u0.heap.size u0 (u0.alloc (.cells #[.bool H.1,.slice AH1 (dg B32 H.2.1).length cH1,.slice AH2 (dg B32 H.2.2).length cH2] 25)):=zab (Below.refl _ _) _
 have hN:=zbp u0 (.cells #[.bool H.1,.slice AH1 (dg B32 H.2.1).length cH1,.slice AH2 (dg B32 H.2.2).length cH2] 25)
 obtain⟨W1,hW⟩:∃ W,W=u0.alloc (.cells #[.bool H.1,.slice AH1 (dg B32 H.2.1).length cH1,.slice AH2 (dg B32 H.2.2).length cH2] 25):=⟨_,rfl⟩
 rw [← hW] at hA hN
 obtain⟨gH,hg⟩:∃ g,g=u0.heap.size:=⟨_,rfl⟩
 rw [← hg] at hN
 have hB2:Below w.heap.size w W1:=zag hB hA
 have XH1:=Aside0.mk (And.intro hN ((hR.below hA).lower (base':=w.heap.size) (Nat.le_refl _)))
 have HB1:=Aside0.mk (hB2)
 have HW:=Aside0.mk hW
 have HG:=Aside0.mk hg
 clear hA hN hB hB2 hR hW hg
 go_wp2_with fail
 rw [← HW.out,← HG.out]
 clear HW HG
 refine(frac_d (x:=1) (y:=3) W1 (by decide) (by decide) (by decide) (by decide) (by decide) (show _=T from ET.out ▸ (by decide))).mono ?_
 rintro e u1 ⟨AT1,cT1,AT2,cT2,rfl,hR,hB⟩
 have hA:Below u1.heap.size u1 (u1.alloc (.cells #[.bool T.1,.slice AT1 (dg B32 T.2.1).length cT1,.slice AT2 (dg B32 T.2.2).length cT2] 25)):=zab (Below.refl _ _) _
 have hN:=zbp u1 (.cells #[.bool T.1,.slice AT1 (dg B32 T.2.1).length cT1,.slice AT2 (dg B32 T.2.2).length cT2] 25)
 obtain⟨W2,hW⟩:∃ W,W=u1.alloc (.cells #[.bool T.1,.slice AT1 (dg B32 T.2.1).length cT1,.slice AT2 (dg B32 T.2.2).length cT2] 25):=⟨_,rfl⟩
 rw [← hW] at hA hN
 obtain⟨gT,hg⟩:∃ g,g=u1.heap.size:=⟨_,rfl⟩
 rw [← hg] at hN
 have hB2:Below W1.heap.size W1 W2:=zag hB hA
 have XH2:=Aside0.mk (And.intro (zal XH1.out.1 hB2) (XH1.out.2.below hB2))
 have XT2:=Aside0.mk (And.intro hN ((hR.below hA).lower (base':=w.heap.size) (HB1.out.size)))
 have HB2:=Aside0.mk (zag HB1.out hB2)
 have HW:=Aside0.mk hW
 have HG:=Aside0.mk hg
 have hl0:=zaD (zal XH1.out.1 hB)
 obtain⟨⟨x00,x01,x02⟩,y00,y01,y02⟩:=zat (zal XH1.out.1 hB)
 clear hA hN hB hB2 hR hW hg XH1 HB1
 go_wp2_with fail
 rw [← HW.out,← HG.out]
 clear HW HG hl0 x00 x01 x02 y00 y01 y02
 have hdiv:=divR_d XH2.out.2 XT2.out.2 KH.out.1 KT.out.1 KH.out.2 KT.out.2 (by rw [ET.out]; decide)
 rw [show divQ H T=Q by rw [EH.out,ET.out,EQ.out]; decide] at hdiv
 refine hdiv.mono ?_
 clear hdiv
 rintro e u2 ⟨AQ1,cQ1,AQ2,cQ2,rfl,hR,hB⟩
 have hA:Below u2.heap.size u2 (u2.alloc (.cells #[.bool Q.1,.slice AQ1 (dg B32 Q.2.1).length cQ1,.slice AQ2 (dg B32 Q.2.2).length cQ2] 25)):=zab (Below.refl _ _) _
 have hN:=zbp u2 (.cells #[.bool Q.1,.slice AQ1 (dg B32 Q.2.1).length cQ1,.slice AQ2 (dg B32 Q.2.2).length cQ2] 25)
 obtain⟨W3,hW⟩:∃ W,W=u2.alloc (.cells #[.bool Q.1,.slice AQ1 (dg B32 Q.2.1).length cQ1,.slice AQ2 (dg B32 Q.2.2).length cQ2] 25):=⟨_,rfl⟩
 rw [← hW] at hA hN
 obtain⟨gQ,hg⟩:∃ g,g=u2.heap.size:=⟨_,rfl⟩
 rw [← hg] at hN
 have hB2:Below W2.heap.size W2 W3:=zag hB hA
 have XH3:=Aside0.mk (And.intro (zal XH2.out.1 hB2) (XH2.out.2.below hB2))
 have XT3:=Aside0.mk (And.intro (zal XT2.out.1 hB2) (XT2.out.2.below hB2))
 have XQ3:=Aside0.mk (And.intro hN ((hR.below hA).lower (base':=w.heap.size) (HB2.out.size)))
 have HB3:=Aside0.mk (zag HB2.out hB2)
 have HW:=Aside0.mk hW
 have HG:=Aside0.mk hg
 have hl0:=zaD (zal XH2.out.1 hB)
 obtain⟨⟨x00,x01,x02⟩,y00,y01,y02⟩:=zat (zal XH2.out.1 hB)
 have hl1:=zaD (zal XT2.out.1 hB)
 obtain⟨⟨x10,x11,x12⟩,y10,y11,y12⟩:=zat (zal XT2.out.1 hB)
 clear hA hN hB hB2 hR hW hg XH2 XT2 HB2
 go_wp2_with fail
 rw [← HW.out,← HG.out]
 clear HW HG hl0 x00 x01 x02 y00 y01 y02 hl1 x10 x11 x12 y10 y11 y12
 refine(frac_d (x:=6) (y:=-4) W3 (by decide) (by decide) (by decide) (by decide) (by decide) (show _=M from EM.out ▸ (by decide))).mono ?_
 rintro e u3 ⟨AM1,cM1,AM2,cM2,rfl,hR,hB⟩
 have hA:Below u3.heap.size u3 (u3.alloc (.cells #[.bool M.1,.slice AM1 (dg B32 M.2.1).length cM1,.slice AM2 (dg B32 M.2.2).length cM2] 25)):=zab (Below.refl _ _) _
 have hN:=zbp u3 (.cells #[.bool M.1,.slice AM1 (dg B32 M.2.1).length cM1,.slice AM2 (dg B32 M.2.2).length cM2] 25)
 obtain⟨W4,hW⟩:∃ W,W=u3.alloc (.cells #[.bool M.1,.slice AM1 (dg B32 M.2.1).length cM1,.slice AM2 (dg B32 M.2.2).length cM2] 25):=⟨_,rfl⟩
 rw [← hW] at hA hN
 obtain⟨gM,hg⟩:∃ g,g=u3.heap.size:=⟨_,rfl⟩
 rw [← hg] at hN
 have hB2:Below W3.heap.size W3 W4:=zag hB hA
 have XH4:=Aside0.mk (And.intro (zal XH3.out.1 hB2) (XH3.out.2.below hB2))
 have XT4:=Aside0.mk (And.intro (zal XT3.out.1 hB2) (XT3.out.2.below hB2))
 have XQ4:=Aside0.mk (And.intro (zal XQ3.out.1 hB2) (XQ3.out.2.below hB2))
 have XM4:=Aside0.mk (And.intro hN ((hR.below hA).lower (base':=w.heap.size) (HB3.out.size)))
 have HB4:=Aside0.mk (zag HB3.out hB2)
 have HW:=Aside0.mk hW
 have HG:=Aside0.mk hg
 have hl0:=zaD (zal XH3.out.1 hB)
 obtain⟨⟨x00,x01,x02⟩,y00,y01,y02⟩:=zat (zal XH3.out.1 hB)
 have hl1:=zaD (zal XT3.out.1 hB)
 obtain⟨⟨x10,x11,x12⟩,y10,y11,y12⟩:=zat (zal XT3.out.1 hB)
 have hl2:=zaD (zal XQ3.out.1 hB)
 obtain⟨⟨x20,x21,x22⟩,y20,y21,y22⟩:=zat (zal XQ3.out.1 hB)
 clear hA hN hB hB2 hR hW hg XH3 XT3 XQ3 HB3
 go_wp2_with fail
 rw [← HW.out,← HG.out]
 clear HW HG hl0 x00 x01 x02 y00 y01 y02 hl1 x10 x11 x12 y10 y11 y12 hl2 x20 x21 x22 y20 y21 y22
 refine(frac_d (x:=3) (y:=8) W4 (by decide) (by decide) (by decide) (by decide) (by decide) (show _=B from EB.out ▸ (by decide))).mono ?_
 rintro e u4 ⟨AB1,cB1,AB2,cB2,rfl,hR,hB⟩
 have hA:Below u4.heap.size u4 (u4.alloc (.cells #[.bool B.1,.slice AB1 (dg B32 B.2.1).length cB1,.slice AB2 (dg B32 B.2.2).length cB2] 25)):=zab (Below.refl _ _) _
 have hN:=zbp u4 (.cells #[.bool B.1,.slice AB1 (dg B32 B.2.1).length cB1,.slice AB2 (dg B32 B.2.2).length cB2] 25)
 obtain⟨W5,hW⟩:∃ W,W=u4.alloc (.cells #[.bool B.1,.slice AB1 (dg B32 B.2.1).length cB1,.slice AB2 (dg B32 B.2.2).length cB2] 25):=⟨_,rfl⟩
 rw [← hW] at hA hN
 obtain⟨gB,hg⟩:∃ g,g=u4.heap.size:=⟨_,rfl⟩
 rw [← hg] at hN
 have hB2:Below W4.heap.size W4 W5:=zag hB hA
 have XH5:=Aside0.mk (And.intro (zal XH4.out.1 hB2) (XH4.out.2.below hB2))
 have XT5:=Aside0.mk (And.intro (zal XT4.out.1 hB2) (XT4.out.2.below hB2))
 have XQ5:=Aside0.mk (And.intro (zal XQ4.out.1 hB2) (XQ4.out.2.below hB2))
 have XM5:=Aside0.mk (And.intro (zal XM4.out.1 hB2) (XM4.out.2.below hB2))
 have XB5:=Aside0.mk (And.intro hN ((hR.below hA).lower (base':=w.heap.size) (HB4.out.size)))
 have HB5:=Aside0.mk (zag HB4.out hB2)
 have HW:=Aside0.mk hW
 have HG:=Aside0.mk hg
 have hl0:=zaD (zal XH4.out.1 hB)
 obtain⟨⟨x00,x01,x02⟩,y00,y01,y02⟩:=zat (zal XH4.out.1 hB)
 have hl1:=zaD (zal XT4.out.1 hB)
 obtain⟨⟨x10,x11,x12⟩,y10,y11,y12⟩:=zat (zal XT4.out.1 hB)
 have hl2:=zaD (zal XQ4.out.1 hB)
 obtain⟨⟨x20,x21,x22⟩,y20,y21,y22⟩:=zat (zal XQ4.out.1 hB)
 have hl3:=zaD (zal XM4.out.1 hB)
 obtain⟨⟨x30,x31,x32⟩,y30,y31,y32⟩:=zat (zal XM4.out.1 hB)
 clear hA hN hB hB2 hR hW hg XH4 XT4 XQ4 XM4 HB4
 go_wp2_with fail
 rw [← HW.out,← HG.out]
 clear HW HG hl0 x00 x01 x02 y00 y01 y02 hl1 x10 x11 x12 y10 y11 y12 hl2 x20 x21 x22 y20 y21 y22 hl3 x30 x31 x32 y30 y31 y32
 have HF:Aside0 (∀ w':World,Below W5.heap.size W5 w'→(w'.cell? ⟨gH,0,none⟩=some (.bool H.1)∧w'.cell? ⟨gH,1,none⟩=some (.slice AH1 (dg B32 H.2.1).length cH1)∧w'.cell? ⟨gH,2,none⟩=some (.slice AH2 (dg B32 H.2.2).length cH2)∧w'.cell? ⟨gT,0,none⟩=some (.bool T.1)∧w'.cell? ⟨gT,1,none⟩=some (.slice AT1 (dg B32 T.2.1).length cT1)∧w'.cell? ⟨gT,2,none⟩=some (.slice AT2 (dg B32 T.2.2).length cT2)∧w'.cell? ⟨gQ,0,none⟩=some (.bool Q.1)∧w'.cell? ⟨gQ,1,none⟩=some (.slice AQ1 (dg B32 Q.2.1).length cQ1)∧w'.cell? ⟨gQ,2,none⟩=some (.slice AQ2 (dg B32 Q.2.2).length cQ2)∧w'.cell? ⟨gM,0,none⟩=some (.bool M.1)∧w'.cell? ⟨gM,1,none⟩=some (.slice AM1 (dg B32 M.2.1).length cM1)∧w'.cell? ⟨gM,2,none⟩=some (.slice AM2 (dg B32 M.2.2).length cM2)∧w'.cell? ⟨gB,0,none⟩=some (.bool B.1)∧w'.cell? ⟨gB,1,none⟩=some (.slice AB1 (dg B32 B.2.1).length cB1)∧w'.cell? ⟨gB,2,none⟩=some (.slice AB2 (dg B32 B.2.2).length cB2))∧RT w' w.heap.size (.agg #[.bool H.1,.slice AH1 (dg B32 H.2.1).length cH1,.slice AH2 (dg B32 H.2.2).length cH2]) H∧RT w' w.heap.size (.agg #[.bool T.1,.slice AT1 (dg B32 T.2.1).length cT1,.slice AT2 (dg B32 T.2.2).length cT2]) T∧RT w' w.heap.size (.agg #[.bool Q.1,.slice AQ1 (dg B32 Q.2.1).length cQ1,.slice AQ2 (dg B32 Q.2.2).length cQ2]) Q∧RT w' w.heap.size (.agg #[.bool M.1,.slice AM1 (dg B32 M.2.1).length cM1,.slice AM2 (dg B32 M.2.2).length cM2]) M∧RT w' w.heap.size (.agg #[.bool B.1,.slice AB1 (dg B32 B.2.1).length cB1,.slice AB2 (dg B32 B.2.2).length cB2]) B):=⟨fun W hb=>⟨⟨(zai (zal XH5.out.1 hb) 0).trans rfl,(zai (zal XH5.out.1 hb) 1).trans rfl,(zai (zal XH5.out.1 hb) 2).trans rfl,(zai (zal XT5.out.1 hb) 0).trans rfl,(zai (zal XT5.out.1 hb) 1).trans rfl,(zai (zal XT5.out.1 hb) 2).trans rfl,(zai (zal XQ5.out.1 hb) 0).trans rfl,(zai (zal XQ5.out.1 hb) 1).trans rfl,(zai (zal XQ5.out.1 hb) 2).trans rfl,(zai (zal XM5.out.1 hb) 0).trans rfl,(zai (zal XM5.out.1 hb) 1).trans rfl,(zai (zal XM5.out.1 hb) 2).trans rfl,(zai (zal XB5.out.1 hb) 0).trans rfl,(zai (zal XB5.out.1 hb) 1).trans rfl,(zai (zal XB5.out.1 hb) 2).trans rfl⟩,XH5.out.2.below hb,XT5.out.2.below hb,XQ5.out.2.below hb,XM5.out.2.below hb,XB5.out.2.below hb⟩⟩
 clear XH5 XT5 XQ5 XM5 XB5
 refine start_ (n:=74) (S:=fun w'=>(w'.cell? ⟨gH,0,none⟩=some (.bool H.1)∧w'.cell? ⟨gH,1,none⟩=some (.slice AH1 (dg B32 H.2.1).length cH1)∧w'.cell? ⟨gH,2,none⟩=some (.slice AH2 (dg B32 H.2.2).length cH2)∧w'.cell? ⟨gT,0,none⟩=some (.bool T.1)∧w'.cell? ⟨gT,1,none⟩=some (.slice AT1 (dg B32 T.2.1).length cT1)∧w'.cell? ⟨gT,2,none⟩=some (.slice AT2 (dg B32 T.2.2).length cT2)∧w'.cell? ⟨gQ,0,none⟩=some (.bool Q.1)∧w'.cell? ⟨gQ,1,none⟩=some (.slice AQ1 (dg B32 Q.2.1).length cQ1)∧w'.cell? ⟨gQ,2,none⟩=some (.slice AQ2 (dg B32 Q.2.2).length cQ2)∧w'.cell? ⟨gM,0,none⟩=some (.bool M.1)∧w'.cell? ⟨gM,1,none⟩=some (.slice AM1 (dg B32 M.2.1).length cM1)∧w'.cell? ⟨gM,2,none⟩=some (.slice AM2 (dg B32 M.2.2).length cM2)∧w'.cell? ⟨gB,0,none⟩=some (.bool B.1)∧w'.cell? ⟨gB,1,none⟩=some (.slice AB1 (dg B32 B.2.1).length cB1)∧w'.cell? ⟨gB,2,none⟩=some (.slice AB2 (dg B32 B.2.2).length cB2))) (ds:=[]) #[false,false,false,false,false,false,false,false,false,false,false,false,false,false,false,false,false,false,false,false,false,false,false,false,false,false,false,false,false,false,false,false,false,false,false,false,false,false,false,false,false,false,false,false,false,false,false,false,false,false,false,false,false,false,false,false,false,false,false,false,false,false,false,false,false,false,false,false,false,false,false,false,false,false] (by kernel_rfl) rfl rfl ((HF.out _ (zac (Below.refl _ _))).1) (fun hHeld=>?_)
 refine with_tabW known.tab6 known.bits6 (fun HT_ HW_=>?_)
 have hb0:=Aside0.mk (show Below W5.heap.size W5 W5.drew from zac (Below.refl _ _))
 generalize W5.drew=V0 at hb0 hHeld ⊢
 refine zaA (i:=0) (N:=some 33) (v:=?_) (a':=?_) #[true,false,false,false,false,false,false,false,false,false,false,false,false,false,false,false,false,false,false,false,false,false,false,false,false,false,false,false,false,false,false,false,false,false,false,false,false,false,false,false,false,false,false,false,false,false,false,false,false,false,false,false,false,false,false,false,false,false,false,false,false,false,false,false,false,false,false,false,false,false,false,false,false,false] rfl rfl (zay HT_.out (by kernel_rfl)) (fun _ _ _ h=>h) (Or.inl ⟨by rfl,?_⟩) ?_ ?_
 rotate_left
 ·
  intro w'
  go_simp
  with_reducible rfl
 rotate_left
 ·
  simp only [Act.put,List.setIfInBounds_toArray,List.set_cons_zero,List.set_cons_succ,zaq,zar]
  rfl
 refine zaA (i:=1) (N:=some 34) (v:=?_) (a':=?_) #[true,true,false,false,false,false,false,false,false,false,false,false,false,false,false,false,false,false,false,false,false,false,false,false,false,false,false,false,false,false,false,false,false,false,false,false,false,false,false,false,false,false,false,false,false,false,false,false,false,false,false,false,false,false,false,false,false,false,false,false,false,false,false,false,false,false,false,false,false,false,false,false,false,false] rfl rfl (zay HT_.out (by kernel_rfl)) (fun _ _ _ h=>h) (Or.inl ⟨by rfl,?_⟩) ?_ ?_
 rotate_left
 ·
  intro w'
  go_simp
  with_reducible rfl
 rotate_left
 ·
  simp only [Act.put,List.setIfInBounds_toArray,List.set_cons_zero,List.set_cons_succ,zaq,zar]
  rfl
 refine zaA (i:=2) (N:=some 35) (v:=?_) (a':=?_) #[true,true,true,false,false,false,false,false,false,false,false,false,false,false,false,false,false,false,false,false,false,false,false,false,false,false,false,false,false,false,false,false,false,false,false,false,false,false,false,false,false,false,false,false,false,false,false,false,false,false,false,false,false,false,false,false,false,false,false,false,false,false,false,false,false,false,false,false,false,false,false,false,false,false] rfl rfl (zay HT_.out (by kernel_rfl)) (fun _ _ _ h=>h) (Or.inl ⟨by rfl,?_⟩) ?_ ?_
 rotate_left
 ·
  intro w'
  go_simp
  with_reducible rfl
 rotate_left
 ·
  simp only [Act.put,List.setIfInBounds_toArray,List.set_cons_zero,List.set_cons_succ,zaq,zar]
  rfl
 refine zaA (i:=3) (N:=some 36) (v:=?_) (a':=?_) #[true,true,true,true,false,false,false,false,false,false,false,false,false,false,false,false,false,false,false,false,false,false,false,false,false,false,false,false,false,false,false,false,false,false,false,false,false,false,false,false,false,false,false,false,false,false,false,false,false,false,false,false,false,false,false,false,false,false,false,false,false,false,false,false,false,false,false,false,false,false,false,false,false,false] rfl rfl (zay HT_.out (by kernel_rfl)) (fun _ _ _ h=>h) (Or.inl ⟨by rfl,?_⟩) ?_ ?_
 rotate_left
 ·
  intro w'
  go_simp
  with_reducible rfl
 rotate_left
 ·
  simp only [Act.put,List.setIfInBounds_toArray,List.set_cons_zero,List.set_cons_succ,zaq,zar]
  rfl
 refine zaA (i:=4) (N:=some 37) (v:=?_) (a':=?_) #[true,true,true,true,true,false,false,false,false,false,false,false,false,false,false,false,false,false,false,false,false,false,false,false,false,false,false,false,false,false,false,false,false,false,false,false,false,false,false,false,false,false,false,false,false,false,false,false,false,false,false,false,false,false,false,false,false,false,false,false,false,false,false,false,false,false,false,false,false,false,false,false,false,false] rfl rfl (zay HT_.out (by kernel_rfl)) (fun _ _ _ h=>h) (Or.inl ⟨by rfl,?_⟩) ?_ ?_
 rotate_left
 ·
  intro w'
  go_simp
  with_reducible rfl
 rotate_left
 ·
  simp only [Act.put,List.setIfInBounds_toArray,List.set_cons_zero,List.set_cons_succ,zaq,zar]
  rfl
 refine zaA (i:=5) (N:=some 38) (v:=?_) (a':=?_) #[true,true,true,true,true,true,false,false,false,false,false,false,false,false,false,false,false,false,false,false,false,false,false,false,false,false,false,false,false,false,false,false,false,false,false,false,false,false,false,false,false,false,false,false,false,false,false,false,false,false,false,false,false,false,false,false,false,false,false,false,false,false,false,false,false,false,false,false,false,false,false,false,false,false] rfl rfl (zay HT_.out (by kernel_rfl)) (fun _ _ _ h=>h) (Or.inl ⟨by rfl,?_⟩) ?_ ?_
 rotate_left
 ·
  intro w'
  go_simp
  with_reducible rfl
 rotate_left
 ·
  simp only [Act.put,List.setIfInBounds_toArray,List.set_cons_zero,List.set_cons_succ,zaq,zar]
  rfl
 refine zaA (i:=6) (N:=some 39) (v:=?_) (a':=?_) #[true,true,true,true,true,true,true,false,false,false,false,false,false,false,false,false,false,false,false,false,false,false,false,false,false,false,false,false,false,false,false,false,false,false,false,false,false,false,false,false,false,false,false,false,false,false,false,false,false,false,false,false,false,false,false,false,false,false,false,false,false,false,false,false,false,false,false,false,false,false,false,false,false,false] rfl rfl (zay HT_.out (by kernel_rfl)) (fun _ _ _ h=>h) (Or.inl ⟨by rfl,?_⟩) ?_ ?_
 rotate_left
 ·
  intro w'
  go_simp
  with_reducible rfl
 rotate_left
 ·
  simp only [Act.put,List.setIfInBounds_toArray,List.set_cons_zero,List.set_cons_succ,zaq,zar]
  rfl
 refine take_ (i:=8) (N:=some 41) (v:=?_) (a':=?_) #[true,true,true,true,true,true,true,false,true,false,false,false,false,false,false,false,false,false,false,false,false,false,false,false,false,false,false,false,false,false,false,false,false,false,false,false,false,false,false,false,false,false,false,false,false,false,false,false,false,false,false,false,false,false,false,false,false,false,false,false,false,false,false,false,false,false,false,false,false,false,false,false,false,false] rfl rfl (zaQ HT_.out HW_.out (by kernel_rfl)) (fun _ _ _ h=>h) (Or.inl ⟨by rfl,?_⟩) hHeld ?_ ?_
 rotate_left
 ·
  intro w' s0
  go_simp
  with_reducible rfl
 rotate_left
 ·
  simp only [Act.put,List.setIfInBounds_toArray,List.set_cons_zero,List.set_cons_succ,zaq,zar]
  rfl
 refine take_ (i:=9) (N:=some 42) (v:=?_) (a':=?_) #[true,true,true,true,true,true,true,false,true,true,false,false,false,false,false,false,false,false,false,false,false,false,false,false,false,false,false,false,false,false,false,false,false,false,false,false,false,false,false,false,false,false,false,false,false,false,false,false,false,false,false,false,false,false,false,false,false,false,false,false,false,false,false,false,false,false,false,false,false,false,false,false,false,false] rfl rfl (zaQ HT_.out HW_.out (by kernel_rfl)) (fun _ _ _ h=>h) (Or.inl ⟨by rfl,?_⟩) hHeld ?_ ?_
 rotate_left
 ·
  intro w' s0
  go_simp
  with_reducible rfl
 rotate_left
 ·
  simp only [Act.put,List.setIfInBounds_toArray,List.set_cons_zero,List.set_cons_succ,zaq,zar]
  rfl
 refine one_ (i:=7) (N:=some 40) #[true,true,true,true,true,true,true,true,true,true,false,false,false,false,false,false,false,false,false,false,false,false,false,false,false,false,false,false,false,false,false,false,false,false,false,false,false,false,false,false,false,false,false,false,false,false,false,false,false,false,false,false,false,false,false,false,false,false,false,false,false,false,false,false,false,false,false,false,false,false,false,false,false,false] rfl rfl (zaO HT_.out (by kernel_rfl)) (by decide) (fun K hK=>?_)
 refine za7 Try.func58 (by kernel_rfl) rfl #[.int .i64 5,.int .i64 6] (by rfl) rfl rfl (by (try simp only [List.map_toArray,List.map_cons,List.map_nil]); first | done | rfl) ?_
 refine(ref_frac_q (x:=5) (y:=6) V0 (by decide) (by decide) (by decide) (by decide)).mono ?_
 rintro e V1 ⟨f7,rfl,hQ,hB⟩
 refine⟨_,rfl,?_⟩
 have HQ7:=Aside0.mk hQ
 clear hQ
 have hb1:=Aside0.mk (zag hb0.out hB)
 clear hB hb0
 refine hK.out _ _ ((HF.out _ hb1.out).1) (fun hHeld=>?_)
 clear hK K
 refine zaS (a':=?_) ?_ ?_
 rotate_left
 ·
  show Act.put _ (some 40) _=_
  simp only [Act.put,List.setIfInBounds_toArray,List.set_cons_zero,List.set_cons_succ,zaq,zar]
  rfl
 refine one_ (i:=10) (N:=some 43) #[true,true,true,true,true,true,true,true,true,true,true,false,false,false,false,false,false,false,false,false,false,false,false,false,false,false,false,false,false,false,false,false,false,false,false,false,false,false,false,false,false,false,false,false,false,false,false,false,false,false,false,false,false,false,false,false,false,false,false,false,false,false,false,false,false,false,false,false,false,false,false,false,false,false] rfl rfl (zaO HT_.out (by kernel_rfl)) (by decide) (fun K hK=>?_)
 refine za7 Try.func31 (by kernel_rfl) rfl #[.agg #[.bool H.1,.slice AH1 (dg B32 H.2.1).length cH1,.slice AH2 (dg B32 H.2.2).length cH2],.agg #[.bool T.1,.slice AT1 (dg B32 T.2.1).length cT1,.slice AT2 (dg B32 T.2.2).length cT2]] (by rfl) rfl rfl (by (try simp only [List.map_toArray,List.map_cons,List.map_nil]); first | done | rfl) ?_
 refine(addR_d (HF.out _ hb1.out).2.1 (HF.out _ hb1.out).2.2.1 KH.out.1 KT.out.1 KH.out.2 KT.out.2).mono ?_
 rintro e V2 ⟨z10,rfl,hR,hB⟩
 refine⟨_,rfl,?_⟩
 have HR10:=Aside0.mk hR
 have HQ7b:=Aside0.mk (HQ7.out.below hB)
 clear hR HQ7
 have hb2:=Aside0.mk (zag hb1.out hB)
 clear hB hb1
 refine hK.out _ _ ((HF.out _ hb2.out).1) (fun hHeld=>?_)
 clear hK K
 refine zaS (a':=?_) ?_ ?_
 rotate_left
 ·
  show Act.put _ (some 43) _=_
  simp only [Act.put,List.setIfInBounds_toArray,List.set_cons_zero,List.set_cons_succ,zaq,zar]
  rfl
 refine one_ (i:=11) (N:=some 44) #[true,true,true,true,true,true,true,true,true,true,true,true,false,false,false,false,false,false,false,false,false,false,false,false,false,false,false,false,false,false,false,false,false,false,false,false,false,false,false,false,false,false,false,false,false,false,false,false,false,false,false,false,false,false,false,false,false,false,false,false,false,false,false,false,false,false,false,false,false,false,false,false,false,false] rfl rfl (zaO HT_.out (by kernel_rfl)) (by decide) (fun K hK=>?_)
 refine za7 Try.func20 (by kernel_rfl) rfl #[f7,z10] (by rfl) rfl rfl (by (try simp only [List.map_toArray,List.map_cons,List.map_nil]); first | done | rfl) ?_
 refine(zba HQ7b.out HR10.out (by rw [EH.out,ET.out]; exact okQ_small (by decide) (by decide)) (by rw [EH.out,ET.out]; decide)).mono ?_
 rintro e V3 ⟨rfl,hB⟩
 refine⟨_,rfl,?_⟩
 clear HQ7b HR10
 have hb3:=Aside0.mk (zag hb2.out hB)
 clear hB hb2
 refine hK.out _ _ ((HF.out _ hb3.out).1) (fun hHeld=>?_)
 clear hK K
 refine zaS (a':=?_) ?_ ?_
 rotate_left
 ·
  show Act.put _ (some 44) _=_
  simp only [Act.put,List.setIfInBounds_toArray,List.set_cons_zero,List.set_cons_succ,zaq,zar]
  rfl
 refine zaA (i:=12) (N:=some 45) (v:=?_) (a':=?_) #[true,true,true,true,true,true,true,true,true,true,true,true,true,false,false,false,false,false,false,false,false,false,false,false,false,false,false,false,false,false,false,false,false,false,false,false,false,false,false,false,false,false,false,false,false,false,false,false,false,false,false,false,false,false,false,false,false,false,false,false,false,false,false,false,false,false,false,false,false,false,false,false,false,false] rfl rfl (zay HT_.out (by kernel_rfl)) (fun _ _ _ h=>h) (Or.inl ⟨by rfl,?_⟩) ?_ ?_
 rotate_left
 ·
  intro w'
  go_simp
  with_reducible rfl
 rotate_left
 ·
  simp only [Act.put,List.setIfInBounds_toArray,List.set_cons_zero,List.set_cons_succ,zaq,zar]
  rfl
 refine zaA (i:=13) (N:=some 46) (v:=?_) (a':=?_) #[true,true,true,true,true,true,true,true,true,true,true,true,true,true,false,false,false,false,false,false,false,false,false,false,false,false,false,false,false,false,false,false,false,false,false,false,false,false,false,false,false,false,false,false,false,false,false,false,false,false,false,false,false,false,false,false,false,false,false,false,false,false,false,false,false,false,false,false,false,false,false,false,false,false] rfl rfl (zay HT_.out (by kernel_rfl)) (fun _ _ _ h=>h) (Or.inl ⟨by rfl,?_⟩) ?_ ?_
 rotate_left
 ·
  intro w'
  go_simp
  with_reducible rfl
 rotate_left
 ·
  simp only [Act.put,List.setIfInBounds_toArray,List.set_cons_zero,List.set_cons_succ,zaq,zar]
  rfl
 refine take_ (i:=15) (N:=some 48) (v:=?_) (a':=?_) #[true,true,true,true,true,true,true,true,true,true,true,true,true,true,false,true,false,false,false,false,false,false,false,false,false,false,false,false,false,false,false,false,false,false,false,false,false,false,false,false,false,false,false,false,false,false,false,false,false,false,false,false,false,false,false,false,false,false,false,false,false,false,false,false,false,false,false,false,false,false,false,false,false,false] rfl rfl (zaQ HT_.out HW_.out (by kernel_rfl)) (fun _ _ _ h=>h) (Or.inl ⟨by rfl,?_⟩) hHeld ?_ ?_
 rotate_left
 ·
  intro w' s0
  go_simp
  with_reducible rfl
 rotate_left
 ·
  simp only [Act.put,List.setIfInBounds_toArray,List.set_cons_zero,List.set_cons_succ,zaq,zar]
  rfl
 refine take_ (i:=16) (N:=some 49) (v:=?_) (a':=?_) #[true,true,true,true,true,true,true,true,true,true,true,true,true,true,false,true,true,false,false,false,false,false,false,false,false,false,false,false,false,false,false,false,false,false,false,false,false,false,false,false,false,false,false,false,false,false,false,false,false,false,false,false,false,false,false,false,false,false,false,false,false,false,false,false,false,false,false,false,false,false,false,false,false,false] rfl rfl (zaQ HT_.out HW_.out (by kernel_rfl)) (fun _ _ _ h=>h) (Or.inl ⟨by rfl,?_⟩) hHeld ?_ ?_
 rotate_left
 ·
  intro w' s0
  go_simp
  with_reducible rfl
 rotate_left
 ·
  simp only [Act.put,List.setIfInBounds_toArray,List.set_cons_zero,List.set_cons_succ,zaq,zar]
  rfl
 refine one_ (i:=14) (N:=some 47) #[true,true,true,true,true,true,true,true,true,true,true,true,true,true,true,true,true,false,false,false,false,false,false,false,false,false,false,false,false,false,false,false,false,false,false,false,false,false,false,false,false,false,false,false,false,false,false,false,false,false,false,false,false,false,false,false,false,false,false,false,false,false,false,false,false,false,false,false,false,false,false,false,false,false] rfl rfl (zaO HT_.out (by kernel_rfl)) (by decide) (fun K hK=>?_)
 refine za7 Try.func58 (by kernel_rfl) rfl #[.int .i64 1,.int .i64 6] (by rfl) rfl rfl (by (try simp only [List.map_toArray,List.map_cons,List.map_nil]); first | done | rfl) ?_
 refine(ref_frac_q (x:=1) (y:=6) V3 (by decide) (by decide) (by decide) (by decide)).mono ?_
 rintro e V4 ⟨f14,rfl,hQ,hB⟩
 refine⟨_,rfl,?_⟩
 have HQ14:=Aside0.mk hQ
 clear hQ
 have hb4:=Aside0.mk (zag hb3.out hB)
 clear hB hb3
 refine hK.out _ _ ((HF.out _ hb4.out).1) (fun hHeld=>?_)
 clear hK K
 refine zaS (a':=?_) ?_ ?_
 rotate_left
 ·
  show Act.put _ (some 47) _=_
  simp only [Act.put,List.setIfInBounds_toArray,List.set_cons_zero,List.set_cons_succ,zaq,zar]
  rfl
 refine one_ (i:=17) (N:=some 50) #[true,true,true,true,true,true,true,true,true,true,true,true,true,true,true,true,true,true,false,false,false,false,false,false,false,false,false,false,false,false,false,false,false,false,false,false,false,false,false,false,false,false,false,false,false,false,false,false,false,false,false,false,false,false,false,false,false,false,false,false,false,false,false,false,false,false,false,false,false,false,false,false,false,false] rfl rfl (zaO HT_.out (by kernel_rfl)) (by decide) (fun K hK=>?_)
 refine za7 Try.func33 (by kernel_rfl) rfl #[.agg #[.bool H.1,.slice AH1 (dg B32 H.2.1).length cH1,.slice AH2 (dg B32 H.2.2).length cH2],.agg #[.bool T.1,.slice AT1 (dg B32 T.2.1).length cT1,.slice AT2 (dg B32 T.2.2).length cT2]] (by rfl) rfl rfl (by (try simp only [List.map_toArray,List.map_cons,List.map_nil]); first | done | rfl) ?_
 refine(subR_d (HF.out _ hb4.out).2.1 (HF.out _ hb4.out).2.2.1 KH.out.1 KT.out.1 KH.out.2 KT.out.2).mono ?_
 rintro e V5 ⟨z17,rfl,hR,hB⟩
 refine⟨_,rfl,?_⟩
 have HR17:=Aside0.mk hR
 have HQ14b:=Aside0.mk (HQ14.out.below hB)
 clear hR HQ14
 have hb5:=Aside0.mk (zag hb4.out hB)
 clear hB hb4
 refine hK.out _ _ ((HF.out _ hb5.out).1) (fun hHeld=>?_)
 clear hK K
 refine zaS (a':=?_) ?_ ?_
 rotate_left
 ·
  show Act.put _ (some 50) _=_
  simp only [Act.put,List.setIfInBounds_toArray,List.set_cons_zero,List.set_cons_succ,zaq,zar]
  rfl
 refine one_ (i:=18) (N:=some 51) #[true,true,true,true,true,true,true,true,true,true,true,true,true,true,true,true,true,true,true,false,false,false,false,false,false,false,false,false,false,false,false,false,false,false,false,false,false,false,false,false,false,false,false,false,false,false,false,false,false,false,false,false,false,false,false,false,false,false,false,false,false,false,false,false,false,false,false,false,false,false,false,false,false,false] rfl rfl (zaO HT_.out (by kernel_rfl)) (by decide) (fun K hK=>?_)
 refine za7 Try.func20 (by kernel_rfl) rfl #[f14,z17] (by rfl) rfl rfl (by (try simp only [List.map_toArray,List.map_cons,List.map_nil]); first | done | rfl) ?_
 refine(zba HQ14b.out HR17.out (by rw [EH.out,ET.out]; exact okQ_small (by decide) (by decide)) (by rw [EH.out,ET.out]; decide)).mono ?_
 rintro e V6 ⟨rfl,hB⟩
 refine⟨_,rfl,?_⟩
 clear HQ14b HR17
 have hb6:=Aside0.mk (zag hb5.out hB)
 clear hB hb5
 refine hK.out _ _ ((HF.out _ hb6.out).1) (fun hHeld=>?_)
 clear hK K
 refine zaS (a':=?_) ?_ ?_
 rotate_left
 ·
  show Act.put _ (some 51) _=_
  simp only [Act.put,List.setIfInBounds_toArray,List.set_cons_zero,List.set_cons_succ,zaq,zar]
  rfl
 refine zaA (i:=19) (N:=some 52) (v:=?_) (a':=?_) #[true,true,true,true,true,true,true,true,true,true,true,true,true,true,true,true,true,true,true,true,false,false,false,false,false,false,false,false,false,false,false,false,false,false,false,false,false,false,false,false,false,false,false,false,false,false,false,false,false,false,false,false,false,false,false,false,false,false,false,false,false,false,false,false,false,false,false,false,false,false,false,false,false,false] rfl rfl (zay HT_.out (by kernel_rfl)) (fun _ _ _ h=>h) (Or.inl ⟨by rfl,?_⟩) ?_ ?_
 rotate_left
 ·
  intro w'
  go_simp
  with_reducible rfl
 rotate_left
 ·
  simp only [Act.put,List.setIfInBounds_toArray,List.set_cons_zero,List.set_cons_succ,zaq,zar]
  rfl
 refine zaA (i:=20) (N:=some 53) (v:=?_) (a':=?_) #[true,true,true,true,true,true,true,true,true,true,true,true,true,true,true,true,true,true,true,true,true,false,false,false,false,false,false,false,false,false,false,false,false,false,false,false,false,false,false,false,false,false,false,false,false,false,false,false,false,false,false,false,false,false,false,false,false,false,false,false,false,false,false,false,false,false,false,false,false,false,false,false,false,false] rfl rfl (zay HT_.out (by kernel_rfl)) (fun _ _ _ h=>h) (Or.inl ⟨by rfl,?_⟩) ?_ ?_
 rotate_left
 ·
  intro w'
  go_simp
  with_reducible rfl
 rotate_left
 ·
  simp only [Act.put,List.setIfInBounds_toArray,List.set_cons_zero,List.set_cons_succ,zaq,zar]
  rfl
 refine take_ (i:=22) (N:=some 55) (v:=?_) (a':=?_) #[true,true,true,true,true,true,true,true,true,true,true,true,true,true,true,true,true,true,true,true,true,false,true,false,false,false,false,false,false,false,false,false,false,false,false,false,false,false,false,false,false,false,false,false,false,false,false,false,false,false,false,false,false,false,false,false,false,false,false,false,false,false,false,false,false,false,false,false,false,false,false,false,false,false] rfl rfl (zaQ HT_.out HW_.out (by kernel_rfl)) (fun _ _ _ h=>h) (Or.inl ⟨by rfl,?_⟩) hHeld ?_ ?_
 rotate_left
 ·
  intro w' s0
  go_simp
  with_reducible rfl
 rotate_left
 ·
  simp only [Act.put,List.setIfInBounds_toArray,List.set_cons_zero,List.set_cons_succ,zaq,zar]
  rfl
 refine take_ (i:=23) (N:=some 56) (v:=?_) (a':=?_) #[true,true,true,true,true,true,true,true,true,true,true,true,true,true,true,true,true,true,true,true,true,false,true,true,false,false,false,false,false,false,false,false,false,false,false,false,false,false,false,false,false,false,false,false,false,false,false,false,false,false,false,false,false,false,false,false,false,false,false,false,false,false,false,false,false,false,false,false,false,false,false,false,false,false] rfl rfl (zaQ HT_.out HW_.out (by kernel_rfl)) (fun _ _ _ h=>h) (Or.inl ⟨by rfl,?_⟩) hHeld ?_ ?_
 rotate_left
 ·
  intro w' s0
  go_simp
  with_reducible rfl
 rotate_left
 ·
  simp only [Act.put,List.setIfInBounds_toArray,List.set_cons_zero,List.set_cons_succ,zaq,zar]
  rfl
 refine one_ (i:=21) (N:=some 54) #[true,true,true,true,true,true,true,true,true,true,true,true,true,true,true,true,true,true,true,true,true,true,true,true,false,false,false,false,false,false,false,false,false,false,false,false,false,false,false,false,false,false,false,false,false,false,false,false,false,false,false,false,false,false,false,false,false,false,false,false,false,false,false,false,false,false,false,false,false,false,false,false,false,false] rfl rfl (zaO HT_.out (by kernel_rfl)) (by decide) (fun K hK=>?_)
 refine za7 Try.func58 (by kernel_rfl) rfl #[.int .i64 1,.int .i64 6] (by rfl) rfl rfl (by (try simp only [List.map_toArray,List.map_cons,List.map_nil]); first | done | rfl) ?_
 refine(ref_frac_q (x:=1) (y:=6) V6 (by decide) (by decide) (by decide) (by decide)).mono ?_
 rintro e V7 ⟨f21,rfl,hQ,hB⟩
 refine⟨_,rfl,?_⟩
 have HQ21:=Aside0.mk hQ
 clear hQ
 have hb7:=Aside0.mk (zag hb6.out hB)
 clear hB hb6
 refine hK.out _ _ ((HF.out _ hb7.out).1) (fun hHeld=>?_)
 clear hK K
 refine zaS (a':=?_) ?_ ?_
 rotate_left
 ·
  show Act.put _ (some 54) _=_
  simp only [Act.put,List.setIfInBounds_toArray,List.set_cons_zero,List.set_cons_succ,zaq,zar]
  rfl
 refine one_ (i:=24) (N:=some 57) #[true,true,true,true,true,true,true,true,true,true,true,true,true,true,true,true,true,true,true,true,true,true,true,true,true,false,false,false,false,false,false,false,false,false,false,false,false,false,false,false,false,false,false,false,false,false,false,false,false,false,false,false,false,false,false,false,false,false,false,false,false,false,false,false,false,false,false,false,false,false,false,false,false,false] rfl rfl (zaO HT_.out (by kernel_rfl)) (by decide) (fun K hK=>?_)
 refine za7 Try.func35 (by kernel_rfl) rfl #[.agg #[.bool H.1,.slice AH1 (dg B32 H.2.1).length cH1,.slice AH2 (dg B32 H.2.2).length cH2],.agg #[.bool T.1,.slice AT1 (dg B32 T.2.1).length cT1,.slice AT2 (dg B32 T.2.2).length cT2]] (by rfl) rfl rfl (by (try simp only [List.map_toArray,List.map_cons,List.map_nil]); first | done | rfl) ?_
 refine(mulR_d (HF.out _ hb7.out).2.1 (HF.out _ hb7.out).2.2.1 KH.out.1 KT.out.1 KH.out.2 KT.out.2).mono ?_
 rintro e V8 ⟨z24,rfl,hR,hB⟩
 refine⟨_,rfl,?_⟩
 have HR24:=Aside0.mk hR
 have HQ21b:=Aside0.mk (HQ21.out.below hB)
 clear hR HQ21
 have hb8:=Aside0.mk (zag hb7.out hB)
 clear hB hb7
 refine hK.out _ _ ((HF.out _ hb8.out).1) (fun hHeld=>?_)
 clear hK K
 refine zaS (a':=?_) ?_ ?_
 rotate_left
 ·
  show Act.put _ (some 57) _=_
  simp only [Act.put,List.setIfInBounds_toArray,List.set_cons_zero,List.set_cons_succ,zaq,zar]
  rfl
 refine one_ (i:=25) (N:=some 58) #[true,true,true,true,true,true,true,true,true,true,true,true,true,true,true,true,true,true,true,true,true,true,true,true,true,true,false,false,false,false,false,false,false,false,false,false,false,false,false,false,false,false,false,false,false,false,false,false,false,false,false,false,false,false,false,false,false,false,false,false,false,false,false,false,false,false,false,false,false,false,false,false,false,false] rfl rfl (zaO HT_.out (by kernel_rfl)) (by decide) (fun K hK=>?_)
 refine za7 Try.func20 (by kernel_rfl) rfl #[f21,z24] (by rfl) rfl rfl (by (try simp only [List.map_toArray,List.map_cons,List.map_nil]); first | done | rfl) ?_
 refine(zba HQ21b.out HR24.out (by rw [EH.out,ET.out]; exact okQ_small (by decide) (by decide)) (by rw [EH.out,ET.out]; decide)).mono ?_
 rintro e V9 ⟨rfl,hB⟩
 refine⟨_,rfl,?_⟩
 clear HQ21b HR24
 have hb9:=Aside0.mk (zag hb8.out hB)
 clear hB hb8
 refine hK.out _ _ ((HF.out _ hb9.out).1) (fun hHeld=>?_)
 clear hK K
 refine zaS (a':=?_) ?_ ?_
 rotate_left
 ·
  show Act.put _ (some 58) _=_
  simp only [Act.put,List.setIfInBounds_toArray,List.set_cons_zero,List.set_cons_succ,zaq,zar]
  rfl
 refine zaA (i:=26) (N:=some 59) (v:=?_) (a':=?_) #[true,true,true,true,true,true,true,true,true,true,true,true,true,true,true,true,true,true,true,true,true,true,true,true,true,true,true,false,false,false,false,false,false,false,false,false,false,false,false,false,false,false,false,false,false,false,false,false,false,false,false,false,false,false,false,false,false,false,false,false,false,false,false,false,false,false,false,false,false,false,false,false,false,false] rfl rfl (zay HT_.out (by kernel_rfl)) (fun _ _ _ h=>h) (Or.inl ⟨by rfl,?_⟩) ?_ ?_
 rotate_left
 ·
  intro w'
  go_simp
  with_reducible rfl
 rotate_left
 ·
  simp only [Act.put,List.setIfInBounds_toArray,List.set_cons_zero,List.set_cons_succ,zaq,zar]
  rfl
 refine zaA (i:=27) (N:=some 60) (v:=?_) (a':=?_) #[true,true,true,true,true,true,true,true,true,true,true,true,true,true,true,true,true,true,true,true,true,true,true,true,true,true,true,true,false,false,false,false,false,false,false,false,false,false,false,false,false,false,false,false,false,false,false,false,false,false,false,false,false,false,false,false,false,false,false,false,false,false,false,false,false,false,false,false,false,false,false,false,false,false] rfl rfl (zay HT_.out (by kernel_rfl)) (fun _ _ _ h=>h) (Or.inl ⟨by rfl,?_⟩) ?_ ?_
 rotate_left
 ·
  intro w'
  go_simp
  with_reducible rfl
 rotate_left
 ·
  simp only [Act.put,List.setIfInBounds_toArray,List.set_cons_zero,List.set_cons_succ,zaq,zar]
  rfl
 refine zaA (i:=28) (N:=some 61) (v:=?_) (a':=?_) #[true,true,true,true,true,true,true,true,true,true,true,true,true,true,true,true,true,true,true,true,true,true,true,true,true,true,true,true,true,false,false,false,false,false,false,false,false,false,false,false,false,false,false,false,false,false,false,false,false,false,false,false,false,false,false,false,false,false,false,false,false,false,false,false,false,false,false,false,false,false,false,false,false,false] rfl rfl (zay HT_.out (by kernel_rfl)) (fun _ _ _ h=>h) (Or.inl ⟨by rfl,?_⟩) ?_ ?_
 rotate_left
 ·
  intro w'
  go_simp
  with_reducible rfl
 rotate_left
 ·
  simp only [Act.put,List.setIfInBounds_toArray,List.set_cons_zero,List.set_cons_succ,zaq,zar]
  rfl
 refine zaA (i:=29) (N:=some 62) (v:=?_) (a':=?_) #[true,true,true,true,true,true,true,true,true,true,true,true,true,true,true,true,true,true,true,true,true,true,true,true,true,true,true,true,true,true,false,false,false,false,false,false,false,false,false,false,false,false,false,false,false,false,false,false,false,false,false,false,false,false,false,false,false,false,false,false,false,false,false,false,false,false,false,false,false,false,false,false,false,false] rfl rfl (zay HT_.out (by kernel_rfl)) (fun _ _ _ h=>h) (Or.inl ⟨by rfl,?_⟩) ?_ ?_
 rotate_left
 ·
  intro w'
  go_simp
  with_reducible rfl
 rotate_left
 ·
  simp only [Act.put,List.setIfInBounds_toArray,List.set_cons_zero,List.set_cons_succ,zaq,zar]
  rfl
 refine zaA (i:=30) (N:=some 63) (v:=?_) (a':=?_) #[true,true,true,true,true,true,true,true,true,true,true,true,true,true,true,true,true,true,true,true,true,true,true,true,true,true,true,true,true,true,true,false,false,false,false,false,false,false,false,false,false,false,false,false,false,false,false,false,false,false,false,false,false,false,false,false,false,false,false,false,false,false,false,false,false,false,false,false,false,false,false,false,false,false] rfl rfl (zay HT_.out (by kernel_rfl)) (fun _ _ _ h=>h) (Or.inl ⟨by rfl,?_⟩) ?_ ?_
 rotate_left
 ·
  intro w'
  go_simp
  with_reducible rfl
 rotate_left
 ·
  simp only [Act.put,List.setIfInBounds_toArray,List.set_cons_zero,List.set_cons_succ,zaq,zar]
  rfl
 refine zaA (i:=31) (N:=some 64) (v:=?_) (a':=?_) #[true,true,true,true,true,true,true,true,true,true,true,true,true,true,true,true,true,true,true,true,true,true,true,true,true,true,true,true,true,true,true,true,false,false,false,false,false,false,false,false,false,false,false,false,false,false,false,false,false,false,false,false,false,false,false,false,false,false,false,false,false,false,false,false,false,false,false,false,false,false,false,false,false,false] rfl rfl (zay HT_.out (by kernel_rfl)) (fun _ _ _ h=>h) (Or.inl ⟨by rfl,?_⟩) ?_ ?_
 rotate_left
 ·
  intro w'
  go_simp
  with_reducible rfl
 rotate_left
 ·
  simp only [Act.put,List.setIfInBounds_toArray,List.set_cons_zero,List.set_cons_succ,zaq,zar]
  rfl
 refine take_ (i:=33) (N:=some 66) (v:=?_) (a':=?_) #[true,true,true,true,true,true,true,true,true,true,true,true,true,true,true,true,true,true,true,true,true,true,true,true,true,true,true,true,true,true,true,true,false,true,false,false,false,false,false,false,false,false,false,false,false,false,false,false,false,false,false,false,false,false,false,false,false,false,false,false,false,false,false,false,false,false,false,false,false,false,false,false,false,false] rfl rfl (zaQ HT_.out HW_.out (by kernel_rfl)) (fun _ _ _ h=>h) (Or.inl ⟨by rfl,?_⟩) hHeld ?_ ?_
 rotate_left
 ·
  intro w' s0
  go_simp
  with_reducible rfl
 rotate_left
 ·
  simp only [Act.put,List.setIfInBounds_toArray,List.set_cons_zero,List.set_cons_succ,zaq,zar]
  rfl
 refine one_ (i:=32) (N:=some 65) #[true,true,true,true,true,true,true,true,true,true,true,true,true,true,true,true,true,true,true,true,true,true,true,true,true,true,true,true,true,true,true,true,true,true,false,false,false,false,false,false,false,false,false,false,false,false,false,false,false,false,false,false,false,false,false,false,false,false,false,false,false,false,false,false,false,false,false,false,false,false,false,false,false,false] rfl rfl (zaO HT_.out (by kernel_rfl)) (by decide) (fun K hK=>?_)
 refine za7 Try.func58 (by kernel_rfl) rfl #[.int .i64 3,.int .i64 2] (by rfl) rfl rfl (by (try simp only [List.map_toArray,List.map_cons,List.map_nil]); first | done | rfl) ?_
 refine(ref_frac_q (x:=3) (y:=2) V9 (by decide) (by decide) (by decide) (by decide)).mono ?_
 rintro e V10 ⟨f32,rfl,hQ,hB⟩
 refine⟨_,rfl,?_⟩
 have HQ32:=Aside0.mk hQ
 clear hQ
 have hb10:=Aside0.mk (zag hb9.out hB)
 clear hB hb9
 refine hK.out _ _ ((HF.out _ hb10.out).1) (fun hHeld=>?_)
 clear hK K
 refine zaS (a':=?_) ?_ ?_
 rotate_left
 ·
  show Act.put _ (some 65) _=_
  simp only [Act.put,List.setIfInBounds_toArray,List.set_cons_zero,List.set_cons_succ,zaq,zar]
  rfl
 refine one_ (i:=34) (N:=some 67) #[true,true,true,true,true,true,true,true,true,true,true,true,true,true,true,true,true,true,true,true,true,true,true,true,true,true,true,true,true,true,true,true,true,true,true,false,false,false,false,false,false,false,false,false,false,false,false,false,false,false,false,false,false,false,false,false,false,false,false,false,false,false,false,false,false,false,false,false,false,false,false,false,false,false] rfl rfl (zaO HT_.out (by kernel_rfl)) (by decide) (fun K hK=>?_)
 refine za7 Try.func20 (by kernel_rfl) rfl #[f32,.agg #[.bool Q.1,.slice AQ1 (dg B32 Q.2.1).length cQ1,.slice AQ2 (dg B32 Q.2.2).length cQ2]] (by rfl) rfl rfl (by (try simp only [List.map_toArray,List.map_cons,List.map_nil]); first | done | rfl) ?_
 refine(zba HQ32.out (HF.out _ hb10.out).2.2.2.1 KQ.out.2 (by rw [EQ.out]; decide)).mono ?_
 rintro e V11 ⟨rfl,hB⟩
 refine⟨_,rfl,?_⟩
 clear HQ32
 have hb11:=Aside0.mk (zag hb10.out hB)
 clear hB hb10
 refine hK.out _ _ ((HF.out _ hb11.out).1) (fun hHeld=>?_)
 clear hK K
 refine zaS (a':=?_) ?_ ?_
 rotate_left
 ·
  show Act.put _ (some 67) _=_
  simp only [Act.put,List.setIfInBounds_toArray,List.set_cons_zero,List.set_cons_succ,zaq,zar]
  rfl
 refine zaA (i:=35) (N:=some 68) (v:=?_) (a':=?_) #[true,true,true,true,true,true,true,true,true,true,true,true,true,true,true,true,true,true,true,true,true,true,true,true,true,true,true,true,true,true,true,true,true,true,true,true,false,false,false,false,false,false,false,false,false,false,false,false,false,false,false,false,false,false,false,false,false,false,false,false,false,false,false,false,false,false,false,false,false,false,false,false,false,false] rfl rfl (zay HT_.out (by kernel_rfl)) (fun _ _ _ h=>h) (Or.inl ⟨by rfl,?_⟩) ?_ ?_
 rotate_left
 ·
  intro w'
  go_simp
  with_reducible rfl
 rotate_left
 ·
  simp only [Act.put,List.setIfInBounds_toArray,List.set_cons_zero,List.set_cons_succ,zaq,zar]
  rfl
 refine zaA (i:=36) (N:=some 69) (v:=?_) (a':=?_) #[true,true,true,true,true,true,true,true,true,true,true,true,true,true,true,true,true,true,true,true,true,true,true,true,true,true,true,true,true,true,true,true,true,true,true,true,true,false,false,false,false,false,false,false,false,false,false,false,false,false,false,false,false,false,false,false,false,false,false,false,false,false,false,false,false,false,false,false,false,false,false,false,false,false] rfl rfl (zay HT_.out (by kernel_rfl)) (fun _ _ _ h=>h) (Or.inl ⟨by rfl,?_⟩) ?_ ?_
 rotate_left
 ·
  intro w'
  go_simp
  with_reducible rfl
 rotate_left
 ·
  simp only [Act.put,List.setIfInBounds_toArray,List.set_cons_zero,List.set_cons_succ,zaq,zar]
  rfl
 refine zaA (i:=37) (N:=some 70) (v:=?_) (a':=?_) #[true,true,true,true,true,true,true,true,true,true,true,true,true,true,true,true,true,true,true,true,true,true,true,true,true,true,true,true,true,true,true,true,true,true,true,true,true,true,false,false,false,false,false,false,false,false,false,false,false,false,false,false,false,false,false,false,false,false,false,false,false,false,false,false,false,false,false,false,false,false,false,false,false,false] rfl rfl (zay HT_.out (by kernel_rfl)) (fun _ _ _ h=>h) (Or.inl ⟨by rfl,?_⟩) ?_ ?_
 rotate_left
 ·
  intro w'
  go_simp
  with_reducible rfl
 rotate_left
 ·
  simp only [Act.put,List.setIfInBounds_toArray,List.set_cons_zero,List.set_cons_succ,zaq,zar]
  rfl
 refine zaA (i:=38) (N:=some 71) (v:=?_) (a':=?_) #[true,true,true,true,true,true,true,true,true,true,true,true,true,true,true,true,true,true,true,true,true,true,true,true,true,true,true,true,true,true,true,true,true,true,true,true,true,true,true,false,false,false,false,false,false,false,false,false,false,false,false,false,false,false,false,false,false,false,false,false,false,false,false,false,false,false,false,false,false,false,false,false,false,false] rfl rfl (zay HT_.out (by kernel_rfl)) (fun _ _ _ h=>h) (Or.inl ⟨by rfl,?_⟩) ?_ ?_
 rotate_left
 ·
  intro w'
  go_simp
  with_reducible rfl
 rotate_left
 ·
  simp only [Act.put,List.setIfInBounds_toArray,List.set_cons_zero,List.set_cons_succ,zaq,zar]
  rfl
 refine zaA (i:=39) (N:=some 72) (v:=?_) (a':=?_) #[true,true,true,true,true,true,true,true,true,true,true,true,true,true,true,true,true,true,true,true,true,true,true,true,true,true,true,true,true,true,true,true,true,true,true,true,true,true,true,true,false,false,false,false,false,false,false,false,false,false,false,false,false,false,false,false,false,false,false,false,false,false,false,false,false,false,false,false,false,false,false,false,false,false] rfl rfl (zay HT_.out (by kernel_rfl)) (fun _ _ _ h=>h) (Or.inl ⟨by rfl,?_⟩) ?_ ?_
 rotate_left
 ·
  intro w'
  go_simp
  with_reducible rfl
 rotate_left
 ·
  simp only [Act.put,List.setIfInBounds_toArray,List.set_cons_zero,List.set_cons_succ,zaq,zar]
  rfl
 refine zaA (i:=40) (N:=some 73) (v:=?_) (a':=?_) #[true,true,true,true,true,true,true,true,true,true,true,true,true,true,true,true,true,true,true,true,true,true,true,true,true,true,true,true,true,true,true,true,true,true,true,true,true,true,true,true,true,false,false,false,false,false,false,false,false,false,false,false,false,false,false,false,false,false,false,false,false,false,false,false,false,false,false,false,false,false,false,false,false,false] rfl rfl (zay HT_.out (by kernel_rfl)) (fun _ _ _ h=>h) (Or.inl ⟨by rfl,?_⟩) ?_ ?_
 rotate_left
 ·
  intro w'
  go_simp
  with_reducible rfl
 rotate_left
 ·
  simp only [Act.put,List.setIfInBounds_toArray,List.set_cons_zero,List.set_cons_succ,zaq,zar]
  rfl
 refine take_ (i:=42) (N:=some 75) (v:=?_) (a':=?_) #[true,true,true,true,true,true,true,true,true,true,true,true,true,true,true,true,true,true,true,true,true,true,true,true,true,true,true,true,true,true,true,true,true,true,true,true,true,true,true,true,true,false,true,false,false,false,false,false,false,false,false,false,false,false,false,false,false,false,false,false,false,false,false,false,false,false,false,false,false,false,false,false,false,false] rfl rfl (zaQ HT_.out HW_.out (by kernel_rfl)) (fun _ _ _ h=>h) (Or.inl ⟨by rfl,?_⟩) hHeld ?_ ?_
 rotate_left
 ·
  intro w' s0
  go_simp
  with_reducible rfl
 rotate_left
 ·
  simp only [Act.put,List.setIfInBounds_toArray,List.set_cons_zero,List.set_cons_succ,zaq,zar]
  rfl
 refine one_ (i:=41) (N:=some 74) #[true,true,true,true,true,true,true,true,true,true,true,true,true,true,true,true,true,true,true,true,true,true,true,true,true,true,true,true,true,true,true,true,true,true,true,true,true,true,true,true,true,true,true,false,false,false,false,false,false,false,false,false,false,false,false,false,false,false,false,false,false,false,false,false,false,false,false,false,false,false,false,false,false,false] rfl rfl (zaO HT_.out (by kernel_rfl)) (by decide) (fun K hK=>?_)
 refine za7 Try.func58 (by kernel_rfl) rfl #[.int .i64 (-3),.int .i64 2] (by rfl) rfl rfl (by (try simp only [List.map_toArray,List.map_cons,List.map_nil]); first | done | rfl) ?_
 refine(ref_frac_q (x:=-3) (y:=2) V11 (by decide) (by decide) (by decide) (by decide)).mono ?_
 rintro e V12 ⟨f41,rfl,hQ,hB⟩
 refine⟨_,rfl,?_⟩
 have HQ41:=Aside0.mk hQ
 clear hQ
 have hb12:=Aside0.mk (zag hb11.out hB)
 clear hB hb11
 refine hK.out _ _ ((HF.out _ hb12.out).1) (fun hHeld=>?_)
 clear hK K
 refine zaS (a':=?_) ?_ ?_
 rotate_left
 ·
  show Act.put _ (some 74) _=_
  simp only [Act.put,List.setIfInBounds_toArray,List.set_cons_zero,List.set_cons_succ,zaq,zar]
  rfl
 refine one_ (i:=43) (N:=some 76) #[true,true,true,true,true,true,true,true,true,true,true,true,true,true,true,true,true,true,true,true,true,true,true,true,true,true,true,true,true,true,true,true,true,true,true,true,true,true,true,true,true,true,true,true,false,false,false,false,false,false,false,false,false,false,false,false,false,false,false,false,false,false,false,false,false,false,false,false,false,false,false,false,false,false] rfl rfl (zaO HT_.out (by kernel_rfl)) (by decide) (fun K hK=>?_)
 refine za7 Try.func20 (by kernel_rfl) rfl #[f41,.agg #[.bool M.1,.slice AM1 (dg B32 M.2.1).length cM1,.slice AM2 (dg B32 M.2.2).length cM2]] (by rfl) rfl rfl (by (try simp only [List.map_toArray,List.map_cons,List.map_nil]); first | done | rfl) ?_
 refine(zba HQ41.out (HF.out _ hb12.out).2.2.2.2.1 KM.out.2 (by rw [EM.out]; decide)).mono ?_
 rintro e V13 ⟨rfl,hB⟩
 refine⟨_,rfl,?_⟩
 clear HQ41
 have hb13:=Aside0.mk (zag hb12.out hB)
 clear hB hb12
 refine hK.out _ _ ((HF.out _ hb13.out).1) (fun hHeld=>?_)
 clear hK K
 refine zaS (a':=?_) ?_ ?_
 rotate_left
 ·
  show Act.put _ (some 76) _=_
  simp only [Act.put,List.setIfInBounds_toArray,List.set_cons_zero,List.set_cons_succ,zaq,zar]
  rfl
 refine zaA (i:=44) (N:=some 77) (v:=?_) (a':=?_) #[true,true,true,true,true,true,true,true,true,true,true,true,true,true,true,true,true,true,true,true,true,true,true,true,true,true,true,true,true,true,true,true,true,true,true,true,true,true,true,true,true,true,true,true,true,false,false,false,false,false,false,false,false,false,false,false,false,false,false,false,false,false,false,false,false,false,false,false,false,false,false,false,false,false] rfl rfl (zay HT_.out (by kernel_rfl)) (fun _ _ _ h=>h) (Or.inl ⟨by rfl,?_⟩) ?_ ?_
 rotate_left
 ·
  intro w'
  go_simp
  with_reducible rfl
 rotate_left
 ·
  simp only [Act.put,List.setIfInBounds_toArray,List.set_cons_zero,List.set_cons_succ,zaq,zar]
  rfl
 refine zaA (i:=45) (N:=some 78) (v:=?_) (a':=?_) #[true,true,true,true,true,true,true,true,true,true,true,true,true,true,true,true,true,true,true,true,true,true,true,true,true,true,true,true,true,true,true,true,true,true,true,true,true,true,true,true,true,true,true,true,true,true,false,false,false,false,false,false,false,false,false,false,false,false,false,false,false,false,false,false,false,false,false,false,false,false,false,false,false,false] rfl rfl (zay HT_.out (by kernel_rfl)) (fun _ _ _ h=>h) (Or.inl ⟨by rfl,?_⟩) ?_ ?_
 rotate_left
 ·
  intro w'
  go_simp
  with_reducible rfl
 rotate_left
 ·
  simp only [Act.put,List.setIfInBounds_toArray,List.set_cons_zero,List.set_cons_succ,zaq,zar]
  rfl
 refine zaA (i:=46) (N:=some 79) (v:=?_) (a':=?_) #[true,true,true,true,true,true,true,true,true,true,true,true,true,true,true,true,true,true,true,true,true,true,true,true,true,true,true,true,true,true,true,true,true,true,true,true,true,true,true,true,true,true,true,true,true,true,true,false,false,false,false,false,false,false,false,false,false,false,false,false,false,false,false,false,false,false,false,false,false,false,false,false,false,false] rfl rfl (zay HT_.out (by kernel_rfl)) (fun _ _ _ h=>h) (Or.inl ⟨by rfl,?_⟩) ?_ ?_
 rotate_left
 ·
  intro w'
  go_simp
  with_reducible rfl
 rotate_left
 ·
  simp only [Act.put,List.setIfInBounds_toArray,List.set_cons_zero,List.set_cons_succ,zaq,zar]
  rfl
 refine zaA (i:=47) (N:=some 80) (v:=?_) (a':=?_) #[true,true,true,true,true,true,true,true,true,true,true,true,true,true,true,true,true,true,true,true,true,true,true,true,true,true,true,true,true,true,true,true,true,true,true,true,true,true,true,true,true,true,true,true,true,true,true,true,false,false,false,false,false,false,false,false,false,false,false,false,false,false,false,false,false,false,false,false,false,false,false,false,false,false] rfl rfl (zay HT_.out (by kernel_rfl)) (fun _ _ _ h=>h) (Or.inl ⟨by rfl,?_⟩) ?_ ?_
 rotate_left
 ·
  intro w'
  go_simp
  with_reducible rfl
 rotate_left
 ·
  simp only [Act.put,List.setIfInBounds_toArray,List.set_cons_zero,List.set_cons_succ,zaq,zar]
  rfl
 refine zaA (i:=48) (N:=some 81) (v:=?_) (a':=?_) #[true,true,true,true,true,true,true,true,true,true,true,true,true,true,true,true,true,true,true,true,true,true,true,true,true,true,true,true,true,true,true,true,true,true,true,true,true,true,true,true,true,true,true,true,true,true,true,true,true,false,false,false,false,false,false,false,false,false,false,false,false,false,false,false,false,false,false,false,false,false,false,false,false,false] rfl rfl (zay HT_.out (by kernel_rfl)) (fun _ _ _ h=>h) (Or.inl ⟨by rfl,?_⟩) ?_ ?_
 rotate_left
 ·
  intro w'
  go_simp
  with_reducible rfl
 rotate_left
 ·
  simp only [Act.put,List.setIfInBounds_toArray,List.set_cons_zero,List.set_cons_succ,zaq,zar]
  rfl
 refine zaA (i:=49) (N:=some 82) (v:=?_) (a':=?_) #[true,true,true,true,true,true,true,true,true,true,true,true,true,true,true,true,true,true,true,true,true,true,true,true,true,true,true,true,true,true,true,true,true,true,true,true,true,true,true,true,true,true,true,true,true,true,true,true,true,true,false,false,false,false,false,false,false,false,false,false,false,false,false,false,false,false,false,false,false,false,false,false,false,false] rfl rfl (zay HT_.out (by kernel_rfl)) (fun _ _ _ h=>h) (Or.inl ⟨by rfl,?_⟩) ?_ ?_
 rotate_left
 ·
  intro w'
  go_simp
  with_reducible rfl
 rotate_left
 ·
  simp only [Act.put,List.setIfInBounds_toArray,List.set_cons_zero,List.set_cons_succ,zaq,zar]
  rfl
 refine take_ (i:=50) (N:=some 83) (v:=?_) (a':=?_) #[true,true,true,true,true,true,true,true,true,true,true,true,true,true,true,true,true,true,true,true,true,true,true,true,true,true,true,true,true,true,true,true,true,true,true,true,true,true,true,true,true,true,true,true,true,true,true,true,true,true,true,false,false,false,false,false,false,false,false,false,false,false,false,false,false,false,false,false,false,false,false,false,false,false] rfl rfl (zaQ HT_.out HW_.out (by kernel_rfl)) (fun _ _ _ h=>h) (Or.inl ⟨by rfl,?_⟩) hHeld ?_ ?_
 rotate_left
 ·
  intro w' s0
  go_simp
  with_reducible rfl
 rotate_left
 ·
  simp only [Act.put,List.setIfInBounds_toArray,List.set_cons_zero,List.set_cons_succ,zaq,zar]
  rfl
 refine one_ (i:=51) (N:=some 84) #[true,true,true,true,true,true,true,true,true,true,true,true,true,true,true,true,true,true,true,true,true,true,true,true,true,true,true,true,true,true,true,true,true,true,true,true,true,true,true,true,true,true,true,true,true,true,true,true,true,true,true,true,false,false,false,false,false,false,false,false,false,false,false,false,false,false,false,false,false,false,false,false,false,false] rfl rfl (zaO HT_.out (by kernel_rfl)) (by decide) (fun K hK=>?_)
 refine za7 Try.func46 (by kernel_rfl) rfl #[.agg #[.bool B.1,.slice AB1 (dg B32 B.2.1).length cB1,.slice AB2 (dg B32 B.2.2).length cB2]] (by rfl) rfl rfl (by (try simp only [List.map_toArray,List.map_cons,List.map_nil]); first | done | rfl) ?_
 refine(bits4 EB.out (HF.out _ hb13.out).2.2.2.2.2 KB.out.1 KB.out.2).mono ?_
 rintro e V14 ⟨rfl,hB⟩
 refine⟨_,rfl,?_⟩
 have hb14:=Aside0.mk (zag hb13.out hB)
 clear hB hb13
 refine hK.out _ _ ((HF.out _ hb14.out).1) (fun hHeld=>?_)
 clear hK K
 refine zaS (a':=?_) ?_ ?_
 rotate_left
 ·
  show Act.put _ (some 84) _=_
  simp only [Act.put,List.setIfInBounds_toArray,List.set_cons_zero,List.set_cons_succ,zaq,zar]
  rfl
 refine zaA (i:=52) (N:=some 85) (v:=?_) (a':=?_) #[true,true,true,true,true,true,true,true,true,true,true,true,true,true,true,true,true,true,true,true,true,true,true,true,true,true,true,true,true,true,true,true,true,true,true,true,true,true,true,true,true,true,true,true,true,true,true,true,true,true,true,true,true,false,false,false,false,false,false,false,false,false,false,false,false,false,false,false,false,false,false,false,false,false] rfl rfl (zay HT_.out (by kernel_rfl)) (fun _ _ _ h=>h) (Or.inl ⟨by rfl,?_⟩) ?_ ?_
 rotate_left
 ·
  intro w'
  go_simp
  with_reducible rfl
 rotate_left
 ·
  simp only [Act.put,List.setIfInBounds_toArray,List.set_cons_zero,List.set_cons_succ,zaq,zar]
  rfl
 refine zaA (i:=53) (N:=some 86) (v:=?_) (a':=?_) #[true,true,true,true,true,true,true,true,true,true,true,true,true,true,true,true,true,true,true,true,true,true,true,true,true,true,true,true,true,true,true,true,true,true,true,true,true,true,true,true,true,true,true,true,true,true,true,true,true,true,true,true,true,true,false,false,false,false,false,false,false,false,false,false,false,false,false,false,false,false,false,false,false,false] rfl rfl (zay HT_.out (by kernel_rfl)) (fun _ _ _ h=>h) (Or.inl ⟨by rfl,?_⟩) ?_ ?_
 rotate_left
 ·
  intro w'
  go_simp
  with_reducible rfl
 rotate_left
 ·
  simp only [Act.put,List.setIfInBounds_toArray,List.set_cons_zero,List.set_cons_succ,zaq,zar]
  rfl
 refine zaA (i:=54) (N:=some 87) (v:=?_) (a':=?_) #[true,true,true,true,true,true,true,true,true,true,true,true,true,true,true,true,true,true,true,true,true,true,true,true,true,true,true,true,true,true,true,true,true,true,true,true,true,true,true,true,true,true,true,true,true,true,true,true,true,true,true,true,true,true,true,false,false,false,false,false,false,false,false,false,false,false,false,false,false,false,false,false,false,false] rfl rfl (zay HT_.out (by kernel_rfl)) (fun _ _ _ h=>h) (Or.inl ⟨by rfl,?_⟩) ?_ ?_
 rotate_left
 ·
  intro w'
  go_simp
  with_reducible rfl
 rotate_left
 ·
  simp only [Act.put,List.setIfInBounds_toArray,List.set_cons_zero,List.set_cons_succ,zaq,zar]
  rfl
 refine join_ (σ:=Addr×Addr) 17 #[true,true,true,true,true,true,true,true,true,true,true,true,true,true,true,true,true,true,true,true,true,true,true,true,true,true,true,true,true,true,true,true,true,true,true,true,true,true,true,true,true,true,true,true,true,true,true,true,true,true,true,true,true,true,true,true,true,false,false,false,false,false,false,false,false,false,false,false,false,false,false,false,false,false] (fun s=>[(88,.slice (some s.1) 1 1),(89,.slice (some s.2) 1 1)]) (fun s w'=>(w'.cell? ⟨gH,0,none⟩=some (.bool H.1)∧w'.cell? ⟨gH,1,none⟩=some (.slice AH1 (dg B32 H.2.1).length cH1)∧w'.cell? ⟨gH,2,none⟩=some (.slice AH2 (dg B32 H.2.2).length cH2)∧w'.cell? ⟨gT,0,none⟩=some (.bool T.1)∧w'.cell? ⟨gT,1,none⟩=some (.slice AT1 (dg B32 T.2.1).length cT1)∧w'.cell? ⟨gT,2,none⟩=some (.slice AT2 (dg B32 T.2.2).length cT2)∧w'.cell? ⟨gQ,0,none⟩=some (.bool Q.1)∧w'.cell? ⟨gQ,1,none⟩=some (.slice AQ1 (dg B32 Q.2.1).length cQ1)∧w'.cell? ⟨gQ,2,none⟩=some (.slice AQ2 (dg B32 Q.2.2).length cQ2)∧w'.cell? ⟨gM,0,none⟩=some (.bool M.1)∧w'.cell? ⟨gM,1,none⟩=some (.slice AM1 (dg B32 M.2.1).length cM1)∧w'.cell? ⟨gM,2,none⟩=some (.slice AM2 (dg B32 M.2.2).length cM2)∧w'.cell? ⟨gB,0,none⟩=some (.bool B.1)∧w'.cell? ⟨gB,1,none⟩=some (.slice AB1 (dg B32 B.2.1).length cB1)∧w'.cell? ⟨gB,2,none⟩=some (.slice AB2 (dg B32 B.2.2).length cB2))∧Kd.C (Kd.int .u32) w' (some s.1) 1 [2]∧Kd.C (Kd.int .u32) w' (some s.2) 1 [4]∧Below W5.heap.size W5 w') ?_ ?_
 rotate_left
 ·
  intro hCont
  refine two_ (i:=55) (j:=56) (Ni:=some 88) (Nj:=some 89) #[true,true,true,true,true,true,true,true,true,true,true,true,true,true,true,true,true,true,true,true,true,true,true,true,true,true,true,true,true,true,true,true,true,true,true,true,true,true,true,true,true,true,true,true,true,true,true,true,true,true,true,true,true,true,true,true,false,false,false,false,false,false,false,false,false,false,false,false,false,false,false,false,false,false] #[true,true,true,true,true,true,true,true,true,true,true,true,true,true,true,true,true,true,true,true,true,true,true,true,true,true,true,true,true,true,true,true,true,true,true,true,true,true,true,true,true,true,true,true,true,true,true,true,true,true,true,true,true,true,true,false,true,false,false,false,false,false,false,false,false,false,false,false,false,false,false,false,false,false] rfl rfl rfl rfl (two_of HT_.out (by kernel_rfl)) (by decide) (by decide) (fun K hK=>?_) (fun K hK=>?_)
  ·
   skip
   refine value_ (w1:=?_) (v:=?_) (by rfl) rfl ?_ ?_
   rotate_left 2
   ·
    go_simp
    constructor
    ·
     rfl
    ·
     rfl
   have hA55:Below (V14).heap.size V14 (V14.alloc (.cells #[.int .u32 2] 63 (0,0))):=zab (Below.refl _ _) _
   have hC55:=lit_C V14 2 63
   have hbf1:=zag hb14.out hA55
   refine hK.out _ _ ((HF.out _ hbf1).1) (fun hHeld=>?_)
   clear hK K
   refine zaS (a':=?_) ?_ ?_
   rotate_left
   ·
    show Act.put _ (some 88) _=_
    simp only [Act.put,List.setIfInBounds_toArray,List.set_cons_zero,List.set_cons_succ,zaq,zar]
    rfl
   refine one_ (i:=56) (N:=some 89) #[true,true,true,true,true,true,true,true,true,true,true,true,true,true,true,true,true,true,true,true,true,true,true,true,true,true,true,true,true,true,true,true,true,true,true,true,true,true,true,true,true,true,true,true,true,true,true,true,true,true,true,true,true,true,true,true,true,false,false,false,false,false,false,false,false,false,false,false,false,false,false,false,false,false] rfl rfl (zaO HT_.out (by kernel_rfl)) (by decide) (fun K hK=>?_)
   refine value_ (w1:=?_) (v:=?_) (by rfl) rfl ?_ ?_
   rotate_left 2
   ·
    go_simp
    constructor
    ·
     rfl
    ·
     rfl
   have hA56:Below ((V14.alloc (.cells #[.int .u32 2] 63 (0,0)))).heap.size (V14.alloc (.cells #[.int .u32 2] 63 (0,0))) ((V14.alloc (.cells #[.int .u32 2] 63 (0,0))).alloc (.cells #[.int .u32 4] 63 (0,0))):=zab (Below.refl _ _) _
   have hC56:=lit_C (V14.alloc (.cells #[.int .u32 2] 63 (0,0))) 4 63
   have hC55b:=Kd.C_below hC55 hA56
   have hS56:((V14.alloc (.cells #[.int .u32 2] 63 (0,0)))).heap.size=V14.heap.size+1:=by simp
   rw [hS56] at hC56
   have hbf:=zag (zag hb14.out hA55) hA56
   refine hK.out _ _ ((HF.out _ hbf).1) (fun hHeld=>?_)
   clear hK K
   refine zaS (a':=?_) ?_ ?_
   rotate_left
   ·
    show Act.put _ (some 89) _=_
    simp only [Act.put,List.setIfInBounds_toArray,List.set_cons_zero,List.set_cons_succ,zaq,zar]
    rfl
   exact zaS (by simp only [putAll,Act.put,List.setIfInBounds_toArray,List.set_cons_zero,List.set_cons_succ]) (hCont (⟨V14.heap.size,0,none⟩,⟨V14.heap.size+1,0,none⟩) _ ⟨(HF.out _ hbf).1,hC55b,hC56,hbf⟩)
  ·
   skip
   refine value_ (w1:=?_) (v:=?_) (by rfl) rfl ?_ ?_
   rotate_left 2
   ·
    go_simp
    constructor
    ·
     rfl
    ·
     rfl
   have hA56:Below (V14).heap.size V14 (V14.alloc (.cells #[.int .u32 4] 63 (0,0))):=zab (Below.refl _ _) _
   have hC56:=lit_C V14 4 63
   have hbf1:=zag hb14.out hA56
   refine hK.out _ _ ((HF.out _ hbf1).1) (fun hHeld=>?_)
   clear hK K
   refine zaS (a':=?_) ?_ ?_
   rotate_left
   ·
    show Act.put _ (some 89) _=_
    simp only [Act.put,List.setIfInBounds_toArray,List.set_cons_zero,List.set_cons_succ,zaq,zar]
    rfl
   refine one_ (i:=55) (N:=some 88) #[true,true,true,true,true,true,true,true,true,true,true,true,true,true,true,true,true,true,true,true,true,true,true,true,true,true,true,true,true,true,true,true,true,true,true,true,true,true,true,true,true,true,true,true,true,true,true,true,true,true,true,true,true,true,true,true,true,false,false,false,false,false,false,false,false,false,false,false,false,false,false,false,false,false] rfl rfl (zaO HT_.out (by kernel_rfl)) (by decide) (fun K hK=>?_)
   refine value_ (w1:=?_) (v:=?_) (by rfl) rfl ?_ ?_
   rotate_left 2
   ·
    go_simp
    constructor
    ·
     rfl
    ·
     rfl
   have hA55:Below ((V14.alloc (.cells #[.int .u32 4] 63 (0,0)))).heap.size (V14.alloc (.cells #[.int .u32 4] 63 (0,0))) ((V14.alloc (.cells #[.int .u32 4] 63 (0,0))).alloc (.cells #[.int .u32 2] 63 (0,0))):=zab (Below.refl _ _) _
   have hC55:=lit_C (V14.alloc (.cells #[.int .u32 4] 63 (0,0))) 2 63
   have hC56b:=Kd.C_below hC56 hA55
   have hS55:((V14.alloc (.cells #[.int .u32 4] 63 (0,0)))).heap.size=V14.heap.size+1:=by simp
   rw [hS55] at hC55
   have hbf:=zag (zag hb14.out hA56) hA55
   refine hK.out _ _ ((HF.out _ hbf).1) (fun hHeld=>?_)
   clear hK K
   refine zaS (a':=?_) ?_ ?_
   rotate_left
   ·
    show Act.put _ (some 88) _=_
    simp only [Act.put,List.setIfInBounds_toArray,List.set_cons_zero,List.set_cons_succ,zaq,zar]
    rfl
   exact zaS (by simp only [putAll,Act.put,List.setIfInBounds_toArray,List.set_cons_zero,List.set_cons_succ]) (hCont (⟨V14.heap.size+1,0,none⟩,⟨V14.heap.size,0,none⟩) _ ⟨(HF.out _ hbf).1,hC55,hC56b,hbf⟩)
 rintro⟨s1,s2⟩ V15 ⟨hHeld,hC1,hC2,hb⟩
 have hb15:=Aside0.mk hb
 have HC1:=Aside0.mk hC1
 have HC2:=Aside0.mk hC2
 clear hb hC1 hC2 hb14
 refine zaS (a':=?_) ?_ ?_
 rotate_left
 ·
  simp only [putAll,Act.put,List.setIfInBounds_toArray,List.set_cons_zero,List.set_cons_succ]
  rfl
 refine zaA (i:=57) (N:=some 90) (v:=?_) (a':=?_) #[true,true,true,true,true,true,true,true,true,true,true,true,true,true,true,true,true,true,true,true,true,true,true,true,true,true,true,true,true,true,true,true,true,true,true,true,true,true,true,true,true,true,true,true,true,true,true,true,true,true,true,true,true,true,true,true,true,true,false,false,false,false,false,false,false,false,false,false,false,false,false,false,false,false] rfl rfl (zay HT_.out (by kernel_rfl)) (fun _ _ _ h=>h) (Or.inl ⟨by rfl,?_⟩) ?_ ?_
 rotate_left
 ·
  intro w'
  go_simp
  with_reducible rfl
 rotate_left
 ·
  simp only [Act.put,List.setIfInBounds_toArray,List.set_cons_zero,List.set_cons_succ,zaq,zar]
  rfl
 refine one_ (i:=58) (N:=some 91) #[true,true,true,true,true,true,true,true,true,true,true,true,true,true,true,true,true,true,true,true,true,true,true,true,true,true,true,true,true,true,true,true,true,true,true,true,true,true,true,true,true,true,true,true,true,true,true,true,true,true,true,true,true,true,true,true,true,true,true,false,false,false,false,false,false,false,false,false,false,false,false,false,false,false] rfl rfl (zaO HT_.out (by kernel_rfl)) (by decide) (fun K hK=>?_)
 refine za7 Try.func18 (by kernel_rfl) rfl #[.agg #[.bool false,.slice (some s1) 1 1,.slice (some s2) 1 1]] (by rfl) rfl rfl (by (try simp only [List.map_toArray,List.map_cons,List.map_nil]); first | done | rfl) ?_
 refine(may24 HC1.out HC2.out).mono ?_
 rintro e V16 ⟨rfl,hB⟩
 refine⟨_,rfl,?_⟩
 clear HC1 HC2
 have hb16:=Aside0.mk (zag hb15.out hB)
 clear hB hb15
 refine hK.out _ _ ((HF.out _ hb16.out).1) (fun hHeld=>?_)
 clear hK K
 refine zaS (a':=?_) ?_ ?_
 rotate_left
 ·
  show Act.put _ (some 91) _=_
  simp only [Act.put,List.setIfInBounds_toArray,List.set_cons_zero,List.set_cons_succ,zaq,zar]
  rfl
 refine zaA (i:=59) (N:=some 92) (v:=?_) (a':=?_) #[true,true,true,true,true,true,true,true,true,true,true,true,true,true,true,true,true,true,true,true,true,true,true,true,true,true,true,true,true,true,true,true,true,true,true,true,true,true,true,true,true,true,true,true,true,true,true,true,true,true,true,true,true,true,true,true,true,true,true,true,false,false,false,false,false,false,false,false,false,false,false,false,false,false] rfl rfl (zay HT_.out (by kernel_rfl)) (fun _ _ _ h=>h) (Or.inl ⟨by rfl,?_⟩) ?_ ?_
 rotate_left
 ·
  intro w'
  go_simp
  with_reducible rfl
 rotate_left
 ·
  simp only [Act.put,List.setIfInBounds_toArray,List.set_cons_zero,List.set_cons_succ,zaq,zar]
  rfl
 refine zaA (i:=60) (N:=some 93) (v:=?_) (a':=?_) #[true,true,true,true,true,true,true,true,true,true,true,true,true,true,true,true,true,true,true,true,true,true,true,true,true,true,true,true,true,true,true,true,true,true,true,true,true,true,true,true,true,true,true,true,true,true,true,true,true,true,true,true,true,true,true,true,true,true,true,true,true,false,false,false,false,false,false,false,false,false,false,false,false,false] rfl rfl (zay HT_.out (by kernel_rfl)) (fun _ _ _ h=>h) (Or.inl ⟨by rfl,?_⟩) ?_ ?_
 rotate_left
 ·
  intro w'
  go_simp
  with_reducible rfl
 rotate_left
 ·
  simp only [Act.put,List.setIfInBounds_toArray,List.set_cons_zero,List.set_cons_succ,zaq,zar]
  rfl
 refine zaA (i:=61) (N:=some 94) (v:=?_) (a':=?_) #[true,true,true,true,true,true,true,true,true,true,true,true,true,true,true,true,true,true,true,true,true,true,true,true,true,true,true,true,true,true,true,true,true,true,true,true,true,true,true,true,true,true,true,true,true,true,true,true,true,true,true,true,true,true,true,true,true,true,true,true,true,true,false,false,false,false,false,false,false,false,false,false,false,false] rfl rfl (zay HT_.out (by kernel_rfl)) (fun _ _ _ h=>h) (Or.inl ⟨by rfl,?_⟩) ?_ ?_
 rotate_left
 ·
  intro w'
  go_simp
  with_reducible rfl
 rotate_left
 ·
  simp only [Act.put,List.setIfInBounds_toArray,List.set_cons_zero,List.set_cons_succ,zaq,zar]
  rfl
 refine one_ (i:=62) (N:=some 95) #[true,true,true,true,true,true,true,true,true,true,true,true,true,true,true,true,true,true,true,true,true,true,true,true,true,true,true,true,true,true,true,true,true,true,true,true,true,true,true,true,true,true,true,true,true,true,true,true,true,true,true,true,true,true,true,true,true,true,true,true,true,true,true,false,false,false,false,false,false,false,false,false,false,false] rfl rfl (zaO HT_.out (by kernel_rfl)) (by decide) (fun K hK=>?_)
 refine value_ (w1:=?_) (v:=?_) (by rfl) rfl ?_ ?_
 rotate_left 2
 ·
  go_simp
  constructor
  ·
   rfl
  ·
   rfl
 have hA:Below V16.heap.size V16 (V16.alloc (.cells #[.int .u32 5] 63 (0,0))):=zab (Below.refl _ _) _
 have HC:=Aside0.mk (lit_C V16 5 63)
 have hb17:=Aside0.mk (zag hb16.out hA)
 clear hA hb16
 obtain⟨a62,ha62⟩:∃ a:Addr,a=⟨V16.heap.size,0,none⟩:=⟨_,rfl⟩
 rw [← ha62] at HC ⊢
 generalize V16.alloc (.cells #[.int .u32 5] 63 (0,0))=V17 at HC hb17 ⊢
 clear ha62
 refine hK.out _ _ ((HF.out _ hb17.out).1) (fun hHeld=>?_)
 clear hK K
 refine zaS (a':=?_) ?_ ?_
 rotate_left
 ·
  show Act.put _ (some 95) _=_
  simp only [Act.put,List.setIfInBounds_toArray,List.set_cons_zero,List.set_cons_succ,zaq,zar]
  rfl
 refine zaA (i:=63) (N:=some 96) (v:=?_) (a':=?_) #[true,true,true,true,true,true,true,true,true,true,true,true,true,true,true,true,true,true,true,true,true,true,true,true,true,true,true,true,true,true,true,true,true,true,true,true,true,true,true,true,true,true,true,true,true,true,true,true,true,true,true,true,true,true,true,true,true,true,true,true,true,true,true,true,false,false,false,false,false,false,false,false,false,false] rfl rfl (zay HT_.out (by kernel_rfl)) (fun _ _ _ h=>h) (Or.inl ⟨by rfl,?_⟩) ?_ ?_
 rotate_left
 ·
  intro w'
  go_simp
  with_reducible rfl
 rotate_left
 ·
  simp only [Act.put,List.setIfInBounds_toArray,List.set_cons_zero,List.set_cons_succ,zaq,zar]
  rfl
 refine one_ (i:=64) (N:=some 97) #[true,true,true,true,true,true,true,true,true,true,true,true,true,true,true,true,true,true,true,true,true,true,true,true,true,true,true,true,true,true,true,true,true,true,true,true,true,true,true,true,true,true,true,true,true,true,true,true,true,true,true,true,true,true,true,true,true,true,true,true,true,true,true,true,true,false,false,false,false,false,false,false,false,false] rfl rfl (zaO HT_.out (by kernel_rfl)) (by decide) (fun K hK=>?_)
 refine za7 Try.func18 (by kernel_rfl) rfl #[.agg #[.bool false,.slice none 0 0,.slice (some a62) 1 1]] (by rfl) rfl rfl (by (try simp only [List.map_toArray,List.map_cons,List.map_nil]); first | done | rfl) ?_
 refine(may_5 HC.out).mono ?_
 rintro e V18 ⟨rfl,hB⟩
 refine⟨_,rfl,?_⟩
 clear HC
 have hb18:=Aside0.mk (zag hb17.out hB)
 clear hB hb17
 refine hK.out _ _ ((HF.out _ hb18.out).1) (fun hHeld=>?_)
 clear hK K
 refine zaS (a':=?_) ?_ ?_
 rotate_left
 ·
  show Act.put _ (some 97) _=_
  simp only [Act.put,List.setIfInBounds_toArray,List.set_cons_zero,List.set_cons_succ,zaq,zar]
  rfl
 refine zaA (i:=65) (N:=some 98) (v:=?_) (a':=?_) #[true,true,true,true,true,true,true,true,true,true,true,true,true,true,true,true,true,true,true,true,true,true,true,true,true,true,true,true,true,true,true,true,true,true,true,true,true,true,true,true,true,true,true,true,true,true,true,true,true,true,true,true,true,true,true,true,true,true,true,true,true,true,true,true,true,true,false,false,false,false,false,false,false,false] rfl rfl (zay HT_.out (by kernel_rfl)) (fun _ _ _ h=>h) (Or.inl ⟨by rfl,?_⟩) ?_ ?_
 rotate_left
 ·
  intro w'
  go_simp
  with_reducible rfl
 rotate_left
 ·
  simp only [Act.put,List.setIfInBounds_toArray,List.set_cons_zero,List.set_cons_succ,zaq,zar]
  rfl
 refine zaA (i:=66) (N:=some 99) (v:=?_) (a':=?_) #[true,true,true,true,true,true,true,true,true,true,true,true,true,true,true,true,true,true,true,true,true,true,true,true,true,true,true,true,true,true,true,true,true,true,true,true,true,true,true,true,true,true,true,true,true,true,true,true,true,true,true,true,true,true,true,true,true,true,true,true,true,true,true,true,true,true,true,false,false,false,false,false,false,false] rfl rfl (zay HT_.out (by kernel_rfl)) (fun _ _ _ h=>h) (Or.inl ⟨by rfl,?_⟩) ?_ ?_
 rotate_left
 ·
  intro w'
  go_simp
  with_reducible rfl
 rotate_left
 ·
  simp only [Act.put,List.setIfInBounds_toArray,List.set_cons_zero,List.set_cons_succ,zaq,zar]
  rfl
 refine zaA (i:=67) (N:=some 100) (v:=?_) (a':=?_) #[true,true,true,true,true,true,true,true,true,true,true,true,true,true,true,true,true,true,true,true,true,true,true,true,true,true,true,true,true,true,true,true,true,true,true,true,true,true,true,true,true,true,true,true,true,true,true,true,true,true,true,true,true,true,true,true,true,true,true,true,true,true,true,true,true,true,true,true,false,false,false,false,false,false] rfl rfl (zay HT_.out (by kernel_rfl)) (fun _ _ _ h=>h) (Or.inl ⟨by rfl,?_⟩) ?_ ?_
 rotate_left
 ·
  intro w'
  go_simp
  with_reducible rfl
 rotate_left
 ·
  simp only [Act.put,List.setIfInBounds_toArray,List.set_cons_zero,List.set_cons_succ,zaq,zar]
  rfl
 refine one_ (i:=68) (N:=some 101) #[true,true,true,true,true,true,true,true,true,true,true,true,true,true,true,true,true,true,true,true,true,true,true,true,true,true,true,true,true,true,true,true,true,true,true,true,true,true,true,true,true,true,true,true,true,true,true,true,true,true,true,true,true,true,true,true,true,true,true,true,true,true,true,true,true,true,true,true,true,false,false,false,false,false] rfl rfl (zaO HT_.out (by kernel_rfl)) (by decide) (fun K hK=>?_)
 refine value_ (w1:=?_) (v:=?_) (by rfl) rfl ?_ ?_
 rotate_left 2
 ·
  go_simp
  constructor
  ·
   rfl
  ·
   rfl
 have hA:Below V18.heap.size V18 (V18.alloc (.cells #[.int .u32 3] 63 (0,0))):=zab (Below.refl _ _) _
 have HC:=Aside0.mk (lit_C V18 3 63)
 have hb19:=Aside0.mk (zag hb18.out hA)
 clear hA hb18
 obtain⟨a68,ha68⟩:∃ a:Addr,a=⟨V18.heap.size,0,none⟩:=⟨_,rfl⟩
 rw [← ha68] at HC ⊢
 generalize V18.alloc (.cells #[.int .u32 3] 63 (0,0))=V19 at HC hb19 ⊢
 clear ha68
 refine hK.out _ _ ((HF.out _ hb19.out).1) (fun hHeld=>?_)
 clear hK K
 refine zaS (a':=?_) ?_ ?_
 rotate_left
 ·
  show Act.put _ (some 101) _=_
  simp only [Act.put,List.setIfInBounds_toArray,List.set_cons_zero,List.set_cons_succ,zaq,zar]
  rfl
 refine zaA (i:=69) (N:=some 102) (v:=?_) (a':=?_) #[true,true,true,true,true,true,true,true,true,true,true,true,true,true,true,true,true,true,true,true,true,true,true,true,true,true,true,true,true,true,true,true,true,true,true,true,true,true,true,true,true,true,true,true,true,true,true,true,true,true,true,true,true,true,true,true,true,true,true,true,true,true,true,true,true,true,true,true,true,true,false,false,false,false] rfl rfl (zay HT_.out (by kernel_rfl)) (fun _ _ _ h=>h) (Or.inl ⟨by rfl,?_⟩) ?_ ?_
 rotate_left
 ·
  intro w'
  go_simp
  with_reducible rfl
 rotate_left
 ·
  simp only [Act.put,List.setIfInBounds_toArray,List.set_cons_zero,List.set_cons_succ,zaq,zar]
  rfl
 refine one_ (i:=70) (N:=some 103) #[true,true,true,true,true,true,true,true,true,true,true,true,true,true,true,true,true,true,true,true,true,true,true,true,true,true,true,true,true,true,true,true,true,true,true,true,true,true,true,true,true,true,true,true,true,true,true,true,true,true,true,true,true,true,true,true,true,true,true,true,true,true,true,true,true,true,true,true,true,true,true,false,false,false] rfl rfl (zaO HT_.out (by kernel_rfl)) (by decide) (fun K hK=>?_)
 refine za7 Try.func18 (by kernel_rfl) rfl #[.agg #[.bool false,.slice (some a68) 1 1,.slice none 0 0]] (by rfl) rfl rfl (by (try simp only [List.map_toArray,List.map_cons,List.map_nil]); first | done | rfl) ?_
 refine(may3_ HC.out).mono ?_
 rintro e V20 ⟨rfl,hB⟩
 refine⟨_,rfl,?_⟩
 clear HC
 have hb20:=Aside0.mk (zag hb19.out hB)
 clear hB hb19
 refine hK.out _ _ ((HF.out _ hb20.out).1) (fun hHeld=>?_)
 clear hK K
 refine zaS (a':=?_) ?_ ?_
 rotate_left
 ·
  show Act.put _ (some 103) _=_
  simp only [Act.put,List.setIfInBounds_toArray,List.set_cons_zero,List.set_cons_succ,zaq,zar]
  rfl
 refine zaA (i:=71) (N:=some 104) (v:=?_) (a':=?_) #[true,true,true,true,true,true,true,true,true,true,true,true,true,true,true,true,true,true,true,true,true,true,true,true,true,true,true,true,true,true,true,true,true,true,true,true,true,true,true,true,true,true,true,true,true,true,true,true,true,true,true,true,true,true,true,true,true,true,true,true,true,true,true,true,true,true,true,true,true,true,true,true,false,false] rfl rfl (zay HT_.out (by kernel_rfl)) (fun _ _ _ h=>h) (Or.inl ⟨by rfl,?_⟩) ?_ ?_
 rotate_left
 ·
  intro w'
  go_simp
  with_reducible rfl
 rotate_left
 ·
  simp only [Act.put,List.setIfInBounds_toArray,List.set_cons_zero,List.set_cons_succ,zaq,zar]
  rfl
 refine zaA (i:=72) (N:=some 105) (v:=?_) (a':=?_) #[true,true,true,true,true,true,true,true,true,true,true,true,true,true,true,true,true,true,true,true,true,true,true,true,true,true,true,true,true,true,true,true,true,true,true,true,true,true,true,true,true,true,true,true,true,true,true,true,true,true,true,true,true,true,true,true,true,true,true,true,true,true,true,true,true,true,true,true,true,true,true,true,true,false] rfl rfl (zay HT_.out (by kernel_rfl)) (fun _ _ _ h=>h) (Or.inl ⟨by rfl,?_⟩) ?_ ?_
 rotate_left
 ·
  intro w'
  go_simp
  with_reducible rfl
 rotate_left
 ·
  simp only [Act.put,List.setIfInBounds_toArray,List.set_cons_zero,List.set_cons_succ,zaq,zar]
  rfl
 refine zaA (i:=73) (N:=some 0) (v:=?_) (a':=?_) #[true,true,true,true,true,true,true,true,true,true,true,true,true,true,true,true,true,true,true,true,true,true,true,true,true,true,true,true,true,true,true,true,true,true,true,true,true,true,true,true,true,true,true,true,true,true,true,true,true,true,true,true,true,true,true,true,true,true,true,true,true,true,true,true,true,true,true,true,true,true,true,true,true,true] rfl rfl (zay HT_.out (by kernel_rfl)) (fun _ _ _ h=>h) (Or.inl ⟨by rfl,?_⟩) ?_ ?_
 rotate_left
 ·
  intro w'
  go_simp
  with_reducible rfl
 rotate_left
 ·
  simp only [Act.put,List.setIfInBounds_toArray,List.set_cons_zero,List.set_cons_succ,zaq,zar]
  rfl
 refine done_ (done_of HT_.out (by kernel_rfl)) ?_
 clear hHeld
 go_wp2
 go_ret
 exact⟨rfl,zag HB5.out hb20.out⟩
end Go.Proofs.Ytehghijlchpeaaa.Nat1
end
section
namespace Go.Proofs.Ytehghijlchpeaaa.Nat1
open Go.RowKit Go.Proofs.YtehghijlchpeaaaW.PrintWords Go.Proofs.YtehghijlchpeaaaW.PrintLast Go.Proofs.YtehghijlchpeaaaW.PrintMore Go.Proofs.Ytehghijlchpeaaa.L Go.Proofs.Ytehghijlchpeaaa.Nt Go.Proofs.Ytehghijlchpeaaa.Ev
set_option linter.unusedVariables false
set_option linter.unusedSimpArgs false
set_option linter.unusedSectionVars false
def NR (w:World) (v:Value) (X:QN):Prop :=
 ∃ (n:Bool) (A1:Option Addr) (c1:Nat) (p:List Int) (A2:Option Addr) (c2:Nat) (q:List Int),v=.agg #[.bool n,.slice A1 p.length c1,.slice A2 q.length c2] ∧
  (Kd.C (Kd.int .u32) w A1 p.length p∧p.length≤c1∧okS p)∧(Kd.C (Kd.int .u32) w A2 q.length q∧q.length≤c2∧okS q)∧nrm n (val B32 p) (val B32 q)=X
def lim (k:Nat) (X:QN):Prop:=X.2.1 < B32 ^ k∧X.2.2 < B32 ^ k
theorem lim_ok {k:Nat} {X:QN} (h:lim k X) (hk:k≤137438953472):okQ X:=by
 have h1:=zaE zam h.1
 have h2:=zaE zam h.2
 exact⟨by omega,by omega⟩
theorem lim_nrm {k:Nat} {n:Bool} {a b:Nat} (ha:a < B32 ^ k) (hb:b < B32 ^ k) (hk:0 < k):lim k (nrm n a b):=by
 have h1:1 < B32 ^ k:=Nat.one_lt_pow (by omega) (by decide)
 unfold nrm lim
 split
 ·
  exact⟨by simp only []; omega,by simp only []; exact h1⟩
 ·
  exact⟨Nat.lt_of_le_of_lt (Nat.div_le_self _ _) ha,Nat.lt_of_le_of_lt (Nat.div_le_self _ _) hb⟩
theorem NR.red {w:World} {v:Value} {X:QN} (h:NR w v X):red X:=by
 obtain⟨n,A1,c1,p,A2,c2,q,rfl,h1,h2,rfl⟩:=h
 exact nrm_red _ _ _
theorem NR.okQ {w:World} {v:Value} {X:QN} (h:NR w v X):okQ X:=by
 obtain⟨n,A1,c1,p,A2,c2,q,rfl,h1,h2,rfl⟩:=h
 exact okQ_nrm h1.2.2 h2.2.2
section
variable {W:World} {u v:Value} {X Y:QN} (hu:NR W u X) (hv:NR W v Y)
include hu
include hv
end
theorem wf_i64 {a:Int} (h:(Lit.int .i64 a).wf=true):-9223372036854775808≤a∧a < 9223372036854775808:=by
 simp [Lit.wf,IntKind.min,IntKind.max,IntKind.bits,IntKind.signed] at h
 omega
theorem okQ_abs {x:Int} (h0:-9223372036854775808≤x) (h1:x < 9223372036854775808):lim 2 ((decide (x < 0),x.natAbs,1):QN) :=
 ⟨show x.natAbs < B32 ^ 2 by unfold B32; omega,show 1 < B32 ^ 2 by decide⟩
theorem int_n {x:Int} (w:World) (h0:-9223372036854775808≤x) (h1:x < 9223372036854775808):Calls Try.prog 28 #[.int .i64 x] w (RTPost w (decide (x < 0),x.natAbs,1)):=by
 refine(H.rat_Int.calls x (decide (x < 0)) (dg B32 x.natAbs) (dg B32 1) w ?_).mono ?_
 ·
  rw [H.rat_Int.f,size_f h0 h1,Option.bind_some,H.rat_one.f,nat_Of.f,if_pos (by omega),Option.bind_some]
  rfl
 ·
  rintro e w' ⟨v1,v2,rfl,R1,R2,hb⟩
  exact⟨_,rfl,⟨v1,v2,rfl,Kd.R_mono R1 (fun _ _=>trivial),Kd.R_mono R2 (fun _ _=>trivial)⟩,hb⟩
theorem ref_int_n {x:Int} (w:World) (h0:-9223372036854775808≤x) (h1:x < 9223372036854775808):Calls Try.prog 27 #[.int .i64 x] w fun e w'=>∃ v,e=.returned v∧QT w' w.heap.size v (decide (x < 0),x.natAbs,1)∧Below w.heap.size w w':=by
 obtain⟨k,hk⟩:=int_ev h0 h1
 have hk:fluxionref03_Int.f k x=_:=hk k (Nat.le_refl _)
 unfold DR at hk
 refine(fluxionref03_Int.calls k x _ _ _ w hk).mono ?_
 rintro e w' ⟨v1,v2,rfl,R1,R2,hb⟩
 exact⟨_,rfl,⟨v1,v2,rfl,Kd.R_mono R1 (fun _ _=>trivial),Kd.R_mono R2 (fun _ _=>trivial)⟩,hb⟩
theorem ref_frac_n {x y:Int} (w:World) (h0:-9223372036854775808≤x) (h1:x < 9223372036854775808) (h2:-9223372036854775808≤y) (h3:y < 9223372036854775808) :
  Calls Try.prog 29 #[.int .i64 x,.int .i64 y] w fun e w'=>∃ v,e=.returned v∧QT w' w.heap.size v (nrm (decide (x < 0) != decide (y < 0)) x.natAbs y.natAbs)∧Below w.heap.size w w':=by
 obtain⟨k,hk⟩:=frac_ev h0 h1 h2 h3
 have hk:fluxionref03_Frac.f k x y=_:=hk k (Nat.le_refl _)
 unfold DR at hk
 refine(fluxionref03_Frac.calls k x y _ _ _ w hk).mono ?_
 rintro e w' ⟨v1,v2,rfl,R1,R2,hb⟩
 exact⟨_,rfl,⟨v1,v2,rfl,Kd.R_mono R1 (fun _ _=>trivial),Kd.R_mono R2 (fun _ _=>trivial)⟩,hb⟩
theorem frac0_n {x y:Int} (w:World) (h0:-9223372036854775808≤x) (h1:x < 9223372036854775808) (hy:y=0) :
  Calls Try.prog 26 #[.int .i64 x,.int .i64 y] w fun e w'=>∃ A1 c1 A2 c2,e=.returned (.tuple #[.agg #[.bool false,.slice A1 0 c1,.slice A2 0 c2],.int .i64 17])∧Below w.heap.size w w':=by
 have:=frac_q w h0 h1 (y:=y) (by omega) (by omega)
 rw [mkR_eq,if_pos (by omega)] at this
 refine this.mono ?_
 rintro e w' ⟨v1,v2,rfl,R1,R2,hb⟩
 obtain⟨A1,c1,rfl⟩:=Kd.R_slice R1
 obtain⟨A2,c2,rfl⟩:=Kd.R_slice R2
 exact⟨A1,c1,A2,c2,rfl,hb⟩
end Go.Proofs.Ytehghijlchpeaaa.Nat1
end
section
namespace Go.Proofs.Ytehghijlchpeaaa.Nat1
open Go.RowKit Go.Proofs.YtehghijlchpeaaaW.PrintWords Go.Proofs.YtehghijlchpeaaaW.PrintLast Go.Proofs.YtehghijlchpeaaaW.PrintMore Go.Proofs.Ytehghijlchpeaaa.L Go.Proofs.Ytehghijlchpeaaa.Nt Go.Proofs.Ytehghijlchpeaaa.Ev
set_option linter.unusedVariables false
set_option linter.unusedSimpArgs false
set_option linter.unusedSectionVars false
def ratFracs.T6:Bool×List (List Nat×List Nat):=(true,[([],[]),([0],[0]),([1],[1]),([2],[2]),([2],[2]),([3,4,2,2],[2,3,4]),([2],[2]),([5,6,5,2],[2,5,6]),([2,7],[2,7]),([8,7],[8]),([9,9],[9]),([9,10],[9,10]),([11,10,0,1,2,3,4,5,6,7,8,9,10,11],[11])])
def ratFracs.B6:List Nat:=[0,1,3,7,7,31,7,127,255,511,1023,2047,4095]
theorem ratFracs.tab6:rtab .any (opsOf Try.f5 6)=ratFracs.T6:=by kernel_rfl
theorem ratFracs.bits6:waitsOk ratFracs.T6.2 ratFracs.B6=true:=by kernel_rfl
set_option maxHeartbeats 8000000 in
set_option maxRecDepth 100000 in
theorem ratFracs_q (x y:Int) (w:World) (hx:(Lit.int .i64 x).wf=true) (hy:(Lit.int .i64 y).wf=true) :
  Calls Try.prog 5 #[.int .i64 x,.int .i64 y] w fun e w'=>e=.returned (.bool true)∧Below w.heap.size w w':=by
 have hu25:=Try.underlying25
 obtain⟨x0,x1⟩:=wf_i64 hx
 obtain⟨y0,y1⟩:=wf_i64 hy
 have HI:=Aside0.mk (fun (W:World)=>ref_int_n (x:=x) W x0 x1)
 have HJ:=Aside0.mk (fun (W:World)=>int_n (x:=x) W x0 x1)
 have KI:=Aside0.mk (lim_ok (okQ_abs x0 x1) (by decide))
 have HFr:=Aside0.mk (fun (W:World)=>ref_frac_n (x:=x) (y:=y) W x0 x1 y0 y1)
 by_cases hz:y=0
 ·
  have HM:=Aside0.mk (frac0_n (x:=x) w x0 x1 hz)
  have HZ:=Aside0.mk hz
  clear hz hx hy x0 x1 y0 y1
  go_enter Try.func5,Try.ntmps5
  go_wp2_with fail
  refine HM.out.mono ?_
  rintro e W0 ⟨D1,e1,D2,e2,rfl,hB⟩
  clear HM
  have hA:Below W0.heap.size W0 (W0.alloc (.cells #[.bool false,.slice D1 0 e1,.slice D2 0 e2] 25)):=zab (Below.refl _ _) _
  have hN:=zbp W0 (.cells #[.bool false,.slice D1 0 e1,.slice D2 0 e2] 25)
  obtain⟨W1,hW⟩:∃ W,W=W0.alloc (.cells #[.bool false,.slice D1 0 e1,.slice D2 0 e2] 25):=⟨_,rfl⟩
  obtain⟨gx,hgx⟩:∃ g,g=W0.heap.size:=⟨_,rfl⟩
  rw [← hW] at hA hN
  rw [← hgx] at hN
  have HX:=Aside0.mk hN
  have HB1:=Aside0.mk (zag hB hA)
  have HW:=Aside0.mk hW
  have HG:=Aside0.mk hgx
  clear hA hN hW hgx hB
  go_wp2_with fail
  rw [← HW.out,← HG.out]
  clear HW HG
  refine(HI.out W1).mono ?_
  rintro e W2 ⟨f1,rfl,hQ,hB⟩
  replace HX:=Aside0.mk (zal HX.out hB)
  have HB2:=Aside0.mk (zag HB1.out hB)
  have HQ:=Aside0.mk hQ
  clear hQ hB HB1
  go_wp2_with fail
  refine(HJ.out W2).mono ?_
  rintro e W3 ⟨f2,rfl,hR,hB⟩
  replace HX:=Aside0.mk (zal HX.out hB)
  replace HQ:=Aside0.mk (HQ.out.below hB)
  have HB3:=Aside0.mk (zag HB2.out hB)
  have HR:=Aside0.mk hR
  clear hR hB HB2
  go_wp2_with fail
  refine(zba HQ.out HR.out KI.out rfl).mono ?_
  rintro e W4 ⟨rfl,hB⟩
  replace HX:=Aside0.mk (zal HX.out hB)
  have HB4:=Aside0.mk (zag HB3.out hB)
  clear hB HB3 HQ HR
  have hz:=HZ.out
  obtain⟨⟨c0,c1,c2⟩,d0,d1,d2⟩:=zat HX.out
  rw [hz]
  go_wp2_with fail
  refine(known_q _).mono ?_
  rintro e w8 ⟨rfl,hB⟩
  have HB8:=Aside0.mk (zag HB4.out hB)
  clear hB
  go_wp2
  go_ret
  exact⟨rfl,HB8.out⟩
 ·
  have HM:=Aside0.mk (frac_d (x:=x) (y:=y) w x0 x1 y0 y1 hz rfl)
  have HZ:=Aside0.mk hz
  have KX:=Aside0.mk (show okQ (nrm (decide (x < 0) != decide (y < 0)) x.natAbs y.natAbs) from lim_ok (lim_nrm (okQ_abs x0 x1).1 (okQ_abs y0 y1).1 (by decide)) (by decide))
  generalize nrm (decide (x < 0) != decide (y < 0)) x.natAbs y.natAbs=X at *
  clear hz hx hy x0 x1 y0 y1
  go_enter Try.func5,Try.ntmps5
  go_wp2_with fail
  refine HM.out.mono ?_
  rintro e W0 ⟨D1,e1,D2,e2,rfl,hR,hB⟩
  clear HM
  have hA:Below W0.heap.size W0 (W0.alloc (.cells #[.bool X.1,.slice D1 (dg B32 X.2.1).length e1,.slice D2 (dg B32 X.2.2).length e2] 25)):=zab (Below.refl _ _) _
  have hN:=zbp W0 (.cells #[.bool X.1,.slice D1 (dg B32 X.2.1).length e1,.slice D2 (dg B32 X.2.2).length e2] 25)
  obtain⟨W1,hW⟩:∃ W,W=W0.alloc (.cells #[.bool X.1,.slice D1 (dg B32 X.2.1).length e1,.slice D2 (dg B32 X.2.2).length e2] 25):=⟨_,rfl⟩
  obtain⟨gx,hgx⟩:∃ g,g=W0.heap.size:=⟨_,rfl⟩
  rw [← hW] at hA hN
  rw [← hgx] at hN
  have HX:=Aside0.mk hN
  have HB1:=Aside0.mk (zag hB hA)
  have HW:=Aside0.mk hW
  have HG:=Aside0.mk hgx
  have HV:=Aside0.mk (hR.below hA)
  clear hA hN hW hgx hB hR
  go_wp2_with fail
  rw [← HW.out,← HG.out]
  clear HW HG
  refine(HI.out W1).mono ?_
  rintro e W2 ⟨f1,rfl,hQ,hB⟩
  replace HX:=Aside0.mk (zal HX.out hB)
  have HB2:=Aside0.mk (zag HB1.out hB)
  have HQ:=Aside0.mk hQ
  replace HV:=Aside0.mk (HV.out.below hB)
  clear hQ hB HB1
  go_wp2_with fail
  refine(HJ.out W2).mono ?_
  rintro e W3 ⟨f2,rfl,hR,hB⟩
  replace HX:=Aside0.mk (zal HX.out hB)
  replace HQ:=Aside0.mk (HQ.out.below hB)
  have HB3:=Aside0.mk (zag HB2.out hB)
  have HR:=Aside0.mk hR
  replace HV:=Aside0.mk (HV.out.below hB)
  clear hR hB HB2
  go_wp2_with fail
  refine(zba HQ.out HR.out KI.out rfl).mono ?_
  rintro e W4 ⟨rfl,hB⟩
  replace HX:=Aside0.mk (zal HX.out hB)
  have HB4:=Aside0.mk (zag HB3.out hB)
  replace HV:=Aside0.mk (HV.out.below hB)
  clear hB HB3 HQ HR
  have HF:Aside0 (∀ w':World,Below W4.heap.size W4 w'→(w'.cell? ⟨gx,0,none⟩=some (.bool X.1)∧w'.cell? ⟨gx,1,none⟩=some (.slice D1 (dg B32 X.2.1).length e1)∧w'.cell? ⟨gx,2,none⟩=some (.slice D2 (dg B32 X.2.2).length e2))∧Below w.heap.size w w'):=⟨fun W hb=>⟨⟨(zai (zal HX.out hb) 0).trans rfl,(zai (zal HX.out hb) 1).trans rfl,(zai (zal HX.out hb) 2).trans rfl⟩,zag HB4.out hb⟩⟩
  have hz:=HZ.out
  have hz2:(y == 0)=false:=by rw [beq_eq_false_iff_ne]; exact hz
  clear HX
  go_wp2_with fail
  refine start_ (n:=13) (S:=fun w'=>(w'.cell? ⟨gx,0,none⟩=some (.bool X.1)∧w'.cell? ⟨gx,1,none⟩=some (.slice D1 (dg B32 X.2.1).length e1)∧w'.cell? ⟨gx,2,none⟩=some (.slice D2 (dg B32 X.2.2).length e2))) (ds:=[]) #[false,false,false,false,false,false,false,false,false,false,false,false,false] (by kernel_rfl) rfl rfl ((HF.out _ (zac (Below.refl _ _))).1) (fun hHeld=>?_)
  refine with_tabW ratFracs.tab6 ratFracs.bits6 (fun HT_ HW_=>?_)
  have hb0:=Aside0.mk (show Below W4.heap.size W4 W4.drew from zac (Below.refl _ _))
  replace HV:=Aside0.mk (HV.out.below hb0.out)
  generalize W4.drew=V0 at hb0 hHeld HV ⊢
  refine zaA (i:=0) (N:=some 32) (v:=?_) (a':=?_) #[true,false,false,false,false,false,false,false,false,false,false,false,false] rfl rfl (zay HT_.out (by kernel_rfl)) (fun _ _ _ h=>h) (Or.inl ⟨by rfl,?_⟩) ?_ ?_
  rotate_left
  ·
   intro w'
   go_simp
   with_reducible rfl
  rotate_left
  ·
   simp only [Act.put,List.setIfInBounds_toArray,List.set_cons_zero,List.set_cons_succ,zaq,zar]
   rfl
  refine zaA (i:=1) (N:=some 33) (v:=?_) (a':=?_) #[true,true,false,false,false,false,false,false,false,false,false,false,false] rfl rfl (zay HT_.out (by kernel_rfl)) (fun _ _ _ h=>h) (Or.inl ⟨by rfl,?_⟩) ?_ ?_
  rotate_left
  ·
   intro w'
   go_simp
   with_reducible rfl
  rotate_left
  ·
   simp only [Act.put,List.setIfInBounds_toArray,List.set_cons_zero,List.set_cons_succ,zaq,zar]
   rfl
  refine zaA (i:=2) (N:=some 34) (v:=?_) (a':=?_) #[true,true,true,false,false,false,false,false,false,false,false,false,false] rfl rfl (zay HT_.out (by kernel_rfl)) (fun _ _ _ h=>h) (Or.inl ⟨by rfl,?_⟩) ?_ ?_
  rotate_left
  ·
   intro w'
   go_simp
   with_reducible rfl
  rotate_left
  ·
   simp only [Act.put,List.setIfInBounds_toArray,List.set_cons_zero,List.set_cons_succ,zaq,zar]
   rfl
  refine zaA (i:=3) (N:=some 35) (v:=?_) (a':=?_) #[true,true,true,true,false,false,false,false,false,false,false,false,false] rfl rfl (zay HT_.out (by kernel_rfl)) (fun _ _ _ h=>h) (Or.inl ⟨by rfl,?_⟩) ?_ ?_
  rotate_left
  ·
   intro w'
   go_simp
   with_reducible rfl
  rotate_left
  ·
   simp only [Act.put,List.setIfInBounds_toArray,List.set_cons_zero,List.set_cons_succ,zaq,zar]
   rfl
  refine zaA (i:=4) (N:=some 36) (v:=?_) (a':=?_) #[true,true,true,true,true,false,false,false,false,false,false,false,false] rfl rfl (zay HT_.out (by kernel_rfl)) (fun _ _ _ h=>h) (Or.inl ⟨by rfl,?_⟩) ?_ ?_
  rotate_left
  ·
   intro w'
   go_simp
   with_reducible rfl
  rotate_left
  ·
   simp only [Act.put,List.setIfInBounds_toArray,List.set_cons_zero,List.set_cons_succ,zaq,zar]
   rfl
  refine take_ (i:=6) (N:=some 38) (v:=?_) (a':=?_) #[true,true,true,true,true,false,true,false,false,false,false,false,false] rfl rfl (zaQ HT_.out HW_.out (by kernel_rfl)) (fun _ _ _ h=>h) (Or.inl ⟨by rfl,?_⟩) hHeld ?_ ?_
  rotate_left
  ·
   intro w' s0
   go_simp
   with_reducible rfl
  rotate_left
  ·
   simp only [Act.put,List.setIfInBounds_toArray,List.set_cons_zero,List.set_cons_succ,zaq,zar]
   rfl
  refine one_ (i:=5) (N:=some 37) #[true,true,true,true,true,true,true,false,false,false,false,false,false] rfl rfl (zaO HT_.out (by kernel_rfl)) (by decide) (fun K hK=>?_)
  refine za7 Try.func29 (by kernel_rfl) rfl #[.int .i64 x,.int .i64 y] (by rfl) rfl rfl (by (try simp only [List.map_toArray,List.map_cons,List.map_nil]); first | done | rfl) ?_
  refine(HFr.out V0).mono ?_
  rintro e V1 ⟨f5,rfl,hQ,hB⟩
  refine⟨_,rfl,?_⟩
  replace HV:=Aside0.mk (HV.out.below hB)
  have HQ:=Aside0.mk hQ
  have hb1:=Aside0.mk (zag hb0.out hB)
  clear hB hb0 hQ
  refine hK.out _ _ ((HF.out _ hb1.out).1) (fun hHeld=>?_)
  clear hK K
  refine zaS (a':=?_) ?_ ?_
  rotate_left
  ·
   show Act.put _ (some 37) _=_
   simp only [Act.put,List.setIfInBounds_toArray,List.set_cons_zero,List.set_cons_succ,zaq,zar]
   rfl
  refine one_ (i:=7) (N:=some 39) #[true,true,true,true,true,true,true,true,false,false,false,false,false] rfl rfl (zaO HT_.out (by kernel_rfl)) (by decide) (fun K hK=>?_)
  refine za7 Try.func20 (by kernel_rfl) rfl #[f5,.agg #[.bool X.1,.slice D1 (dg B32 X.2.1).length e1,.slice D2 (dg B32 X.2.2).length e2]] (by rfl) rfl rfl (by (try simp only [List.map_toArray,List.map_cons,List.map_nil]); first | done | rfl) ?_
  refine(zba HQ.out HV.out KX.out rfl).mono ?_
  rintro e V2 ⟨rfl,hB⟩
  refine⟨_,rfl,?_⟩
  clear HQ
  replace HV:=Aside0.mk (HV.out.below hB)
  have hb2:=Aside0.mk (zag hb1.out hB)
  clear hB hb1
  refine hK.out _ _ ((HF.out _ hb2.out).1) (fun hHeld=>?_)
  clear hK K
  refine zaS (a':=?_) ?_ ?_
  rotate_left
  ·
   show Act.put _ (some 39) _=_
   simp only [Act.put,List.setIfInBounds_toArray,List.set_cons_zero,List.set_cons_succ,zaq,zar]
   rfl
  refine zaA (i:=8) (N:=some 40) (v:=?_) (a':=?_) #[true,true,true,true,true,true,true,true,true,false,false,false,false] rfl rfl (zay HT_.out (by kernel_rfl)) (fun _ _ _ h=>h) (Or.inl ⟨by rfl,?_⟩) ?_ ?_
  rotate_left
  ·
   intro w'
   go_simp
   with_reducible rfl
  rotate_left
  ·
   simp only [Act.put,List.setIfInBounds_toArray,List.set_cons_zero,List.set_cons_succ,zaq,zar]
   rfl
  refine zaA (i:=9) (N:=some 41) (v:=?_) (a':=?_) #[true,true,true,true,true,true,true,true,true,true,false,false,false] rfl rfl (zay HT_.out (by kernel_rfl)) (fun _ _ _ h=>h) (Or.inl ⟨by rfl,?_⟩) ?_ ?_
  rotate_left
  ·
   intro w'
   go_simp
   with_reducible rfl
  rotate_left
  ·
   simp only [Act.put,List.setIfInBounds_toArray,List.set_cons_zero,List.set_cons_succ,zaq,zar]
   rfl
  refine one_ (i:=10) (N:=some 42) #[true,true,true,true,true,true,true,true,true,true,true,false,false] rfl rfl (zaO HT_.out (by kernel_rfl)) (by decide) (fun K hK=>?_)
  refine za7 Try.func15 (by kernel_rfl) rfl #[] (by rfl) rfl rfl (by (try simp only [List.map_toArray,List.map_cons,List.map_nil]); first | done | rfl) ?_
  refine(known_q V2).mono ?_
  rintro e V3 ⟨rfl,hB⟩
  refine⟨_,rfl,?_⟩
  replace HV:=Aside0.mk (HV.out.below hB)
  have hb3:=Aside0.mk (zag hb2.out hB)
  clear hB hb2
  refine hK.out _ _ ((HF.out _ hb3.out).1) (fun hHeld=>?_)
  clear hK K
  refine zaS (a':=?_) ?_ ?_
  rotate_left
  ·
   show Act.put _ (some 42) _=_
   simp only [Act.put,List.setIfInBounds_toArray,List.set_cons_zero,List.set_cons_succ,zaq,zar]
   rfl
  refine zaA (i:=11) (N:=some 43) (v:=?_) (a':=?_) #[true,true,true,true,true,true,true,true,true,true,true,true,false] rfl rfl (zay HT_.out (by kernel_rfl)) (fun _ _ _ h=>h) (Or.inl ⟨by rfl,?_⟩) ?_ ?_
  rotate_left
  ·
   intro w'
   go_simp
   with_reducible rfl
  rotate_left
  ·
   simp only [Act.put,List.setIfInBounds_toArray,List.set_cons_zero,List.set_cons_succ,zaq,zar]
   rfl
  refine zaA (i:=12) (N:=some 4) (v:=?_) (a':=?_) #[true,true,true,true,true,true,true,true,true,true,true,true,true] rfl rfl (zay HT_.out (by kernel_rfl)) (fun _ _ _ h=>h) (Or.inl ⟨by rfl,?_⟩) ?_ ?_
  rotate_left
  ·
   intro w'
   go_simp
   with_reducible rfl
  rotate_left
  ·
   simp only [Act.put,List.setIfInBounds_toArray,List.set_cons_zero,List.set_cons_succ,zaq,zar]
   rfl
  refine done_ (done_of HT_.out (by kernel_rfl)) ?_
  clear hHeld
  go_wp2
  go_ret
  exact⟨rfl,(HF.out _ hb3.out).2⟩
end Go.Proofs.Ytehghijlchpeaaa.Nat1
end
section
namespace Go.Proofs.Ytehghijlchpeaaa.ratFracs
open Go.ChangeShapes Go.WideShapes Go.ChangeAt Go.RowKit Go.Joins Go.Proofs.Ytehghijlchpeaaa.Nat1
open Go.ChangeMaps (open_string shut_string)
set_option linter.unusedVariables false
theorem own:ownKnob Try.prog.godebug=none:=by kernel_rfl
set_option maxRecDepth 100000 in
theorem lifted (os:Os) (started:os.Started) (H:Type) (enc:TypeId×Value→H) :
  ReturnsInHanded {} Try.checked os 5 .any (Rows.ratFracsSpec.pre6 enc Try.prog Try.f5 Rows.ratFracsRow.domain false) (Rows.ratFracsSpec.post enc Try.prog Try.f5 false true false false):=by
 refine returnsInHanded_of_change_sized (C:=Try.checked) own started (by kernel_rfl) Try.func5
  (ChangeSpec.witness6 (enc:=enc) (C:=Try.checked) false ⟨#[],#[.int .i64 0,.int .i64 0],[]⟩ 8 (by kernel_rfl) (by kernel_rfl) (by kernel_rfl) (by kernel_rfl)) ?_
 intro W base args ds gs before hval0 hW hcnd hsz0 _
 have hval:∀ (j:Nat) t v,Try.f5.params[j]? = some t→args[j]? = some v→Value.okWide Try.prog W .any base t v:=hval0
 have hW':=hW
 obtain⟨p,q,hA0,hV,rfl,hfz,hnd⟩:=hW
 have hA:DataW.TrodAll enc Try.prog W 0 (fun _=>true) true Try.f5.params.toList args.toList ds p:=hA0
 rw [Try.params5] at hA hval
 obtain⟨v0,vs0,d0,ds0,p0,q0,hargs,rfl,rfl,h0,r0⟩:=trodAll_cons hA
 obtain⟨v1,vs1,d1,ds1,p1,q1,rfl,rfl,rfl,h1,r1⟩:=trodAll_cons r0
 obtain⟨rfl,rfl,rfl⟩:=trodAll_nil r1
 obtain rfl:args=#[v0,v1]:=by cases args; simp_all
 obtain⟨rfl,rfl⟩:=trodVars_none hV
 obtain⟨a0,rfl,rfl,rfl,w0⟩:=open_int Try.underlying2 (hval 0 2 v0 rfl rfl) h0
 obtain⟨a1,rfl,rfl,rfl,w1⟩:=open_int Try.underlying2 (hval 1 2 v1 rfl rfl) h1
 clear hA0 hval0 hsz0
 refine(ratFracs_q a0 a1 W w0 w1).mono fun e W' ⟨he,bel⟩=>?_
 subst he
 exact⟨_,rfl,_,_,_,[],_,[],hW',trodAll_mk1 (shut_bool Try.underlying4 _),(trodAll_cons_mk (shut_int Try.underlying2 w0) (trodAll_cons_mk (shut_int Try.underlying2 w1) trodAll_mk0)),rfl,bel.frame _,fun h=>by cases h⟩
theorem over:Rows.ratFracsRow.holds Try.pinned (OpenSpec.ofChange Rows.ratFracsSpec) :=
 OpenClaim.holds_of_wide 5 Try.f5 rfl rfl rfl rfl rfl rfl rfl ⟨rfl,rfl,rfl,rfl,rfl⟩ rfl rfl rfl rfl rfl (by kernel_rfl) Try.func5 (by kernel_rfl)
  (of_decide_eq_true (by kernel_rfl)) (by unfold Func.isWrapper; first | (rw [if_pos (by decide +kernel)]; kernel_rfl) | (rw [if_neg (by decide +kernel)]; exact⟨rfl,rfl⟩))
  (fun os started H enc _=>lifted os started H enc)
end Go.Proofs.Ytehghijlchpeaaa.ratFracs
namespace Go.Proofs.Ytehghijlchpeaaa
theorem ratFracs_holds:Rows.RatFracsSaid:=ratFracs.over
end Go.Proofs.Ytehghijlchpeaaa
end
