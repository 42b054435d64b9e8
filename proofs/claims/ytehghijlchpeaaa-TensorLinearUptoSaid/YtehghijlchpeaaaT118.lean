/- Part 19 of the proof of tensorLinearUpto_holds: what it uses, in build order. -/
import Derived.Test.YtehghijlchpeaaaT117
set_option maxHeartbeats 8000000
set_option maxRecDepth 100000
set_option linter.unusedVariables false
set_option linter.unusedSimpArgs false
set_option linter.unusedSectionVars false
section
namespace Go.Proofs.Ytehghijlchpeaaa.Nat1
open Go.RowKit YtehghijlchpeaaaW.PrintWords YtehghijlchpeaaaW.PrintLast YtehghijlchpeaaaW.PrintMore L Nt Ev
def tensorLinear.T6:Bool×List (List Nat×List Nat):=(true,[([],[]),([],[]),([],[]),([0,1,2],[0,1,2]),([],[]),([3,4,3],[3,4]),([5],[5]),([6],[6]),([6],[6]),([],[]),([9,7,5,0,1,2,3,4,5,6,7,9],[7,9]),([8,10,0,1,2,3,4,5,6,7,8,9,10],[8])])
def tensorLinear.B6:List Nat:=[0,0,0,7,0,31,63,127,127,0,767,2047]
theorem tensorLinear.tab6:rtab .any (opsOf Try.f13 6)=tensorLinear.T6:=by kernel_rfl
theorem tensorLinear.bits6:waitsOk tensorLinear.T6.2 tensorLinear.B6=true:=by kernel_rfl
def tensorLinear.T13:Bool×List (List Nat×List Nat):=(true,[([],[]),([0],[0]),([1],[1]),([2],[2]),([3,2],[2,3]),([2,4],[2,4]),([5,2],[5]),([6],[6]),([7,6],[6,7]),([6,8],[6,8]),([9,6],[9]),([10],[10]),([11,10],[10,11]),([10,12],[10,12]),([13,10],[13]),([14],[14]),([15,14],[14,15]),([14,16],[14,16]),([17,14],[17]),([18],[18]),([18],[18]),([19,20,18,18],[18,19,20]),([18,21],[18,21]),([22,21],[22]),([23],[23]),([23],[23]),([23],[23]),([23],[23]),([26,27,23,23],[23,26,27]),([25,28,28,23],[23,25,28]),([24,29,29,23],[23,24,29]),([23,30],[23,30]),([31,30],[31]),([32],[32]),([33,32,32],[32,33]),([34,32],[32,34]),([32],[32]),([35,36,32],[32,35,36]),([32,37],[32,37]),([38,34],[38]),([39],[39]),([40,39,39],[39,40]),([41,39],[39,41]),([39,42],[39,42]),([43,41],[43]),([44,44],[44]),([44,45],[44,45]),([46,45,0,1,2,3,4,5,6,7,8,9,10,11,12,13,14,15,16,17,18,19,20,21,22,23,24,25,26,27,28,29,30,31,32,33,34,35,36,37,38,39,40,41,42,43,44,45,46],[46])])
def tensorLinear.B13:List Nat:=[0,1,3,7,15,31,63,127,255,511,1023,2047,4095,8191,16383,32767,65535,131071,262143,524287,524287,2097151,4194303,8388607,16777215,16777215,16777215,16777215,218103807,520093695,1073741823,2147483647,4294967295,8589934591,17179869183,34359738367,8589934591,137438953471,274877906943,549755813887,1099511627775,2199023255551,4398046511103,8796093022207,17592186044415,35184372088831,70368744177663,140737488355327]
theorem tensorLinear.tab13:rtab .any (opsOf Try.f13 13)=tensorLinear.T13:=by kernel_rfl
theorem tensorLinear.bits13:waitsOk tensorLinear.T13.2 tensorLinear.B13=true:=by kernel_rfl
theorem tensorLinear_q0 {L:Nat} (hL0:0 < L) (hL:L≤1048576) (A0:Option Addr) (c0:Nat) (s0:List Int) (B0:Option Addr) (e0:Nat) (t0:List M.S25) (A1:Option Addr) (c1:Nat) (s1:List Int) (B1:Option Addr) (e1:Nat) (t1:List M.S25) (A2:Option Addr) (c2:Nat) (s2:List Int) (B2:Option Addr) (e2:Nat) (t2:List M.S25) (n:Bool) (P:Option Addr) (pc:Nat) (p:List Int) (Q:Option Addr) (qc:Nat) (q:List Int) (w:World) (hr0:Kd.C (Kd.int .i64) w A0 s0.length s0) (hc0:s0.length≤c0) (hl0:s0.length≤L) (hs0:Kd.C M.k25 w B0 t0.length t0) (he0:t0.length≤e0) (hm0:t0.length≤L) (ho0:∀ x∈t0,eOk x∧x.f1.length≤L∧x.f2.length≤L) (hr1:Kd.C (Kd.int .i64) w A1 s1.length s1) (hc1:s1.length≤c1) (hl1:s1.length≤L) (hs1:Kd.C M.k25 w B1 t1.length t1) (he1:t1.length≤e1) (hm1:t1.length≤L) (ho1:∀ x∈t1,eOk x∧x.f1.length≤L∧x.f2.length≤L) (hr2:Kd.C (Kd.int .i64) w A2 s2.length s2) (hc2:s2.length≤c2) (hl2:s2.length≤L) (hs2:Kd.C M.k25 w B2 t2.length t2) (he2:t2.length≤e2) (hm2:t2.length≤L) (ho2:∀ x∈t2,eOk x∧x.f1.length≤L∧x.f2.length≤L)
  (hr3:Kd.C (Kd.int .u32) w P p.length p) (hc3:p.length≤pc) (ho3:ok B32 p) (hlr3:p.length≤L) (hs3:Kd.C (Kd.int .u32) w Q q.length q) (he3:q.length≤qc) (hp3:ok B32 q) (hls3:q.length≤L) :
  Calls Try.prog 13 #[.agg #[.slice A0 s0.length c0,.slice B0 t0.length e0],.agg #[.slice A1 s1.length c1,.slice B1 t1.length e1],.agg #[.slice A2 s2.length c2,.slice B2 t2.length e2],.agg #[.bool n,.slice P p.length pc,.slice Q q.length qc]] w fun e w'=>e=.returned (.bool true)∧Below w.heap.size w w':=by
 have hu67:=Try.underlying67
 have hu25:=Try.underlying25
 have HM0:=Aside0.mk (fun (W:World) (hb:Below w.heap.size w W)=>reftmay_n (Kd.C_below hr0 hb) hc0 (Kd.C_below hs0 hb) he0 (by omega) (fun x hx=>(ho0 x hx).1))
 have HM1:=Aside0.mk (fun (W:World) (hb:Below w.heap.size w W)=>reftmay_n (Kd.C_below hr1 hb) hc1 (Kd.C_below hs1 hb) he1 (by omega) (fun x hx=>(ho1 x hx).1))
 have HM2:=Aside0.mk (fun (W:World) (hb:Below w.heap.size w W)=>reftmay_n (Kd.C_below hr2 hb) hc2 (Kd.C_below hs2 hb) he2 (by omega) (fun x hx=>(ho2 x hx).1))
 have HS1:=Aside0.mk (fun (W:World) (hb:Below w.heap.size w W)=>samesh_n (Kd.C_below hr0 hb) hc0 (Kd.C_below hr1 hb) hc1 (by omega))
 have HS2:=Aside0.mk (fun (W:World) (hb:Below w.heap.size w W)=>samesh_n (Kd.C_below hr0 hb) hc0 (Kd.C_below hr2 hb) hc2 (by omega))
 have HC:=Aside0.mk (And.intro (And.intro hr0 (And.intro hs0 (And.intro hc0 (And.intro he0 ho0)))) (And.intro (And.intro hr1 (And.intro hs1 (And.intro hc1 (And.intro he1 ho1)))) (And.intro hr2 (And.intro hs2 (And.intro hc2 (And.intro he2 ho2))))))
 have HN:=Aside0.mk (show ∀ W:World,Below w.heap.size w W→NR W (.agg #[.bool n,.slice P p.length pc,.slice Q q.length qc]) (nrm n (val B32 p) (val B32 q)) from fun W hb=>⟨_,_,_,_,_,_,_,rfl,⟨Kd.C_below hr3 hb,hc3,⟨ho3,by omega⟩⟩,⟨Kd.C_below hs3 hb,he3,⟨hp3,by omega⟩⟩,rfl⟩)
 have HLK:=Aside0.mk (lim_rawL (n:=n) ho3 hp3 hlr3 hls3 hL0)
 have HRK:=Aside0.mk (nrm_red n (val B32 p) (val B32 q))
 generalize nrm n (val B32 p) (val B32 q)=X at HN HLK HRK
 obtain⟨v0,hv0⟩:∃ v,v=tmayV s0 t0:=⟨_,rfl⟩
 rw [← hv0] at HM0
 obtain⟨v1,hv1⟩:∃ v,v=tmayV s1 t1:=⟨_,rfl⟩
 rw [← hv1] at HM1
 obtain⟨v2,hv2⟩:∃ v,v=tmayV s2 t2:=⟨_,rfl⟩
 rw [← hv2] at HM2
 obtain⟨z1,hz1⟩:∃ z,z=decide (s0=s1):=⟨_,rfl⟩
 rw [← hz1] at HS1
 obtain⟨z2,hz2⟩:∃ z,z=decide (s0=s2):=⟨_,rfl⟩
 rw [← hz2] at HS2
 have HV:=Aside0.mk (And.intro hv0 (And.intro hv1 (And.intro hv2 (And.intro hz1 hz2))))
 clear hr0 hr1 hr2 hr3 hs0 hs1 hs2 hs3 ho0 ho1 ho2 ho3 hp3 hlr3 hls3 hv0 hv1 hv2 hz1 hz2 hl0 hl1 hl2 hm0 hm1 hm2 hc0 hc1 hc2 he0 he1 he2 hc3 he3
 go_enter Try.func13,Try.ntmps13
 go_wp2_with fail
 have hx0:=zbw (zbw (zbw (zbL w (.cells #[.slice A0 s0.length c0,.slice B0 t0.length e0] 67)) (.cells #[.slice A1 s1.length c1,.slice B1 t1.length e1] 67)) (.cells #[.slice A2 s2.length c2,.slice B2 t2.length e2] 67)) (.cells #[.bool n,.slice P p.length pc,.slice Q q.length qc] 25)
 have hx1:=zbw (zbw (zbL (w.alloc (.cells #[.slice A0 s0.length c0,.slice B0 t0.length e0] 67)) (.cells #[.slice A1 s1.length c1,.slice B1 t1.length e1] 67)) (.cells #[.slice A2 s2.length c2,.slice B2 t2.length e2] 67)) (.cells #[.bool n,.slice P p.length pc,.slice Q q.length qc] 25)
 rw [show (w.alloc (.cells #[.slice A0 s0.length c0,.slice B0 t0.length e0] 67)).heap.size=w.heap.size+1 by simp] at hx1
 have hx2:=zbw (zbL ((w.alloc (.cells #[.slice A0 s0.length c0,.slice B0 t0.length e0] 67)).alloc (.cells #[.slice A1 s1.length c1,.slice B1 t1.length e1] 67)) (.cells #[.slice A2 s2.length c2,.slice B2 t2.length e2] 67)) (.cells #[.bool n,.slice P p.length pc,.slice Q q.length qc] 25)
 rw [show ((w.alloc (.cells #[.slice A0 s0.length c0,.slice B0 t0.length e0] 67)).alloc (.cells #[.slice A1 s1.length c1,.slice B1 t1.length e1] 67)).heap.size=w.heap.size+1+1 by simp] at hx2
 have hx3:=zbL (((w.alloc (.cells #[.slice A0 s0.length c0,.slice B0 t0.length e0] 67)).alloc (.cells #[.slice A1 s1.length c1,.slice B1 t1.length e1] 67)).alloc (.cells #[.slice A2 s2.length c2,.slice B2 t2.length e2] 67)) (.cells #[.bool n,.slice P p.length pc,.slice Q q.length qc] 25)
 rw [show (((w.alloc (.cells #[.slice A0 s0.length c0,.slice B0 t0.length e0] 67)).alloc (.cells #[.slice A1 s1.length c1,.slice B1 t1.length e1] 67)).alloc (.cells #[.slice A2 s2.length c2,.slice B2 t2.length e2] 67)).heap.size=w.heap.size+1+1+1 by simp] at hx3
 have hbw:Below w.heap.size w ((((w.alloc (.cells #[.slice A0 s0.length c0,.slice B0 t0.length e0] 67)).alloc (.cells #[.slice A1 s1.length c1,.slice B1 t1.length e1] 67)).alloc (.cells #[.slice A2 s2.length c2,.slice B2 t2.length e2] 67)).alloc (.cells #[.bool n,.slice P p.length pc,.slice Q q.length qc] 25)):=zbq (zbq (zbq (zbq (Below.refl _ _) _) _) _) _
 generalize ((((w.alloc (.cells #[.slice A0 s0.length c0,.slice B0 t0.length e0] 67)).alloc (.cells #[.slice A1 s1.length c1,.slice B1 t1.length e1] 67)).alloc (.cells #[.slice A2 s2.length c2,.slice B2 t2.length e2] 67)).alloc (.cells #[.bool n,.slice P p.length pc,.slice Q q.length qc] 25))=W0 at hx0 hx1 hx2 hx3 hbw ⊢
 have HF:Aside0 (∀ w':World,Below W0.heap.size W0 w'→(w'.cell? ⟨w.heap.size,0,none⟩=some (.slice A0 s0.length c0)∧w'.cell? ⟨w.heap.size,1,none⟩=some (.slice B0 t0.length e0)∧w'.cell? ⟨w.heap.size+1,0,none⟩=some (.slice A1 s1.length c1)∧w'.cell? ⟨w.heap.size+1,1,none⟩=some (.slice B1 t1.length e1)∧w'.cell? ⟨w.heap.size+1+1,0,none⟩=some (.slice A2 s2.length c2)∧w'.cell? ⟨w.heap.size+1+1,1,none⟩=some (.slice B2 t2.length e2)∧w'.cell? ⟨w.heap.size+1+1+1,0,none⟩=some (.bool n)∧w'.cell? ⟨w.heap.size+1+1+1,1,none⟩=some (.slice P p.length pc)∧w'.cell? ⟨w.heap.size+1+1+1,2,none⟩=some (.slice Q q.length qc))∧Below w.heap.size w w'):=⟨fun w' h=>⟨⟨(zbu (zbt hx0 h) 0).trans rfl,(zbu (zbt hx0 h) 1).trans rfl,(zbu (zbt hx1 h) 0).trans rfl,(zbu (zbt hx1 h) 1).trans rfl,(zbu (zbt hx2 h) 0).trans rfl,(zbu (zbt hx2 h) 1).trans rfl,(zbu (zbt hx3 h) 0).trans rfl,(zbu (zbt hx3 h) 1).trans rfl,(zbu (zbt hx3 h) 2).trans rfl⟩,zbp hbw h⟩⟩
 have hb0:=Aside0.mk (Below.refl W0.heap.size W0)
 clear hx0 hx1 hx2 hx3 hbw
 refine(HM0.out _ (HF.out _ hb0.out).2).mono ?_
 rintro e W1 ⟨rfl,hB⟩
 have hb1:=Aside0.mk (zbp hb0.out hB)
 clear hB
 obtain⟨y0,y1,y2,y3,y4,y5,y6,y7,y8⟩:=(HF.out _ hb1.out).1
 by_cases hk0:v0=0
 case neg =>
  have hf1:(v0 == 0)=false:=by rw [beq_eq_false_iff_ne]; exact hk0
  have hf2:(v0 != 0)=true:=by rw [bne_iff_ne]; exact hk0
  go_wp2_with fail
  refine(tknown_n _).mono ?_
  rintro e WK ⟨rfl,hB⟩
  have hbK:=Aside0.mk (zbp hb1.out hB)
  clear hB
  go_wp2
  go_ret
  exact⟨rfl,(HF.out _ hbK.out).2⟩
 have HK0:=Aside0.mk (HV.out.1.symm.trans hk0)
 subst hk0
 go_wp2_with fail
 clear y0 y1 y2 y3 y4 y5 y6 y7 y8
 refine(HM1.out _ (HF.out _ hb1.out).2).mono ?_
 rintro e W2 ⟨rfl,hB⟩
 have hb2:=Aside0.mk (zbp hb1.out hB)
 clear hB
 obtain⟨y0,y1,y2,y3,y4,y5,y6,y7,y8⟩:=(HF.out _ hb2.out).1
 by_cases hk1:v1=0
 case neg =>
  have hf1:(v1 == 0)=false:=by rw [beq_eq_false_iff_ne]; exact hk1
  have hf2:(v1 != 0)=true:=by rw [bne_iff_ne]; exact hk1
  go_wp2_with fail
  refine(tknown_n _).mono ?_
  rintro e WK ⟨rfl,hB⟩
  have hbK:=Aside0.mk (zbp hb2.out hB)
  clear hB
  go_wp2
  go_ret
  exact⟨rfl,(HF.out _ hbK.out).2⟩
 have HK1:=Aside0.mk (HV.out.2.1.symm.trans hk1)
 subst hk1
 go_wp2_with fail
 clear y0 y1 y2 y3 y4 y5 y6 y7 y8
 refine(HM2.out _ (HF.out _ hb2.out).2).mono ?_
 rintro e W3 ⟨rfl,hB⟩
 have hb3:=Aside0.mk (zbp hb2.out hB)
 clear hB
 obtain⟨y0,y1,y2,y3,y4,y5,y6,y7,y8⟩:=(HF.out _ hb3.out).1
 by_cases hk2:v2=0
 case neg =>
  have hf1:(v2 == 0)=false:=by rw [beq_eq_false_iff_ne]; exact hk2
  have hf2:(v2 != 0)=true:=by rw [bne_iff_ne]; exact hk2
  go_wp2_with fail
  refine(tknown_n _).mono ?_
  rintro e WK ⟨rfl,hB⟩
  have hbK:=Aside0.mk (zbp hb3.out hB)
  clear hB
  go_wp2
  go_ret
  exact⟨rfl,(HF.out _ hbK.out).2⟩
 have HK2:=Aside0.mk (HV.out.2.2.1.symm.trans hk2)
 subst hk2
 go_wp2_with fail
 clear y0 y1 y2 y3 y4 y5 y6 y7 y8
 refine(HS1.out _ (HF.out _ hb3.out).2).mono ?_
 rintro e W4 ⟨rfl,hB⟩
 have hb4:=Aside0.mk (zbp hb3.out hB)
 clear hB
 obtain⟨y0,y1,y2,y3,y4,y5,y6,y7,y8⟩:=(HF.out _ hb4.out).1
 cases z1 with
 | false =>
  go_wp2_with fail
  refine(tknown_n _).mono ?_
  rintro e WK ⟨rfl,hB⟩
  have hbK:=Aside0.mk (zbp hb4.out hB)
  clear hB
  go_wp2
  go_ret
  exact⟨rfl,(HF.out _ hbK.out).2⟩
 | true =>
  have HZ1:=Aside0.mk (of_decide_eq_true HV.out.2.2.2.1.symm)
  go_wp2_with fail
  clear y0 y1 y2 y3 y4 y5 y6 y7 y8
  refine(HS2.out _ (HF.out _ hb4.out).2).mono ?_
  rintro e W5 ⟨rfl,hB⟩
  have hb5:=Aside0.mk (zbp hb4.out hB)
  clear hB
  obtain⟨y0,y1,y2,y3,y4,y5,y6,y7,y8⟩:=(HF.out _ hb5.out).1
  cases z2 with
  | false =>
   go_wp2_with fail
   refine(tknown_n _).mono ?_
   rintro e WK ⟨rfl,hB⟩
   have hbK:=Aside0.mk (zbp hb5.out hB)
   clear hB
   go_wp2
   go_ret
   exact⟨rfl,(HF.out _ hbK.out).2⟩
  | true =>
   have HZ2:=Aside0.mk (of_decide_eq_true HV.out.2.2.2.2.symm)
   go_wp2_with fail
   clear y0 y1 y2 y3 y4 y5 y6 y7 y8
   obtain rfl:=HZ1.out
   obtain rfl:=HZ2.out
   have HN1:=Aside0.mk (tmay_same HK0.out HK1.out)
   have HN2:=Aside0.mk (tmay_same HK0.out HK2.out)
   have HNL:=Aside0.mk (tmay_all HK0.out).2.2.1
   have HD1:=Aside0.mk (fun (W:World) (hb:Below w.heap.size w W)=>dot_n A0 c0 s0 B0 e0 t0 A2 c2 B2 e2 t2 33554432 W (Kd.C_below HC.out.1.1 hb) HC.out.1.2.2.1 (Kd.C_below HC.out.1.2.1 hb) HC.out.1.2.2.2.1 (Kd.C_below HC.out.2.2.1 hb) HC.out.2.2.2.2.1 (Kd.C_below HC.out.2.2.2.1 hb) HC.out.2.2.2.2.2.1 (by exact HNL.out) (by have:=HN2.out; omega) (by decide) (by decide) (fun x hx=>⟨(HC.out.1.2.2.2.2 x hx).1,Nat.le_trans (HC.out.1.2.2.2.2 x hx).2.1 (by omega),Nat.le_trans (HC.out.1.2.2.2.2 x hx).2.2 (by omega)⟩) (fun x hx=>⟨(HC.out.2.2.2.2.2.2 x hx).1,Nat.le_trans (HC.out.2.2.2.2.2.2 x hx).2.1 (by omega),Nat.le_trans (HC.out.2.2.2.2.2.2 x hx).2.2 (by omega)⟩) HK0.out HK2.out (by have:=(mayS_zero (tmay_all HK0.out).1).1; omega))
   have HD2:=Aside0.mk (fun (W:World) (hb:Below w.heap.size w W)=>dot_n A2 c2 s0 B2 e2 t2 A0 c0 B0 e0 t0 33554432 W (Kd.C_below HC.out.2.2.1 hb) HC.out.2.2.2.2.1 (Kd.C_below HC.out.2.2.2.1 hb) HC.out.2.2.2.2.2.1 (Kd.C_below HC.out.1.1 hb) HC.out.1.2.2.1 (Kd.C_below HC.out.1.2.1 hb) HC.out.1.2.2.2.1 (by rw [HN2.out]; exact HNL.out) (by have:=HN2.out; omega) (by decide) (by decide) (fun x hx=>⟨(HC.out.2.2.2.2.2.2 x hx).1,Nat.le_trans (HC.out.2.2.2.2.2.2 x hx).2.1 (by omega),Nat.le_trans (HC.out.2.2.2.2.2.2 x hx).2.2 (by omega)⟩) (fun x hx=>⟨(HC.out.1.2.2.2.2 x hx).1,Nat.le_trans (HC.out.1.2.2.2.2 x hx).2.1 (by omega),Nat.le_trans (HC.out.1.2.2.2.2 x hx).2.2 (by omega)⟩) HK2.out HK0.out (by have:=(mayS_zero (tmay_all HK0.out).1).1; omega))
   have HD3:=Aside0.mk (fun (W:World) (hb:Below w.heap.size w W)=>dot_n A1 c1 s0 B1 e1 t1 A2 c2 B2 e2 t2 33554432 W (Kd.C_below HC.out.2.1.1 hb) HC.out.2.1.2.2.1 (Kd.C_below HC.out.2.1.2.1 hb) HC.out.2.1.2.2.2.1 (Kd.C_below HC.out.2.2.1 hb) HC.out.2.2.2.2.1 (Kd.C_below HC.out.2.2.2.1 hb) HC.out.2.2.2.2.2.1 (by rw [HN1.out]; exact HNL.out) (by have:=HN1.out; have:=HN2.out; omega) (by decide) (by decide) (fun x hx=>⟨(HC.out.2.1.2.2.2.2 x hx).1,Nat.le_trans (HC.out.2.1.2.2.2.2 x hx).2.1 (by omega),Nat.le_trans (HC.out.2.1.2.2.2.2 x hx).2.2 (by omega)⟩) (fun x hx=>⟨(HC.out.2.2.2.2.2.2 x hx).1,Nat.le_trans (HC.out.2.2.2.2.2.2 x hx).2.1 (by omega),Nat.le_trans (HC.out.2.2.2.2.2.2 x hx).2.2 (by omega)⟩) HK1.out HK2.out (by have:=(mayS_zero (tmay_all HK0.out).1).1; omega))
   have HD5:=Aside0.mk (fun (W:World) (hb:Below w.heap.size w W)=>dot_n A0 c0 s0 B0 e0 t0 A0 c0 B0 e0 t0 33554432 W (Kd.C_below HC.out.1.1 hb) HC.out.1.2.2.1 (Kd.C_below HC.out.1.2.1 hb) HC.out.1.2.2.2.1 (Kd.C_below HC.out.1.1 hb) HC.out.1.2.2.1 (Kd.C_below HC.out.1.2.1 hb) HC.out.1.2.2.2.1 (by exact HNL.out) (by omega) (by decide) (by decide) (fun x hx=>⟨(HC.out.1.2.2.2.2 x hx).1,Nat.le_trans (HC.out.1.2.2.2.2 x hx).2.1 (by omega),Nat.le_trans (HC.out.1.2.2.2.2 x hx).2.2 (by omega)⟩) (fun x hx=>⟨(HC.out.1.2.2.2.2 x hx).1,Nat.le_trans (HC.out.1.2.2.2.2 x hx).2.1 (by omega),Nat.le_trans (HC.out.1.2.2.2.2 x hx).2.2 (by omega)⟩) HK0.out HK0.out (by have:=(mayS_zero (tmay_all HK0.out).1).1; omega))
   have HMO:=Aside0.mk (mix_ok hL0 hL HC.out.1.2.2.2.2 HC.out.2.1.2.2.2.2 HLK.out)
   have HLO:=Aside0.mk (lin_ok (gs:=t2) hL0 hL HC.out.1.2.2.2.2 HC.out.2.1.2.2.2.2 HC.out.2.2.2.2.2.2 HLK.out HNL.out)
   have HMI:=Aside0.mk (fun (W:World) (hb:Below w.heap.size w W)=>mix_n A0 c0 s0 B0 e0 t0 A1 c1 s0 B1 e1 t1 n P pc p Q qc q X W (Kd.C_below HC.out.1.2.1 hb) (Kd.C_below HC.out.2.1.2.1 hb) HN1.out (Nat.le_trans HNL.out (by decide)) (fun x hx=>(HC.out.1.2.2.2.2 x hx).1) (fun x hx=>(HC.out.2.1.2.2.2.2 x hx).1) HMO.out.1 (HN.out W hb))
   have HDM:Aside0 (∀ (W:World) (F:Option Addr) (f:Nat),Below w.heap.size w W→MX W w.heap.size (.slice F t0.length f) (zcf t0 t1 X t0.length)→Calls Try.prog 55 #[.agg #[.slice A0 s0.length c0,.slice F t0.length f],.agg #[.slice A2 s0.length c2,.slice B2 t2.length e2]] W (RTE W (zbJ (zcf t0 t1 X t0.length) t2 t0.length) 0)):=⟨fun W F f hb hx=>by
    obtain⟨k1,k2,k3⟩:=Kd.R_reads' hx
    have:=dot_n A0 c0 s0 F f (zcf t0 t1 X t0.length) A2 c2 B2 e2 t2 33554432 W (Kd.C_below HC.out.1.1 hb) HC.out.1.2.2.1 k3 (k1 ▸ k2) (Kd.C_below HC.out.2.2.1 hb) HC.out.2.2.2.2.1 (Kd.C_below HC.out.2.2.2.1 hb) HC.out.2.2.2.2.2.1 (by rw [mixI_len]; exact HNL.out) (by rw [mixI_len]; exact HN2.out) (by decide) (by decide) (HMO.out.2 _) (fun x hx=>⟨(HC.out.2.2.2.2.2.2 x hx).1,Nat.le_trans (HC.out.2.2.2.2.2.2 x hx).2.1 (by omega),Nat.le_trans (HC.out.2.2.2.2.2.2 x hx).2.2 (by omega)⟩) (mix_may HK0.out _ _) HK2.out (by have:=(mayS_zero (tmay_all HK0.out).1).1; omega)
    rw [mixI_len] at this
    exact this⟩
   clear HM0 HM1 HM2 HS1 HS2
   have HQ1:=Aside0.mk (okQ_dot (L:=33554432) (by decide) (by decide) (fun x hx=>⟨(HC.out.1.2.2.2.2 x hx).1,Nat.le_trans (HC.out.1.2.2.2.2 x hx).2.1 (by omega),Nat.le_trans (HC.out.1.2.2.2.2 x hx).2.2 (by omega)⟩) (fun x hx=>⟨(HC.out.2.2.2.2.2.2 x hx).1,Nat.le_trans (HC.out.2.2.2.2.2.2 x hx).2.1 (by omega),Nat.le_trans (HC.out.2.2.2.2.2.2 x hx).2.2 (by omega)⟩) (show t0.length≤1024 from by exact HNL.out))
   have HQ2:=Aside0.mk (okQ_dot (L:=33554432) (by decide) (by decide) (fun x hx=>⟨(HC.out.2.2.2.2.2.2 x hx).1,Nat.le_trans (HC.out.2.2.2.2.2.2 x hx).2.1 (by omega),Nat.le_trans (HC.out.2.2.2.2.2.2 x hx).2.2 (by omega)⟩) (fun x hx=>⟨(HC.out.1.2.2.2.2 x hx).1,Nat.le_trans (HC.out.1.2.2.2.2 x hx).2.1 (by omega),Nat.le_trans (HC.out.1.2.2.2.2 x hx).2.2 (by omega)⟩) (show t2.length≤1024 from by rw [HN2.out]; exact HNL.out))
   have HQ3:=Aside0.mk (okQ_dot (L:=33554432) (by decide) (by decide) (fun x hx=>⟨(HC.out.2.1.2.2.2.2 x hx).1,Nat.le_trans (HC.out.2.1.2.2.2.2 x hx).2.1 (by omega),Nat.le_trans (HC.out.2.1.2.2.2.2 x hx).2.2 (by omega)⟩) (fun x hx=>⟨(HC.out.2.2.2.2.2.2 x hx).1,Nat.le_trans (HC.out.2.2.2.2.2.2 x hx).2.1 (by omega),Nat.le_trans (HC.out.2.2.2.2.2.2 x hx).2.2 (by omega)⟩) (show t1.length≤1024 from by rw [HN1.out]; exact HNL.out))
   have HQ4:=Aside0.mk (okQ_dot (L:=33554432) (n:=t0.length) (by decide) (by decide) (HMO.out.2 t0.length) (fun x hx=>⟨(HC.out.2.2.2.2.2.2 x hx).1,Nat.le_trans (HC.out.2.2.2.2.2.2 x hx).2.1 (by omega),Nat.le_trans (HC.out.2.2.2.2.2.2 x hx).2.2 (by omega)⟩) HNL.out)
   have HQ5:=Aside0.mk (okQ_dot (L:=33554432) (by decide) (by decide) (fun x hx=>⟨(HC.out.1.2.2.2.2 x hx).1,Nat.le_trans (HC.out.1.2.2.2.2 x hx).2.1 (by omega),Nat.le_trans (HC.out.1.2.2.2.2 x hx).2.2 (by omega)⟩) (fun x hx=>⟨(HC.out.1.2.2.2.2 x hx).1,Nat.le_trans (HC.out.1.2.2.2.2 x hx).2.1 (by omega),Nat.le_trans (HC.out.1.2.2.2.2 x hx).2.2 (by omega)⟩) (show t0.length≤1024 from by exact HNL.out))
   refine(HD1.out _ (HF.out _ hb5.out).2).mono ?_
   rintro e U1 ⟨D1a,m1a,D1b,m1b,rfl,hR,hB⟩
   have hbA:=zbp hb5.out hB
   have hr:=(hR.nr (red_dotP _ _ _) HQ1.out).below (zbq (Below.refl _ _) (.cells #[.bool (zbJ t0 t2 t0.length).1,.slice D1a (dg B32 (zbJ t0 t2 t0.length).2.1).length m1a,.slice D1b (dg B32 (zbJ t0 t2 t0.length).2.2).length m1b] 25 (0,0)))
   have hg:=zbL U1 (.cells #[.bool (zbJ t0 t2 t0.length).1,.slice D1a (dg B32 (zbJ t0 t2 t0.length).2.1).length m1a,.slice D1b (dg B32 (zbJ t0 t2 t0.length).2.2).length m1b] 25 (0,0))
   have hbB:=zbq hbA (.cells #[.bool (zbJ t0 t2 t0.length).1,.slice D1a (dg B32 (zbJ t0 t2 t0.length).2.1).length m1a,.slice D1b (dg B32 (zbJ t0 t2 t0.length).2.2).length m1b] 25 (0,0))
   obtain⟨y0,y1,y2,y3,y4,y5,y6,y7,y8⟩:=(HF.out _ hbB).1
   clear hB hR hbA
   go_wp2_with fail
   clear y0 y1 y2 y3 y4 y5 y6 y7 y8
   generalize U1.alloc (.cells #[.bool (zbJ t0 t2 t0.length).1,.slice D1a (dg B32 (zbJ t0 t2 t0.length).2.1).length m1a,.slice D1b (dg B32 (zbJ t0 t2 t0.length).2.2).length m1b] 25 (0,0))=V1 at hr hg hbB ⊢
   generalize U1.heap.size=g1 at hg ⊢
   have HG1:Aside0 (∀ w':World,Below V1.heap.size V1 w'→(w'.cell? ⟨w.heap.size,0,none⟩=some (.slice A0 s0.length c0)∧w'.cell? ⟨w.heap.size,1,none⟩=some (.slice B0 t0.length e0)∧w'.cell? ⟨w.heap.size+1,0,none⟩=some (.slice A1 s0.length c1)∧w'.cell? ⟨w.heap.size+1,1,none⟩=some (.slice B1 t1.length e1)∧w'.cell? ⟨w.heap.size+1+1,0,none⟩=some (.slice A2 s0.length c2)∧w'.cell? ⟨w.heap.size+1+1,1,none⟩=some (.slice B2 t2.length e2)∧w'.cell? ⟨w.heap.size+1+1+1,0,none⟩=some (.bool n)∧w'.cell? ⟨w.heap.size+1+1+1,1,none⟩=some (.slice P p.length pc)∧w'.cell? ⟨w.heap.size+1+1+1,2,none⟩=some (.slice Q q.length qc)∧w'.cell? ⟨g1,0,none⟩=some (.bool (zbJ t0 t2 t0.length).1)∧w'.cell? ⟨g1,1,none⟩=some (.slice D1a (dg B32 (zbJ t0 t2 t0.length).2.1).length m1a)∧w'.cell? ⟨g1,2,none⟩=some (.slice D1b (dg B32 (zbJ t0 t2 t0.length).2.2).length m1b))∧Below w.heap.size w w'∧NR w' (.agg #[.bool (zbJ t0 t2 t0.length).1,.slice D1a (dg B32 (zbJ t0 t2 t0.length).2.1).length m1a,.slice D1b (dg B32 (zbJ t0 t2 t0.length).2.2).length m1b]) (zbJ t0 t2 t0.length)):=⟨fun w' h=>by
    have ho:=HF.out _ (zbp hbB h)
    obtain⟨y0,y1,y2,y3,y4,y5,y6,y7,y8⟩:=ho.1
    exact⟨⟨y0,y1,y2,y3,y4,y5,y6,y7,y8,(zbu (zbt hg h) 0).trans rfl,(zbu (zbt hg h) 1).trans rfl,(zbu (zbt hg h) 2).trans rfl⟩,ho.2,(hr).below h⟩⟩
   clear hr hg hbB
   refine(HD2.out _ (HG1.out _ (Below.refl _ _)).2.1).mono ?_
   rintro e U2 ⟨D2a,m2a,D2b,m2b,rfl,hR,hB⟩
   have hbA:=zbp (Below.refl _ _) hB
   have hr:=(hR.nr (red_dotP _ _ _) HQ2.out).below (zbq (Below.refl _ _) (.cells #[.bool (zbJ t2 t0 t2.length).1,.slice D2a (dg B32 (zbJ t2 t0 t2.length).2.1).length m2a,.slice D2b (dg B32 (zbJ t2 t0 t2.length).2.2).length m2b] 25 (0,0)))
   have hg:=zbL U2 (.cells #[.bool (zbJ t2 t0 t2.length).1,.slice D2a (dg B32 (zbJ t2 t0 t2.length).2.1).length m2a,.slice D2b (dg B32 (zbJ t2 t0 t2.length).2.2).length m2b] 25 (0,0))
   have hbB:=zbq hbA (.cells #[.bool (zbJ t2 t0 t2.length).1,.slice D2a (dg B32 (zbJ t2 t0 t2.length).2.1).length m2a,.slice D2b (dg B32 (zbJ t2 t0 t2.length).2.2).length m2b] 25 (0,0))
   obtain⟨y0,y1,y2,y3,y4,y5,y6,y7,y8,y9,y10,y11⟩:=(HG1.out _ hbB).1
   clear hB hR hbA
   go_wp2_with fail
   clear y0 y1 y2 y3 y4 y5 y6 y7 y8 y9 y10 y11
   generalize U2.alloc (.cells #[.bool (zbJ t2 t0 t2.length).1,.slice D2a (dg B32 (zbJ t2 t0 t2.length).2.1).length m2a,.slice D2b (dg B32 (zbJ t2 t0 t2.length).2.2).length m2b] 25 (0,0))=V2 at hr hg hbB ⊢
   generalize U2.heap.size=g2 at hg ⊢
   have HG2:Aside0 (∀ w':World,Below V2.heap.size V2 w'→(w'.cell? ⟨w.heap.size,0,none⟩=some (.slice A0 s0.length c0)∧w'.cell? ⟨w.heap.size,1,none⟩=some (.slice B0 t0.length e0)∧w'.cell? ⟨w.heap.size+1,0,none⟩=some (.slice A1 s0.length c1)∧w'.cell? ⟨w.heap.size+1,1,none⟩=some (.slice B1 t1.length e1)∧w'.cell? ⟨w.heap.size+1+1,0,none⟩=some (.slice A2 s0.length c2)∧w'.cell? ⟨w.heap.size+1+1,1,none⟩=some (.slice B2 t2.length e2)∧w'.cell? ⟨w.heap.size+1+1+1,0,none⟩=some (.bool n)∧w'.cell? ⟨w.heap.size+1+1+1,1,none⟩=some (.slice P p.length pc)∧w'.cell? ⟨w.heap.size+1+1+1,2,none⟩=some (.slice Q q.length qc)∧w'.cell? ⟨g1,0,none⟩=some (.bool (zbJ t0 t2 t0.length).1)∧w'.cell? ⟨g1,1,none⟩=some (.slice D1a (dg B32 (zbJ t0 t2 t0.length).2.1).length m1a)∧w'.cell? ⟨g1,2,none⟩=some (.slice D1b (dg B32 (zbJ t0 t2 t0.length).2.2).length m1b)∧w'.cell? ⟨g2,0,none⟩=some (.bool (zbJ t2 t0 t2.length).1)∧w'.cell? ⟨g2,1,none⟩=some (.slice D2a (dg B32 (zbJ t2 t0 t2.length).2.1).length m2a)∧w'.cell? ⟨g2,2,none⟩=some (.slice D2b (dg B32 (zbJ t2 t0 t2.length).2.2).length m2b))∧Below w.heap.size w w'∧NR w' (.agg #[.bool (zbJ t0 t2 t0.length).1,.slice D1a (dg B32 (zbJ t0 t2 t0.length).2.1).length m1a,.slice D1b (dg B32 (zbJ t0 t2 t0.length).2.2).length m1b]) (zbJ t0 t2 t0.length)∧NR w' (.agg #[.bool (zbJ t2 t0 t2.length).1,.slice D2a (dg B32 (zbJ t2 t0 t2.length).2.1).length m2a,.slice D2b (dg B32 (zbJ t2 t0 t2.length).2.2).length m2b]) (zbJ t2 t0 t2.length)):=⟨fun w' h=>by
    have ho:=HG1.out _ (zbp hbB h)
    obtain⟨y0,y1,y2,y3,y4,y5,y6,y7,y8,y9,y10,y11⟩:=ho.1
    exact⟨⟨y0,y1,y2,y3,y4,y5,y6,y7,y8,y9,y10,y11,(zbu (zbt hg h) 0).trans rfl,(zbu (zbt hg h) 1).trans rfl,(zbu (zbt hg h) 2).trans rfl⟩,ho.2.1,ho.2.2,(hr).below h⟩⟩
   clear hr hg hbB
   refine(HD3.out _ (HG2.out _ (Below.refl _ _)).2.1).mono ?_
   rintro e U3 ⟨D3a,m3a,D3b,m3b,rfl,hR,hB⟩
   have hbA:=zbp (Below.refl _ _) hB
   have hr:=(hR.nr (red_dotP _ _ _) HQ3.out).below (zbq (Below.refl _ _) (.cells #[.bool (zbJ t1 t2 t1.length).1,.slice D3a (dg B32 (zbJ t1 t2 t1.length).2.1).length m3a,.slice D3b (dg B32 (zbJ t1 t2 t1.length).2.2).length m3b] 25 (0,0)))
   have hg:=zbL U3 (.cells #[.bool (zbJ t1 t2 t1.length).1,.slice D3a (dg B32 (zbJ t1 t2 t1.length).2.1).length m3a,.slice D3b (dg B32 (zbJ t1 t2 t1.length).2.2).length m3b] 25 (0,0))
   have hbB:=zbq hbA (.cells #[.bool (zbJ t1 t2 t1.length).1,.slice D3a (dg B32 (zbJ t1 t2 t1.length).2.1).length m3a,.slice D3b (dg B32 (zbJ t1 t2 t1.length).2.2).length m3b] 25 (0,0))
   obtain⟨y0,y1,y2,y3,y4,y5,y6,y7,y8,y9,y10,y11,y12,y13,y14⟩:=(HG2.out _ hbB).1
   clear hB hR hbA
   go_wp2_with fail
   clear y0 y1 y2 y3 y4 y5 y6 y7 y8 y9 y10 y11 y12 y13 y14
   generalize U3.alloc (.cells #[.bool (zbJ t1 t2 t1.length).1,.slice D3a (dg B32 (zbJ t1 t2 t1.length).2.1).length m3a,.slice D3b (dg B32 (zbJ t1 t2 t1.length).2.2).length m3b] 25 (0,0))=V3 at hr hg hbB ⊢
   generalize U3.heap.size=g3 at hg ⊢
   have HG3:Aside0 (∀ w':World,Below V3.heap.size V3 w'→(w'.cell? ⟨w.heap.size,0,none⟩=some (.slice A0 s0.length c0)∧w'.cell? ⟨w.heap.size,1,none⟩=some (.slice B0 t0.length e0)∧w'.cell? ⟨w.heap.size+1,0,none⟩=some (.slice A1 s0.length c1)∧w'.cell? ⟨w.heap.size+1,1,none⟩=some (.slice B1 t1.length e1)∧w'.cell? ⟨w.heap.size+1+1,0,none⟩=some (.slice A2 s0.length c2)∧w'.cell? ⟨w.heap.size+1+1,1,none⟩=some (.slice B2 t2.length e2)∧w'.cell? ⟨w.heap.size+1+1+1,0,none⟩=some (.bool n)∧w'.cell? ⟨w.heap.size+1+1+1,1,none⟩=some (.slice P p.length pc)∧w'.cell? ⟨w.heap.size+1+1+1,2,none⟩=some (.slice Q q.length qc)∧w'.cell? ⟨g1,0,none⟩=some (.bool (zbJ t0 t2 t0.length).1)∧w'.cell? ⟨g1,1,none⟩=some (.slice D1a (dg B32 (zbJ t0 t2 t0.length).2.1).length m1a)∧w'.cell? ⟨g1,2,none⟩=some (.slice D1b (dg B32 (zbJ t0 t2 t0.length).2.2).length m1b)∧w'.cell? ⟨g2,0,none⟩=some (.bool (zbJ t2 t0 t2.length).1)∧w'.cell? ⟨g2,1,none⟩=some (.slice D2a (dg B32 (zbJ t2 t0 t2.length).2.1).length m2a)∧w'.cell? ⟨g2,2,none⟩=some (.slice D2b (dg B32 (zbJ t2 t0 t2.length).2.2).length m2b)∧w'.cell? ⟨g3,0,none⟩=some (.bool (zbJ t1 t2 t1.length).1)∧w'.cell? ⟨g3,1,none⟩=some (.slice D3a (dg B32 (zbJ t1 t2 t1.length).2.1).length m3a)∧w'.cell? ⟨g3,2,none⟩=some (.slice D3b (dg B32 (zbJ t1 t2 t1.length).2.2).length m3b))∧Below w.heap.size w w'∧NR w' (.agg #[.bool (zbJ t0 t2 t0.length).1,.slice D1a (dg B32 (zbJ t0 t2 t0.length).2.1).length m1a,.slice D1b (dg B32 (zbJ t0 t2 t0.length).2.2).length m1b]) (zbJ t0 t2 t0.length)∧NR w' (.agg #[.bool (zbJ t2 t0 t2.length).1,.slice D2a (dg B32 (zbJ t2 t0 t2.length).2.1).length m2a,.slice D2b (dg B32 (zbJ t2 t0 t2.length).2.2).length m2b]) (zbJ t2 t0 t2.length)∧NR w' (.agg #[.bool (zbJ t1 t2 t1.length).1,.slice D3a (dg B32 (zbJ t1 t2 t1.length).2.1).length m3a,.slice D3b (dg B32 (zbJ t1 t2 t1.length).2.2).length m3b]) (zbJ t1 t2 t1.length)):=⟨fun w' h=>by
    have ho:=HG2.out _ (zbp hbB h)
    obtain⟨y0,y1,y2,y3,y4,y5,y6,y7,y8,y9,y10,y11,y12,y13,y14⟩:=ho.1
    exact⟨⟨y0,y1,y2,y3,y4,y5,y6,y7,y8,y9,y10,y11,y12,y13,y14,(zbu (zbt hg h) 0).trans rfl,(zbu (zbt hg h) 1).trans rfl,(zbu (zbt hg h) 2).trans rfl⟩,ho.2.1,ho.2.2.1,ho.2.2.2,(hr).below h⟩⟩
   clear hr hg hbB
   refine start_ (n:=12) (S:=fun w'=>(w'.cell? ⟨w.heap.size,0,none⟩=some (.slice A0 s0.length c0)∧w'.cell? ⟨w.heap.size,1,none⟩=some (.slice B0 t0.length e0)∧w'.cell? ⟨w.heap.size+1,0,none⟩=some (.slice A1 s0.length c1)∧w'.cell? ⟨w.heap.size+1,1,none⟩=some (.slice B1 t1.length e1)∧w'.cell? ⟨w.heap.size+1+1,0,none⟩=some (.slice A2 s0.length c2)∧w'.cell? ⟨w.heap.size+1+1,1,none⟩=some (.slice B2 t2.length e2)∧w'.cell? ⟨w.heap.size+1+1+1,0,none⟩=some (.bool n)∧w'.cell? ⟨w.heap.size+1+1+1,1,none⟩=some (.slice P p.length pc)∧w'.cell? ⟨w.heap.size+1+1+1,2,none⟩=some (.slice Q q.length qc)∧w'.cell? ⟨g1,0,none⟩=some (.bool (zbJ t0 t2 t0.length).1)∧w'.cell? ⟨g1,1,none⟩=some (.slice D1a (dg B32 (zbJ t0 t2 t0.length).2.1).length m1a)∧w'.cell? ⟨g1,2,none⟩=some (.slice D1b (dg B32 (zbJ t0 t2 t0.length).2.2).length m1b)∧w'.cell? ⟨g2,0,none⟩=some (.bool (zbJ t2 t0 t2.length).1)∧w'.cell? ⟨g2,1,none⟩=some (.slice D2a (dg B32 (zbJ t2 t0 t2.length).2.1).length m2a)∧w'.cell? ⟨g2,2,none⟩=some (.slice D2b (dg B32 (zbJ t2 t0 t2.length).2.2).length m2b)∧w'.cell? ⟨g3,0,none⟩=some (.bool (zbJ t1 t2 t1.length).1)∧w'.cell? ⟨g3,1,none⟩=some (.slice D3a (dg B32 (zbJ t1 t2 t1.length).2.1).length m3a)∧w'.cell? ⟨g3,2,none⟩=some (.slice D3b (dg B32 (zbJ t1 t2 t1.length).2.2).length m3b))) (ds:=[10]) #[zf,zf,zf,zf,zf,zf,zf,zf,zf,zf,zf,zf] (by kernel_rfl) rfl rfl ((HG3.out _ (zbv (Below.refl _ _))).1) (fun hHeld=>?_)
   have hb0:=Aside0.mk (show Below V3.heap.size V3 V3.drew from zbv (Below.refl _ _))
   generalize V3.drew=V0 at hb0 hHeld ⊢
   refine with_tabW tensorLinear.tab6 tensorLinear.bits6 (fun HT_ HW_=>?_)
   refine qtT 0 (some 70) ?_
   refine qtT 1 (some 71) ?_
   refine qtT 2 (some 72) ?_
   refine qtT 4 (some 74) ?_
   refine join_ (σ:=Option Addr×Nat×Option Addr×Nat×Option Addr×Nat×Nat) 2 #[zt,zt,zt,zt,zt,zt,zt,zt,zt,zt,zf,zf] (fun s=>[(73,.agg #[.slice A0 s0.length c0,.slice s.1 t0.length s.2.1]),(75,.tuple #[.agg #[.bool (zbJ (zcf t0 t1 X t0.length) t2 t0.length).1,.slice s.2.2.1 (dg B32 (zbJ (zcf t0 t1 X t0.length) t2 t0.length).2.1).length s.2.2.2.1,.slice s.2.2.2.2.1 (dg B32 (zbJ (zcf t0 t1 X t0.length) t2 t0.length).2.2).length s.2.2.2.2.2.1],.int .i64 0]),(69,.tuple #[.agg #[.bool (zbJ (zcf t0 t1 X t0.length) t2 t0.length).1,.slice s.2.2.1 (dg B32 (zbJ (zcf t0 t1 X t0.length) t2 t0.length).2.1).length s.2.2.2.1,.slice s.2.2.2.2.1 (dg B32 (zbJ (zcf t0 t1 X t0.length) t2 t0.length).2.2).length s.2.2.2.2.2.1],.int .i64 0]),(76,.agg #[.bool (zbJ (zcf t0 t1 X t0.length) t2 t0.length).1,.slice s.2.2.1 (dg B32 (zbJ (zcf t0 t1 X t0.length) t2 t0.length).2.1).length s.2.2.2.1,.slice s.2.2.2.2.1 (dg B32 (zbJ (zcf t0 t1 X t0.length) t2 t0.length).2.2).length s.2.2.2.2.2.1]),(77,.int .i64 0),(15,.pointer (some ⟨s.2.2.2.2.2.2,0,none⟩))]) (fun s w'=>(w'.cell? ⟨w.heap.size,0,none⟩=some (.slice A0 s0.length c0)∧w'.cell? ⟨w.heap.size,1,none⟩=some (.slice B0 t0.length e0)∧w'.cell? ⟨w.heap.size+1,0,none⟩=some (.slice A1 s0.length c1)∧w'.cell? ⟨w.heap.size+1,1,none⟩=some (.slice B1 t1.length e1)∧w'.cell? ⟨w.heap.size+1+1,0,none⟩=some (.slice A2 s0.length c2)∧w'.cell? ⟨w.heap.size+1+1,1,none⟩=some (.slice B2 t2.length e2)∧w'.cell? ⟨w.heap.size+1+1+1,0,none⟩=some (.bool n)∧w'.cell? ⟨w.heap.size+1+1+1,1,none⟩=some (.slice P p.length pc)∧w'.cell? ⟨w.heap.size+1+1+1,2,none⟩=some (.slice Q q.length qc)∧w'.cell? ⟨g1,0,none⟩=some (.bool (zbJ t0 t2 t0.length).1)∧w'.cell? ⟨g1,1,none⟩=some (.slice D1a (dg B32 (zbJ t0 t2 t0.length).2.1).length m1a)∧w'.cell? ⟨g1,2,none⟩=some (.slice D1b (dg B32 (zbJ t0 t2 t0.length).2.2).length m1b)∧w'.cell? ⟨g2,0,none⟩=some (.bool (zbJ t2 t0 t2.length).1)∧w'.cell? ⟨g2,1,none⟩=some (.slice D2a (dg B32 (zbJ t2 t0 t2.length).2.1).length m2a)∧w'.cell? ⟨g2,2,none⟩=some (.slice D2b (dg B32 (zbJ t2 t0 t2.length).2.2).length m2b)∧w'.cell? ⟨g3,0,none⟩=some (.bool (zbJ t1 t2 t1.length).1)∧w'.cell? ⟨g3,1,none⟩=some (.slice D3a (dg B32 (zbJ t1 t2 t1.length).2.1).length m3a)∧w'.cell? ⟨g3,2,none⟩=some (.slice D3b (dg B32 (zbJ t1 t2 t1.length).2.2).length m3b))∧(MX w' w.heap.size (.slice s.1 t0.length s.2.1) (zcf t0 t1 X t0.length))∧(RT w' w.heap.size (.agg #[.bool (zbJ (zcf t0 t1 X t0.length) t2 t0.length).1,.slice s.2.2.1 (dg B32 (zbJ (zcf t0 t1 X t0.length) t2 t0.length).2.1).length s.2.2.2.1,.slice s.2.2.2.2.1 (dg B32 (zbJ (zcf t0 t1 X t0.length) t2 t0.length).2.2).length s.2.2.2.2.2.1]) (zbJ (zcf t0 t1 X t0.length) t2 t0.length))∧(w'.heap[s.2.2.2.2.2.2]? = some (.cells #[.bool false,.slice none 0 0,.slice none 0 0] 25 (0,0))∧V3.heap.size≤s.2.2.2.2.2.2)∧Below V3.heap.size V3 w') ?_ ?_
   rotate_left
   ·
    intro hJ3_5_9
    refine join_ (σ:=Option Addr×Nat×Option Addr×Nat×Option Addr×Nat) 3 #[zt,zt,zt,zt,zt,zt,zt,zt,zt,zf,zf,zf] (fun s=>[(73,.agg #[.slice A0 s0.length c0,.slice s.1 t0.length s.2.1]),(75,.tuple #[.agg #[.bool (zbJ (zcf t0 t1 X t0.length) t2 t0.length).1,.slice s.2.2.1 (dg B32 (zbJ (zcf t0 t1 X t0.length) t2 t0.length).2.1).length s.2.2.2.1,.slice s.2.2.2.2.1 (dg B32 (zbJ (zcf t0 t1 X t0.length) t2 t0.length).2.2).length s.2.2.2.2.2],.int .i64 0]),(69,.tuple #[.agg #[.bool (zbJ (zcf t0 t1 X t0.length) t2 t0.length).1,.slice s.2.2.1 (dg B32 (zbJ (zcf t0 t1 X t0.length) t2 t0.length).2.1).length s.2.2.2.1,.slice s.2.2.2.2.1 (dg B32 (zbJ (zcf t0 t1 X t0.length) t2 t0.length).2.2).length s.2.2.2.2.2],.int .i64 0]),(76,.agg #[.bool (zbJ (zcf t0 t1 X t0.length) t2 t0.length).1,.slice s.2.2.1 (dg B32 (zbJ (zcf t0 t1 X t0.length) t2 t0.length).2.1).length s.2.2.2.1,.slice s.2.2.2.2.1 (dg B32 (zbJ (zcf t0 t1 X t0.length) t2 t0.length).2.2).length s.2.2.2.2.2]),(77,.int .i64 0)]) (fun s w'=>(w'.cell? ⟨w.heap.size,0,none⟩=some (.slice A0 s0.length c0)∧w'.cell? ⟨w.heap.size,1,none⟩=some (.slice B0 t0.length e0)∧w'.cell? ⟨w.heap.size+1,0,none⟩=some (.slice A1 s0.length c1)∧w'.cell? ⟨w.heap.size+1,1,none⟩=some (.slice B1 t1.length e1)∧w'.cell? ⟨w.heap.size+1+1,0,none⟩=some (.slice A2 s0.length c2)∧w'.cell? ⟨w.heap.size+1+1,1,none⟩=some (.slice B2 t2.length e2)∧w'.cell? ⟨w.heap.size+1+1+1,0,none⟩=some (.bool n)∧w'.cell? ⟨w.heap.size+1+1+1,1,none⟩=some (.slice P p.length pc)∧w'.cell? ⟨w.heap.size+1+1+1,2,none⟩=some (.slice Q q.length qc)∧w'.cell? ⟨g1,0,none⟩=some (.bool (zbJ t0 t2 t0.length).1)∧w'.cell? ⟨g1,1,none⟩=some (.slice D1a (dg B32 (zbJ t0 t2 t0.length).2.1).length m1a)∧w'.cell? ⟨g1,2,none⟩=some (.slice D1b (dg B32 (zbJ t0 t2 t0.length).2.2).length m1b)∧w'.cell? ⟨g2,0,none⟩=some (.bool (zbJ t2 t0 t2.length).1)∧w'.cell? ⟨g2,1,none⟩=some (.slice D2a (dg B32 (zbJ t2 t0 t2.length).2.1).length m2a)∧w'.cell? ⟨g2,2,none⟩=some (.slice D2b (dg B32 (zbJ t2 t0 t2.length).2.2).length m2b)∧w'.cell? ⟨g3,0,none⟩=some (.bool (zbJ t1 t2 t1.length).1)∧w'.cell? ⟨g3,1,none⟩=some (.slice D3a (dg B32 (zbJ t1 t2 t1.length).2.1).length m3a)∧w'.cell? ⟨g3,2,none⟩=some (.slice D3b (dg B32 (zbJ t1 t2 t1.length).2.2).length m3b))∧(MX w' w.heap.size (.slice s.1 t0.length s.2.1) (zcf t0 t1 X t0.length))∧(RT w' w.heap.size (.agg #[.bool (zbJ (zcf t0 t1 X t0.length) t2 t0.length).1,.slice s.2.2.1 (dg B32 (zbJ (zcf t0 t1 X t0.length) t2 t0.length).2.1).length s.2.2.2.1,.slice s.2.2.2.2.1 (dg B32 (zbJ (zcf t0 t1 X t0.length) t2 t0.length).2.2).length s.2.2.2.2.2]) (zbJ (zcf t0 t1 X t0.length) t2 t0.length))∧Below V3.heap.size V3 w') ?_ ?_
    rotate_left
    ·
     intro hJ3_5
     refine join_ (σ:=Option Addr×Nat×Nat) 6 #[zt,zt,zt,zt,zt,zf,zf,zf,zf,zt,zf,zf] (fun s=>[(73,.agg #[.slice A0 s0.length c0,.slice s.1 t0.length s.2.1]),(15,.pointer (some ⟨s.2.2,0,none⟩))]) (fun s w'=>(w'.cell? ⟨w.heap.size,0,none⟩=some (.slice A0 s0.length c0)∧w'.cell? ⟨w.heap.size,1,none⟩=some (.slice B0 t0.length e0)∧w'.cell? ⟨w.heap.size+1,0,none⟩=some (.slice A1 s0.length c1)∧w'.cell? ⟨w.heap.size+1,1,none⟩=some (.slice B1 t1.length e1)∧w'.cell? ⟨w.heap.size+1+1,0,none⟩=some (.slice A2 s0.length c2)∧w'.cell? ⟨w.heap.size+1+1,1,none⟩=some (.slice B2 t2.length e2)∧w'.cell? ⟨w.heap.size+1+1+1,0,none⟩=some (.bool n)∧w'.cell? ⟨w.heap.size+1+1+1,1,none⟩=some (.slice P p.length pc)∧w'.cell? ⟨w.heap.size+1+1+1,2,none⟩=some (.slice Q q.length qc)∧w'.cell? ⟨g1,0,none⟩=some (.bool (zbJ t0 t2 t0.length).1)∧w'.cell? ⟨g1,1,none⟩=some (.slice D1a (dg B32 (zbJ t0 t2 t0.length).2.1).length m1a)∧w'.cell? ⟨g1,2,none⟩=some (.slice D1b (dg B32 (zbJ t0 t2 t0.length).2.2).length m1b)∧w'.cell? ⟨g2,0,none⟩=some (.bool (zbJ t2 t0 t2.length).1)∧w'.cell? ⟨g2,1,none⟩=some (.slice D2a (dg B32 (zbJ t2 t0 t2.length).2.1).length m2a)∧w'.cell? ⟨g2,2,none⟩=some (.slice D2b (dg B32 (zbJ t2 t0 t2.length).2.2).length m2b)∧w'.cell? ⟨g3,0,none⟩=some (.bool (zbJ t1 t2 t1.length).1)∧w'.cell? ⟨g3,1,none⟩=some (.slice D3a (dg B32 (zbJ t1 t2 t1.length).2.1).length m3a)∧w'.cell? ⟨g3,2,none⟩=some (.slice D3b (dg B32 (zbJ t1 t2 t1.length).2.2).length m3b))∧(MX w' w.heap.size (.slice s.1 t0.length s.2.1) (zcf t0 t1 X t0.length))∧(w'.heap[s.2.2]? = some (.cells #[.bool false,.slice none 0 0,.slice none 0 0] 25 (0,0))∧V3.heap.size≤s.2.2)∧Below V3.heap.size V3 w') ?_ ?_
     rotate_left
     ·
      intro hJ3_9
      refine join_ (σ:=Option Addr×Nat) 7 #[zt,zt,zt,zt,zt,zf,zf,zf,zf,zf,zf,zf] (fun s=>[(73,.agg #[.slice A0 s0.length c0,.slice s.1 t0.length s.2])]) (fun s w'=>(w'.cell? ⟨w.heap.size,0,none⟩=some (.slice A0 s0.length c0)∧w'.cell? ⟨w.heap.size,1,none⟩=some (.slice B0 t0.length e0)∧w'.cell? ⟨w.heap.size+1,0,none⟩=some (.slice A1 s0.length c1)∧w'.cell? ⟨w.heap.size+1,1,none⟩=some (.slice B1 t1.length e1)∧w'.cell? ⟨w.heap.size+1+1,0,none⟩=some (.slice A2 s0.length c2)∧w'.cell? ⟨w.heap.size+1+1,1,none⟩=some (.slice B2 t2.length e2)∧w'.cell? ⟨w.heap.size+1+1+1,0,none⟩=some (.bool n)∧w'.cell? ⟨w.heap.size+1+1+1,1,none⟩=some (.slice P p.length pc)∧w'.cell? ⟨w.heap.size+1+1+1,2,none⟩=some (.slice Q q.length qc)∧w'.cell? ⟨g1,0,none⟩=some (.bool (zbJ t0 t2 t0.length).1)∧w'.cell? ⟨g1,1,none⟩=some (.slice D1a (dg B32 (zbJ t0 t2 t0.length).2.1).length m1a)∧w'.cell? ⟨g1,2,none⟩=some (.slice D1b (dg B32 (zbJ t0 t2 t0.length).2.2).length m1b)∧w'.cell? ⟨g2,0,none⟩=some (.bool (zbJ t2 t0 t2.length).1)∧w'.cell? ⟨g2,1,none⟩=some (.slice D2a (dg B32 (zbJ t2 t0 t2.length).2.1).length m2a)∧w'.cell? ⟨g2,2,none⟩=some (.slice D2b (dg B32 (zbJ t2 t0 t2.length).2.2).length m2b)∧w'.cell? ⟨g3,0,none⟩=some (.bool (zbJ t1 t2 t1.length).1)∧w'.cell? ⟨g3,1,none⟩=some (.slice D3a (dg B32 (zbJ t1 t2 t1.length).2.1).length m3a)∧w'.cell? ⟨g3,2,none⟩=some (.slice D3b (dg B32 (zbJ t1 t2 t1.length).2.2).length m3b))∧(MX w' w.heap.size (.slice s.1 t0.length s.2) (zcf t0 t1 X t0.length))∧Below V3.heap.size V3 w') ?_ ?_
      rotate_left
      ·
       intro hJ3
       refine join_ (σ:=Nat) 7 #[zt,zt,zt,zf,zt,zf,zf,zf,zf,zt,zf,zf] (fun s=>[(15,.pointer (some ⟨s,0,none⟩))]) (fun s w'=>(w'.cell? ⟨w.heap.size,0,none⟩=some (.slice A0 s0.length c0)∧w'.cell? ⟨w.heap.size,1,none⟩=some (.slice B0 t0.length e0)∧w'.cell? ⟨w.heap.size+1,0,none⟩=some (.slice A1 s0.length c1)∧w'.cell? ⟨w.heap.size+1,1,none⟩=some (.slice B1 t1.length e1)∧w'.cell? ⟨w.heap.size+1+1,0,none⟩=some (.slice A2 s0.length c2)∧w'.cell? ⟨w.heap.size+1+1,1,none⟩=some (.slice B2 t2.length e2)∧w'.cell? ⟨w.heap.size+1+1+1,0,none⟩=some (.bool n)∧w'.cell? ⟨w.heap.size+1+1+1,1,none⟩=some (.slice P p.length pc)∧w'.cell? ⟨w.heap.size+1+1+1,2,none⟩=some (.slice Q q.length qc)∧w'.cell? ⟨g1,0,none⟩=some (.bool (zbJ t0 t2 t0.length).1)∧w'.cell? ⟨g1,1,none⟩=some (.slice D1a (dg B32 (zbJ t0 t2 t0.length).2.1).length m1a)∧w'.cell? ⟨g1,2,none⟩=some (.slice D1b (dg B32 (zbJ t0 t2 t0.length).2.2).length m1b)∧w'.cell? ⟨g2,0,none⟩=some (.bool (zbJ t2 t0 t2.length).1)∧w'.cell? ⟨g2,1,none⟩=some (.slice D2a (dg B32 (zbJ t2 t0 t2.length).2.1).length m2a)∧w'.cell? ⟨g2,2,none⟩=some (.slice D2b (dg B32 (zbJ t2 t0 t2.length).2.2).length m2b)∧w'.cell? ⟨g3,0,none⟩=some (.bool (zbJ t1 t2 t1.length).1)∧w'.cell? ⟨g3,1,none⟩=some (.slice D3a (dg B32 (zbJ t1 t2 t1.length).2.1).length m3a)∧w'.cell? ⟨g3,2,none⟩=some (.slice D3b (dg B32 (zbJ t1 t2 t1.length).2.2).length m3b))∧(w'.heap[s]? = some (.cells #[.bool false,.slice none 0 0,.slice none 0 0] 25 (0,0))∧V3.heap.size≤s)∧Below V3.heap.size V3 w') ?_ ?_
       rotate_left
       ·
        intro hJ9
        refine two_ (i:=3) (j:=9) (Ni:=some 73) (Nj:=some 15) #[zt,zt,zt,zt,zt,zf,zf,zf,zf,zf,zf,zf] #[zt,zt,zt,zf,zt,zf,zf,zf,zf,zt,zf,zf] rfl rfl rfl rfl (two_of HT_.out (by kernel_rfl)) (by decide) (by decide) (fun K hK=>?_) (fun K hK=>?_)
        ·
         skip
         refine qg Try.func56 #[.agg #[.slice A0 s0.length c0,.slice B0 t0.length e0],.agg #[.slice A1 s0.length c1,.slice B1 t1.length e1],.agg #[.bool n,.slice P p.length pc,.slice Q q.length qc]] ?_
         refine(HMI.out V0 (HG3.out _ hb0.out).2.1).mono ?_
         rintro e Vn ⟨Fm,fm,rfl,R1,hB⟩
         refine⟨_,rfl,?_⟩
         have new:MX Vn w.heap.size (.slice Fm t0.length fm) (zcf t0 t1 X t0.length):=Kd.R_lower R1 (HG3.out _ hb0.out).2.1.size
         have hbn:=Aside0.mk (zbp hb0.out hB)
         refine hK.out _ _ ((HG3.out _ hbn.out).1) (fun hHeld=>?_)
         clear hK K
         refine qn ?_
         exact zcc (by first | (simp only [zbN,Act.put,zA1,zA2,zA3]; done) | (simp only [zbN,Act.put,zA1,zA2,zA3]; rfl)) (hJ3 (Fm,fm) _ ⟨(HG3.out _ hbn.out).1,new,hbn.out⟩)
        ·
         skip
         refine qv ?_
         have hB:Below V0.heap.size V0 (V0.alloc (.cells #[.bool false,.slice none 0 0,.slice none 0 0] 25 (0,0))):=zbq (Below.refl _ _) _
         have hN:=zbL V0 (.cells #[.bool false,.slice none 0 0,.slice none 0 0] 25 (0,0))
         have hbn:=Aside0.mk (zbp hb0.out hB)
         refine hK.out _ _ ((HG3.out _ hbn.out).1) (fun hHeld=>?_)
         clear hK K
         refine qn ?_
         exact zcc (by first | (simp only [zbN,Act.put,zA1,zA2,zA3]; done) | (simp only [zbN,Act.put,zA1,zA2,zA3]; rfl)) (hJ9 (V0.heap.size) _ ⟨(HG3.out _ hbn.out).1,⟨hN,hb0.out.size⟩,hbn.out⟩)
       ·
        skip
        rintro g4 V ⟨hHeld,kK9,hb⟩
        have K9:=Aside0.mk kK9
        have hbv:=Aside0.mk hb
        clear hb kK9
        refine zcc (a':=?_) ?_ ?_
        rotate_left
        ·
         simp only [zbN,Act.put,zA1,zA2,zA3]
         rfl
        refine qoT 3 (some 73) (fun K hK=>?_)
        refine qg Try.func56 #[.agg #[.slice A0 s0.length c0,.slice B0 t0.length e0],.agg #[.slice A1 s0.length c1,.slice B1 t1.length e1],.agg #[.bool n,.slice P p.length pc,.slice Q q.length qc]] ?_
        refine(HMI.out V (HG3.out _ hbv.out).2.1).mono ?_
        rintro e Vn ⟨Fm,fm,rfl,R1,hB⟩
        refine⟨_,rfl,?_⟩
        have new:MX Vn w.heap.size (.slice Fm t0.length fm) (zcf t0 t1 X t0.length):=Kd.R_lower R1 (HG3.out _ hbv.out).2.1.size
        have hbn:=Aside0.mk (zbp hbv.out hB)
        refine hK.out _ _ ((HG3.out _ hbn.out).1) (fun hHeld=>?_)
        clear hK K
        refine qn ?_
        exact zcc (by first | (simp only [zbN,Act.put,zA1,zA2,zA3]; done) | (simp only [zbN,Act.put,zA1,zA2,zA3]; rfl)) (hJ3_9 (Fm,fm,g4) _ ⟨(HG3.out _ hbn.out).1,new,⟨zbt K9.out.1 hB,K9.out.2⟩,hbn.out⟩)
      ·
       skip
       rintro⟨Fm,fm⟩ V ⟨hHeld,kK3,hb⟩
       have K3:=Aside0.mk kK3
       have hbv:=Aside0.mk hb
       clear hb kK3
       refine zcc (a':=?_) ?_ ?_
       rotate_left
       ·
        simp only [zbN,Act.put,zA1,zA2,zA3]
        rfl
       refine two_ (i:=5) (j:=9) (Ni:=some 75) (Nj:=some 15) #[zt,zt,zt,zt,zt,zt,zf,zf,zf,zf,zf,zf] #[zt,zt,zt,zt,zt,zf,zf,zf,zf,zt,zf,zf] rfl rfl rfl rfl (two_of HT_.out (by kernel_rfl)) (by decide) (by decide) (fun K hK=>?_) (fun K hK=>?_)
       ·
        skip
        refine qg Try.func55 #[.agg #[.slice A0 s0.length c0,.slice Fm t0.length fm],.agg #[.slice A2 s0.length c2,.slice B2 t2.length e2]] ?_
        refine(HDM.out V Fm fm (HG3.out _ hbv.out).2.1 K3.out).mono ?_
        rintro e Vn ⟨D4a,m4a,D4b,m4b,rfl,hR,hB⟩
        refine⟨_,rfl,?_⟩
        have new:=hR.lower (HG3.out _ hbv.out).2.1.size
        have hbn:=Aside0.mk (zbp hbv.out hB)
        refine hK.out _ _ ((HG3.out _ hbn.out).1) (fun hHeld=>?_)
        clear hK K
        refine qn ?_
        refine qpT 6 (some 69) ?_
        refine qpT 7 (some 76) ?_
        refine qpT 8 (some 77) ?_
        exact zcc (by first | (simp only [zbN,Act.put,zA1,zA2,zA3]; done) | (simp only [zbN,Act.put,zA1,zA2,zA3]; rfl)) (hJ3_5 (Fm,fm,D4a,m4a,D4b,m4b) _ ⟨(HG3.out _ hbn.out).1,K3.out.below hB,new,hbn.out⟩)
       ·
        skip
        refine qv ?_
        have hB:Below V.heap.size V (V.alloc (.cells #[.bool false,.slice none 0 0,.slice none 0 0] 25 (0,0))):=zbq (Below.refl _ _) _
        have hN:=zbL V (.cells #[.bool false,.slice none 0 0,.slice none 0 0] 25 (0,0))
        have hbn:=Aside0.mk (zbp hbv.out hB)
        refine hK.out _ _ ((HG3.out _ hbn.out).1) (fun hHeld=>?_)
        clear hK K
        refine qn ?_
        exact zcc (by first | (simp only [zbN,Act.put,zA1,zA2,zA3]; done) | (simp only [zbN,Act.put,zA1,zA2,zA3]; rfl)) (hJ3_9 (Fm,fm,V.heap.size) _ ⟨(HG3.out _ hbn.out).1,K3.out.below hB,⟨hN,hbv.out.size⟩,hbn.out⟩)
     ·
      skip
      rintro⟨Fm,fm,g4⟩ V ⟨hHeld,kK3,kK9,hb⟩
      have K3:=Aside0.mk kK3
      have K9:=Aside0.mk kK9
      have hbv:=Aside0.mk hb
      clear hb kK3 kK9
      refine zcc (a':=?_) ?_ ?_
      rotate_left
      ·
       simp only [zbN,Act.put,zA1,zA2,zA3]
       rfl
      refine qoT 5 (some 75) (fun K hK=>?_)
      refine qg Try.func55 #[.agg #[.slice A0 s0.length c0,.slice Fm t0.length fm],.agg #[.slice A2 s0.length c2,.slice B2 t2.length e2]] ?_
      refine(HDM.out V Fm fm (HG3.out _ hbv.out).2.1 K3.out).mono ?_
      rintro e Vn ⟨D4a,m4a,D4b,m4b,rfl,hR,hB⟩
      refine⟨_,rfl,?_⟩
      have new:=hR.lower (HG3.out _ hbv.out).2.1.size
      have hbn:=Aside0.mk (zbp hbv.out hB)
      refine hK.out _ _ ((HG3.out _ hbn.out).1) (fun hHeld=>?_)
      clear hK K
      refine qn ?_
      refine qpT 6 (some 69) ?_
      refine qpT 7 (some 76) ?_
      refine qpT 8 (some 77) ?_
      exact zcc (by first | (simp only [zbN,Act.put,zA1,zA2,zA3]; done) | (simp only [zbN,Act.put,zA1,zA2,zA3]; rfl)) (hJ3_5_9 (Fm,fm,D4a,m4a,D4b,m4b,g4) _ ⟨(HG3.out _ hbn.out).1,K3.out.below hB,new,⟨zbt K9.out.1 hB,K9.out.2⟩,hbn.out⟩)
    ·
     skip
     rintro⟨Fm,fm,D4a,m4a,D4b,m4b⟩ V ⟨hHeld,kK3,kK5,hb⟩
     have K3:=Aside0.mk kK3
     have K5:=Aside0.mk kK5
     have hbv:=Aside0.mk hb
     clear hb kK3 kK5
     refine zcc (a':=?_) ?_ ?_
     rotate_left
     ·
      simp only [zbN,Act.put,zA1,zA2,zA3]
      rfl
     refine qoT 9 (some 15) (fun K hK=>?_)
     refine qv ?_
     have hB:Below V.heap.size V (V.alloc (.cells #[.bool false,.slice none 0 0,.slice none 0 0] 25 (0,0))):=zbq (Below.refl _ _) _
     have hN:=zbL V (.cells #[.bool false,.slice none 0 0,.slice none 0 0] 25 (0,0))
     have hbn:=Aside0.mk (zbp hbv.out hB)
     refine hK.out _ _ ((HG3.out _ hbn.out).1) (fun hHeld=>?_)
     clear hK K
     refine qn ?_
     exact zcc (by first | (simp only [zbN,Act.put,zA1,zA2,zA3]; done) | (simp only [zbN,Act.put,zA1,zA2,zA3]; rfl)) (hJ3_5_9 (Fm,fm,D4a,m4a,D4b,m4b,V.heap.size) _ ⟨(HG3.out _ hbn.out).1,K3.out.below hB,K5.out.below hB,⟨hN,hbv.out.size⟩,hbn.out⟩)
   rintro⟨Fm,fm,D4a,m4a,D4b,m4b,g4⟩ V ⟨hHeld,kK3,kK5,kK9,hb⟩
   have K3:=Aside0.mk kK3
   have K5:=Aside0.mk kK5
   have K9:=Aside0.mk kK9
   have hbv:=Aside0.mk hb
   clear hb kK3 kK5 kK9
   refine zcc (a':=?_) ?_ ?_
   rotate_left
   ·
    simp only [zbN,Act.put,zA1,zA2,zA3]
    rfl
   refine qlT 10 none (fun K hK=>?_)
   obtain⟨⟨z0,z1,z2⟩,z3,z4,z5⟩:=zbM K9.out.1
   refine qx ?_
   refine hK.out _ _ ?_
   clear hK K
   refine qpT 11 (some 16) ?_
   refine done_ (done_of HT_.out (by kernel_rfl)) ?_
   clear hHeld z0 z1 z2 z3 z4 z5
   rw [store3_eq]
   have hg9:=zb0 (K9.out.1) (.bool (zbJ (zcf t0 t1 X t0.length) t2 t0.length).1) (.slice D4a (dg B32 (zbJ (zcf t0 t1 X t0.length) t2 t0.length).2.1).length m4a) (.slice D4b (dg B32 (zbJ (zcf t0 t1 X t0.length) t2 t0.length).2.2).length m4b)
   have hq5:=(K5.out.store3 K9.out.1 (.bool (zbJ (zcf t0 t1 X t0.length) t2 t0.length).1) (.slice D4a (dg B32 (zbJ (zcf t0 t1 X t0.length) t2 t0.length).2.1).length m4a) (.slice D4b (dg B32 (zbJ (zcf t0 t1 X t0.length) t2 t0.length).2.2).length m4b))
   have hb8:Below V3.heap.size V3 (store3 V g4 (.bool (zbJ (zcf t0 t1 X t0.length) t2 t0.length).1) (.slice D4a (dg B32 (zbJ (zcf t0 t1 X t0.length) t2 t0.length).2.1).length m4a) (.slice D4b (dg B32 (zbJ (zcf t0 t1 X t0.length) t2 t0.length).2.2).length m4b)):=zbZ (hbv.out) K9.out.2 (.bool (zbJ (zcf t0 t1 X t0.length) t2 t0.length).1) (.slice D4a (dg B32 (zbJ (zcf t0 t1 X t0.length) t2 t0.length).2.1).length m4a) (.slice D4b (dg B32 (zbJ (zcf t0 t1 X t0.length) t2 t0.length).2.2).length m4b)
   generalize store3 V g4 (.bool (zbJ (zcf t0 t1 X t0.length) t2 t0.length).1) (.slice D4a (dg B32 (zbJ (zcf t0 t1 X t0.length) t2 t0.length).2.1).length m4a) (.slice D4b (dg B32 (zbJ (zcf t0 t1 X t0.length) t2 t0.length).2.2).length m4b)=V4 at hg9 hq5 hb8 ⊢
   clear hbv K3 K5 K9
   have hr:=hq5.nr (red_dotP _ _ _) HQ4.out
   have HG4:Aside0 (∀ w':World,Below V4.heap.size V4 w'→(w'.cell? ⟨w.heap.size,0,none⟩=some (.slice A0 s0.length c0)∧w'.cell? ⟨w.heap.size,1,none⟩=some (.slice B0 t0.length e0)∧w'.cell? ⟨w.heap.size+1,0,none⟩=some (.slice A1 s0.length c1)∧w'.cell? ⟨w.heap.size+1,1,none⟩=some (.slice B1 t1.length e1)∧w'.cell? ⟨w.heap.size+1+1,0,none⟩=some (.slice A2 s0.length c2)∧w'.cell? ⟨w.heap.size+1+1,1,none⟩=some (.slice B2 t2.length e2)∧w'.cell? ⟨w.heap.size+1+1+1,0,none⟩=some (.bool n)∧w'.cell? ⟨w.heap.size+1+1+1,1,none⟩=some (.slice P p.length pc)∧w'.cell? ⟨w.heap.size+1+1+1,2,none⟩=some (.slice Q q.length qc)∧w'.cell? ⟨g1,0,none⟩=some (.bool (zbJ t0 t2 t0.length).1)∧w'.cell? ⟨g1,1,none⟩=some (.slice D1a (dg B32 (zbJ t0 t2 t0.length).2.1).length m1a)∧w'.cell? ⟨g1,2,none⟩=some (.slice D1b (dg B32 (zbJ t0 t2 t0.length).2.2).length m1b)∧w'.cell? ⟨g2,0,none⟩=some (.bool (zbJ t2 t0 t2.length).1)∧w'.cell? ⟨g2,1,none⟩=some (.slice D2a (dg B32 (zbJ t2 t0 t2.length).2.1).length m2a)∧w'.cell? ⟨g2,2,none⟩=some (.slice D2b (dg B32 (zbJ t2 t0 t2.length).2.2).length m2b)∧w'.cell? ⟨g3,0,none⟩=some (.bool (zbJ t1 t2 t1.length).1)∧w'.cell? ⟨g3,1,none⟩=some (.slice D3a (dg B32 (zbJ t1 t2 t1.length).2.1).length m3a)∧w'.cell? ⟨g3,2,none⟩=some (.slice D3b (dg B32 (zbJ t1 t2 t1.length).2.2).length m3b)∧w'.cell? ⟨g4,0,none⟩=some (.bool (zbJ (zcf t0 t1 X t0.length) t2 t0.length).1)∧w'.cell? ⟨g4,1,none⟩=some (.slice D4a (dg B32 (zbJ (zcf t0 t1 X t0.length) t2 t0.length).2.1).length m4a)∧w'.cell? ⟨g4,2,none⟩=some (.slice D4b (dg B32 (zbJ (zcf t0 t1 X t0.length) t2 t0.length).2.2).length m4b))∧Below w.heap.size w w'∧NR w' (.agg #[.bool (zbJ t0 t2 t0.length).1,.slice D1a (dg B32 (zbJ t0 t2 t0.length).2.1).length m1a,.slice D1b (dg B32 (zbJ t0 t2 t0.length).2.2).length m1b]) (zbJ t0 t2 t0.length)∧NR w' (.agg #[.bool (zbJ t2 t0 t2.length).1,.slice D2a (dg B32 (zbJ t2 t0 t2.length).2.1).length m2a,.slice D2b (dg B32 (zbJ t2 t0 t2.length).2.2).length m2b]) (zbJ t2 t0 t2.length)∧NR w' (.agg #[.bool (zbJ t1 t2 t1.length).1,.slice D3a (dg B32 (zbJ t1 t2 t1.length).2.1).length m3a,.slice D3b (dg B32 (zbJ t1 t2 t1.length).2.2).length m3b]) (zbJ t1 t2 t1.length)∧NR w' (.agg #[.bool (zbJ (zcf t0 t1 X t0.length) t2 t0.length).1,.slice D4a (dg B32 (zbJ (zcf t0 t1 X t0.length) t2 t0.length).2.1).length m4a,.slice D4b (dg B32 (zbJ (zcf t0 t1 X t0.length) t2 t0.length).2.2).length m4b]) (zbJ (zcf t0 t1 X t0.length) t2 t0.length)):=⟨fun w' h=>by
    have ho:=HG3.out _ (zbp hb8 h)
    obtain⟨y0,y1,y2,y3,y4,y5,y6,y7,y8,y9,y10,y11,y12,y13,y14,y15,y16,y17⟩:=ho.1
    exact⟨⟨y0,y1,y2,y3,y4,y5,y6,y7,y8,y9,y10,y11,y12,y13,y14,y15,y16,y17,(zbu (zbt hg9 h) 0).trans rfl,(zbu (zbt hg9 h) 1).trans rfl,(zbu (zbt hg9 h) 2).trans rfl⟩,ho.2.1,ho.2.2.1,ho.2.2.2.1,ho.2.2.2.2,(hr).below h⟩⟩
   obtain⟨y0,y1,y2,y3,y4,y5,y6,y7,y8,y9,y10,y11,y12,y13,y14,y15,y16,y17,y18,y19,y20⟩:=(HG4.out _ (Below.refl _ _)).1
   clear hr hg9 hb8 hq5
   go_wp2_with fail
   clear y0 y1 y2 y3 y4 y5 y6 y7 y8 y9 y10 y11 y12 y13 y14 y15 y16 y17 y18 y19 y20
   refine(HD5.out _ (HG4.out _ (Below.refl _ _)).2.1).mono ?_
   rintro e U5 ⟨D5a,m5a,D5b,m5b,rfl,hR,hB⟩
   have hbA:=zbp (Below.refl _ _) hB
   have hr:=(hR.nr (red_dotP _ _ _) HQ5.out).below (zbq (Below.refl _ _) (.cells #[.bool (zbJ t0 t0 t0.length).1,.slice D5a (dg B32 (zbJ t0 t0 t0.length).2.1).length m5a,.slice D5b (dg B32 (zbJ t0 t0 t0.length).2.2).length m5b] 25 (0,0)))
   have hg:=zbL U5 (.cells #[.bool (zbJ t0 t0 t0.length).1,.slice D5a (dg B32 (zbJ t0 t0 t0.length).2.1).length m5a,.slice D5b (dg B32 (zbJ t0 t0 t0.length).2.2).length m5b] 25 (0,0))
   have hbB:=zbq hbA (.cells #[.bool (zbJ t0 t0 t0.length).1,.slice D5a (dg B32 (zbJ t0 t0 t0.length).2.1).length m5a,.slice D5b (dg B32 (zbJ t0 t0 t0.length).2.2).length m5b] 25 (0,0))
   obtain⟨y0,y1,y2,y3,y4,y5,y6,y7,y8,y9,y10,y11,y12,y13,y14,y15,y16,y17,y18,y19,y20⟩:=(HG4.out _ hbB).1
   clear hB hR hbA
   go_wp2_with fail
   clear y0 y1 y2 y3 y4 y5 y6 y7 y8 y9 y10 y11 y12 y13 y14 y15 y16 y17 y18 y19 y20
   generalize U5.alloc (.cells #[.bool (zbJ t0 t0 t0.length).1,.slice D5a (dg B32 (zbJ t0 t0 t0.length).2.1).length m5a,.slice D5b (dg B32 (zbJ t0 t0 t0.length).2.2).length m5b] 25 (0,0))=V5 at hr hg hbB ⊢
   generalize U5.heap.size=g5 at hg ⊢
   have HG5:Aside0 (∀ w':World,Below V5.heap.size V5 w'→(w'.cell? ⟨w.heap.size,0,none⟩=some (.slice A0 s0.length c0)∧w'.cell? ⟨w.heap.size,1,none⟩=some (.slice B0 t0.length e0)∧w'.cell? ⟨w.heap.size+1,0,none⟩=some (.slice A1 s0.length c1)∧w'.cell? ⟨w.heap.size+1,1,none⟩=some (.slice B1 t1.length e1)∧w'.cell? ⟨w.heap.size+1+1,0,none⟩=some (.slice A2 s0.length c2)∧w'.cell? ⟨w.heap.size+1+1,1,none⟩=some (.slice B2 t2.length e2)∧w'.cell? ⟨w.heap.size+1+1+1,0,none⟩=some (.bool n)∧w'.cell? ⟨w.heap.size+1+1+1,1,none⟩=some (.slice P p.length pc)∧w'.cell? ⟨w.heap.size+1+1+1,2,none⟩=some (.slice Q q.length qc)∧w'.cell? ⟨g1,0,none⟩=some (.bool (zbJ t0 t2 t0.length).1)∧w'.cell? ⟨g1,1,none⟩=some (.slice D1a (dg B32 (zbJ t0 t2 t0.length).2.1).length m1a)∧w'.cell? ⟨g1,2,none⟩=some (.slice D1b (dg B32 (zbJ t0 t2 t0.length).2.2).length m1b)∧w'.cell? ⟨g2,0,none⟩=some (.bool (zbJ t2 t0 t2.length).1)∧w'.cell? ⟨g2,1,none⟩=some (.slice D2a (dg B32 (zbJ t2 t0 t2.length).2.1).length m2a)∧w'.cell? ⟨g2,2,none⟩=some (.slice D2b (dg B32 (zbJ t2 t0 t2.length).2.2).length m2b)∧w'.cell? ⟨g3,0,none⟩=some (.bool (zbJ t1 t2 t1.length).1)∧w'.cell? ⟨g3,1,none⟩=some (.slice D3a (dg B32 (zbJ t1 t2 t1.length).2.1).length m3a)∧w'.cell? ⟨g3,2,none⟩=some (.slice D3b (dg B32 (zbJ t1 t2 t1.length).2.2).length m3b)∧w'.cell? ⟨g4,0,none⟩=some (.bool (zbJ (zcf t0 t1 X t0.length) t2 t0.length).1)∧w'.cell? ⟨g4,1,none⟩=some (.slice D4a (dg B32 (zbJ (zcf t0 t1 X t0.length) t2 t0.length).2.1).length m4a)∧w'.cell? ⟨g4,2,none⟩=some (.slice D4b (dg B32 (zbJ (zcf t0 t1 X t0.length) t2 t0.length).2.2).length m4b)∧w'.cell? ⟨g5,0,none⟩=some (.bool (zbJ t0 t0 t0.length).1)∧w'.cell? ⟨g5,1,none⟩=some (.slice D5a (dg B32 (zbJ t0 t0 t0.length).2.1).length m5a)∧w'.cell? ⟨g5,2,none⟩=some (.slice D5b (dg B32 (zbJ t0 t0 t0.length).2.2).length m5b))∧Below w.heap.size w w'∧NR w' (.agg #[.bool (zbJ t0 t2 t0.length).1,.slice D1a (dg B32 (zbJ t0 t2 t0.length).2.1).length m1a,.slice D1b (dg B32 (zbJ t0 t2 t0.length).2.2).length m1b]) (zbJ t0 t2 t0.length)∧NR w' (.agg #[.bool (zbJ t2 t0 t2.length).1,.slice D2a (dg B32 (zbJ t2 t0 t2.length).2.1).length m2a,.slice D2b (dg B32 (zbJ t2 t0 t2.length).2.2).length m2b]) (zbJ t2 t0 t2.length)∧NR w' (.agg #[.bool (zbJ t1 t2 t1.length).1,.slice D3a (dg B32 (zbJ t1 t2 t1.length).2.1).length m3a,.slice D3b (dg B32 (zbJ t1 t2 t1.length).2.2).length m3b]) (zbJ t1 t2 t1.length)∧NR w' (.agg #[.bool (zbJ (zcf t0 t1 X t0.length) t2 t0.length).1,.slice D4a (dg B32 (zbJ (zcf t0 t1 X t0.length) t2 t0.length).2.1).length m4a,.slice D4b (dg B32 (zbJ (zcf t0 t1 X t0.length) t2 t0.length).2.2).length m4b]) (zbJ (zcf t0 t1 X t0.length) t2 t0.length)∧NR w' (.agg #[.bool (zbJ t0 t0 t0.length).1,.slice D5a (dg B32 (zbJ t0 t0 t0.length).2.1).length m5a,.slice D5b (dg B32 (zbJ t0 t0 t0.length).2.2).length m5b]) (zbJ t0 t0 t0.length)):=⟨fun w' h=>by
    have ho:=HG4.out _ (zbp hbB h)
    obtain⟨y0,y1,y2,y3,y4,y5,y6,y7,y8,y9,y10,y11,y12,y13,y14,y15,y16,y17,y18,y19,y20⟩:=ho.1
    exact⟨⟨y0,y1,y2,y3,y4,y5,y6,y7,y8,y9,y10,y11,y12,y13,y14,y15,y16,y17,y18,y19,y20,(zbu (zbt hg h) 0).trans rfl,(zbu (zbt hg h) 1).trans rfl,(zbu (zbt hg h) 2).trans rfl⟩,ho.2.1,ho.2.2.1,ho.2.2.2.1,ho.2.2.2.2.1,ho.2.2.2.2.2,(hr).below h⟩⟩
   clear hr hg hbB
   go_loopw [19,20] (fun nv iv wr=>∃ i:Nat,iv=.int .i64 i∧i≤t0.length∧nv=.bool (decide (∀ j:Nat,j < i→(M.rd_T25 t0 (j:Int)).f1.length=0))∧wr=V5) (fun _ iv _=>t0.length-(intOf iv).toNat)
   case atStart=>exact⟨0,rfl,by omega,by simp,rfl⟩
   case round =>
    obtain⟨i,rfl,hi,rfl,rfl⟩:=hrel
    have hnl:=HNL.out
    obtain⟨y0,y1,y2,y3,y4,y5,y6,y7,y8,y9,y10,y11,y12,y13,y14,y15,y16,y17,y18,y19,y20,y21,y22,y23⟩:=(HG5.out _ (Below.refl _ _)).1
    by_cases hlt:i < t0.length
    ·
     skip
     obtain⟨ad,F1,f1,F2,f2,e,q0,q1,q2,l1,g1,l2,g2⟩:=M.at_T25 (Kd.C_below HC.out.1.2.1 (HG5.out _ (Below.refl _ _)).2.1) (i:Int) (by omega) (by omega)
     subst e
     rw [Int.toNat_natCast] at q0 q1 q2
     clear l1 g1 l2 g2
     by_cases hd:∀ j:Nat,j < i→(M.rd_T25 t0 (j:Int)).f1.length=0
     ·
      rw [decide_eq_true hd]
      have hn:((M.rd_T25 t0 (i:Int)).f1.length=0 ↔ ∀ j:Nat,j < i+1→(M.rd_T25 t0 (j:Int)).f1.length=0):=⟨fun h0 j hj=>by rcases Nat.lt_or_ge j i with h | h; exact hd j h; (obtain rfl:j=i:=by omega); exact h0,fun h0=>h0 i (by omega)⟩
      go_wp2
      go_roundw
      case rel=>exact⟨i+1,by go_num,by omega,by rw [← decide_eq_decide.2 hn,int_eq0],trivial⟩
      case measure=>simp [intOf]; omega
     ·
      rw [decide_eq_false hd]
      have hn:¬ ∀ j:Nat,j < i+1→(M.rd_T25 t0 (j:Int)).f1.length=0:=fun h0=>hd (fun j hj=>h0 j (by omega))
      go_wp2
      go_roundw
      case rel=>exact⟨i+1,by go_num,by omega,by rw [decide_eq_false hn],trivial⟩
      case measure=>simp [intOf]; omega
    ·
     obtain⟨nz,hnz⟩:∃ z,z=decide (∀ j:Nat,j < i→(M.rd_T25 t0 (j:Int)).f1.length=0):=⟨_,rfl⟩
     have hie:i=t0.length:=by omega
     rw [← hnz]
     rw [hie] at hnz
     have hsg:=sgn_self HK0.out
     rw [← hnz] at hsg
     obtain⟨sg,hs0⟩:∃ z,z=sgnQ (zbJ t0 t0 t0.length):=⟨_,rfl⟩
     have HSG:=Aside0.mk hs0
     rw [← hs0] at hsg
     obtain⟨hs1,hs2⟩:=hsg
     clear hs0 hnz hie
     go_wp2_with fail
     clear hlt hi y0 y1 y2 y3 y4 y5 y6 y7 y8 y9 y10 y11 y12 y13 y14 y15 y16 y17 y18 y19 y20 y21 y22 y23
     refine start_ (n:=48) (S:=fun w'=>(w'.cell? ⟨w.heap.size,0,none⟩=some (.slice A0 s0.length c0)∧w'.cell? ⟨w.heap.size,1,none⟩=some (.slice B0 t0.length e0)∧w'.cell? ⟨w.heap.size+1,0,none⟩=some (.slice A1 s0.length c1)∧w'.cell? ⟨w.heap.size+1,1,none⟩=some (.slice B1 t1.length e1)∧w'.cell? ⟨w.heap.size+1+1,0,none⟩=some (.slice A2 s0.length c2)∧w'.cell? ⟨w.heap.size+1+1,1,none⟩=some (.slice B2 t2.length e2)∧w'.cell? ⟨w.heap.size+1+1+1,0,none⟩=some (.bool n)∧w'.cell? ⟨w.heap.size+1+1+1,1,none⟩=some (.slice P p.length pc)∧w'.cell? ⟨w.heap.size+1+1+1,2,none⟩=some (.slice Q q.length qc)∧w'.cell? ⟨g1,0,none⟩=some (.bool (zbJ t0 t2 t0.length).1)∧w'.cell? ⟨g1,1,none⟩=some (.slice D1a (dg B32 (zbJ t0 t2 t0.length).2.1).length m1a)∧w'.cell? ⟨g1,2,none⟩=some (.slice D1b (dg B32 (zbJ t0 t2 t0.length).2.2).length m1b)∧w'.cell? ⟨g2,0,none⟩=some (.bool (zbJ t2 t0 t2.length).1)∧w'.cell? ⟨g2,1,none⟩=some (.slice D2a (dg B32 (zbJ t2 t0 t2.length).2.1).length m2a)∧w'.cell? ⟨g2,2,none⟩=some (.slice D2b (dg B32 (zbJ t2 t0 t2.length).2.2).length m2b)∧w'.cell? ⟨g3,0,none⟩=some (.bool (zbJ t1 t2 t1.length).1)∧w'.cell? ⟨g3,1,none⟩=some (.slice D3a (dg B32 (zbJ t1 t2 t1.length).2.1).length m3a)∧w'.cell? ⟨g3,2,none⟩=some (.slice D3b (dg B32 (zbJ t1 t2 t1.length).2.2).length m3b)∧w'.cell? ⟨g4,0,none⟩=some (.bool (zbJ (zcf t0 t1 X t0.length) t2 t0.length).1)∧w'.cell? ⟨g4,1,none⟩=some (.slice D4a (dg B32 (zbJ (zcf t0 t1 X t0.length) t2 t0.length).2.1).length m4a)∧w'.cell? ⟨g4,2,none⟩=some (.slice D4b (dg B32 (zbJ (zcf t0 t1 X t0.length) t2 t0.length).2.2).length m4b)∧w'.cell? ⟨g5,0,none⟩=some (.bool (zbJ t0 t0 t0.length).1)∧w'.cell? ⟨g5,1,none⟩=some (.slice D5a (dg B32 (zbJ t0 t0 t0.length).2.1).length m5a)∧w'.cell? ⟨g5,2,none⟩=some (.slice D5b (dg B32 (zbJ t0 t0 t0.length).2.2).length m5b))) (ds:=[]) #[zf,zf,zf,zf,zf,zf,zf,zf,zf,zf,zf,zf,zf,zf,zf,zf,zf,zf,zf,zf,zf,zf,zf,zf,zf,zf,zf,zf,zf,zf,zf,zf,zf,zf,zf,zf,zf,zf,zf,zf,zf,zf,zf,zf,zf,zf,zf,zf] (by kernel_rfl) rfl rfl ((HG5.out _ (zbv (Below.refl _ _))).1) (fun hHeld=>?_)
     refine with_tabW tensorLinear.tab13 tensorLinear.bits13 (fun HT_ HW_=>?_)
     have hb0:=Aside0.mk (show Below wr.heap.size wr wr.drew from zbv (Below.refl _ _))
     generalize wr.drew=V0 at hb0 hHeld ⊢
     refine qpT 0 (some 102) ?_
     refine qpT 1 (some 103) ?_
     refine qpT 2 (some 104) ?_
     refine qpT 3 (some 105) ?_
     refine qpT 4 (some 106) ?_
     refine qpT 5 (some 107) ?_
     refine qpT 6 (some 108) ?_
     refine qpT 7 (some 109) ?_
     refine qpT 8 (some 110) ?_
     refine qpT 9 (some 111) ?_
     refine qpT 10 (some 112) ?_
     refine qpT 11 (some 113) ?_
     refine qpT 12 (some 114) ?_
     refine qpT 13 (some 115) ?_
     refine qpT 14 (some 116) ?_
     refine qpT 15 (some 117) ?_
     refine qpT 16 (some 118) ?_
     refine qpT 17 (some 119) ?_
     refine qpT 18 (some 120) ?_
     refine qtT 19 (some 121) ?_
     refine qtT 20 (some 122) ?_
     refine qoT 21 (some 123) (fun K hK=>?_)
     refine qg Try.func57 #[.agg #[.bool (zbJ t0 t2 t0.length).1,.slice D1a (dg B32 (zbJ t0 t2 t0.length).2.1).length m1a,.slice D1b (dg B32 (zbJ t0 t2 t0.length).2.2).length m1b],.agg #[.bool (zbJ t2 t0 t2.length).1,.slice D2a (dg B32 (zbJ t2 t0 t2.length).2.1).length m2a,.slice D2b (dg B32 (zbJ t2 t0 t2.length).2.2).length m2b]] ?_
     refine(ref_same_n (HG5.out _ hb0.out).2.2.1 (NR.cast (HG5.out _ hb0.out).2.2.2.1 ((dot_comm _ _ _).trans (by rw [HN2.out])))).mono ?_
     rintro e V1 ⟨rfl,hB⟩
     refine⟨_,rfl,?_⟩
     have hb1:=Aside0.mk (zbp hb0.out hB)
     clear hB hb0
     refine hK.out _ _ ((HG5.out _ hb1.out).1) (fun hHeld=>?_)
     clear hK K
     refine qn ?_
     refine qpT 22 (some 124) ?_
     refine qpT 23 (some 125) ?_
     refine qtT 24 (some 126) ?_
     refine qtT 25 (some 127) ?_
     refine qtT 26 (some 128) ?_
     refine qtT 27 (some 129) ?_
     refine qoT 28 (some 130) (fun K hK=>?_)
     refine qg Try.func35 #[.agg #[.bool n,.slice P p.length pc,.slice Q q.length qc],.agg #[.bool (zbJ t1 t2 t1.length).1,.slice D3a (dg B32 (zbJ t1 t2 t1.length).2.1).length m3a,.slice D3b (dg B32 (zbJ t1 t2 t1.length).2.2).length m3b]] ?_
     refine(mul_n (HN.out V1 (HG5.out _ hb1.out).2.1) (HG5.out _ hb1.out).2.2.2.2.1).mono ?_
     rintro e V2 ⟨r1,rfl,hR,hB⟩
     refine⟨_,rfl,?_⟩
     have HP:=Aside0.mk (hR.nr (nrm_red _ _ _) (by rw [HN1.out]; exact HLO.out.1))
     have hb2:=Aside0.mk (zbp hb1.out hB)
     clear hB hb1 hR
     refine hK.out _ _ ((HG5.out _ hb2.out).1) (fun hHeld=>?_)
     clear hK K
     refine qn ?_
     refine qoT 29 (some 131) (fun K hK=>?_)
     refine qg Try.func31 #[.agg #[.bool (zbJ t0 t2 t0.length).1,.slice D1a (dg B32 (zbJ t0 t2 t0.length).2.1).length m1a,.slice D1b (dg B32 (zbJ t0 t2 t0.length).2.2).length m1b],r1] ?_
     refine(add_n (HG5.out _ hb2.out).2.2.1 HP.out).mono ?_
     rintro e V3 ⟨r2,rfl,hR,hB⟩
     refine⟨_,rfl,?_⟩
     clear HP
     have HS:=Aside0.mk (hR.nr (red_add _ _) (by rw [HN1.out]; exact HLO.out.2))
     have hb3:=Aside0.mk (zbp hb2.out hB)
     clear hB hb2 hR
     refine hK.out _ _ ((HG5.out _ hb3.out).1) (fun hHeld=>?_)
     clear hK K
     refine qn ?_
     refine qoT 30 (some 132) (fun K hK=>?_)
     refine qg Try.func57 #[.agg #[.bool (zbJ (zcf t0 t1 X t0.length) t2 t0.length).1,.slice D4a (dg B32 (zbJ (zcf t0 t1 X t0.length) t2 t0.length).2.1).length m4a,.slice D4b (dg B32 (zbJ (zcf t0 t1 X t0.length) t2 t0.length).2.2).length m4b],r2] ?_
     refine(ref_same_n (NR.cast (HG5.out _ hb3.out).2.2.2.2.2.1 (dot_mix HRK.out _ (fun i hi=>eN_mix hi))) (by have h:=HS.out; rw [HN1.out] at h; exact h)).mono ?_
     rintro e V4 ⟨rfl,hB⟩
     refine⟨_,rfl,?_⟩
     clear HS
     have hb4:=Aside0.mk (zbp hb3.out hB)
     clear hB hb3
     refine hK.out _ _ ((HG5.out _ hb4.out).1) (fun hHeld=>?_)
     clear hK K
     refine qn ?_
     refine qpT 31 (some 133) ?_
     refine qpT 32 (some 134) ?_
     refine qpT 36 (some 138) ?_
     refine qtT 33 (some 135) ?_
     refine qoT 34 (some 136) (fun K hK=>?_)
     refine qg Try.func41 #[.agg #[.bool (zbJ t0 t0 t0.length).1,.slice D5a (dg B32 (zbJ t0 t0 t0.length).2.1).length m5a,.slice D5b (dg B32 (zbJ t0 t0 t0.length).2.2).length m5b]] ?_
     refine(sign_n (HG5.out _ hb4.out).2.2.2.2.2.2).mono ?_
     rw [← HSG.out]
     rintro e V5 ⟨rfl,hB⟩
     refine⟨_,rfl,?_⟩
     have hb5:=Aside0.mk (zbp hb4.out hB)
     clear hB hb4
     refine hK.out _ _ ((HG5.out _ hb5.out).1) (fun hHeld=>?_)
     clear hK K
     refine qn ?_
     refine qpT 35 (some 137) ?_
     refine qpT 37 (some 139) ?_
     refine qpT 38 (some 140) ?_
     refine qpT 39 (some 141) ?_
     refine qtT 40 (some 142) ?_
     refine qoT 41 (some 143) (fun K hK=>?_)
     refine qg Try.func41 #[.agg #[.bool (zbJ t0 t0 t0.length).1,.slice D5a (dg B32 (zbJ t0 t0 t0.length).2.1).length m5a,.slice D5b (dg B32 (zbJ t0 t0 t0.length).2.2).length m5b]] ?_
     refine(sign_n (HG5.out _ hb5.out).2.2.2.2.2.2).mono ?_
     rw [← HSG.out]
     rintro e V6 ⟨rfl,hB⟩
     refine⟨_,rfl,?_⟩
     have hb6:=Aside0.mk (zbp hb5.out hB)
     clear hB hb5
     refine hK.out _ _ ((HG5.out _ hb6.out).1) (fun hHeld=>?_)
     clear hK K
     refine qn ?_
     refine qpT 42 (some 144) ?_
     refine qpT 43 (some 145) ?_
     refine qpT 44 (some 146) ?_
     refine qoT 45 (some 147) (fun K hK=>?_)
     refine qg Try.func53 #[] ?_
     refine(tknown_n V6).mono ?_
     rintro e V7 ⟨rfl,hB⟩
     refine⟨_,rfl,?_⟩
     have hb7:=Aside0.mk (zbp hb6.out hB)
     clear hB hb6
     refine hK.out _ _ ((HG5.out _ hb7.out).1) (fun hHeld=>?_)
     clear hK K
     refine qn ?_
     refine qpT 46 (some 148) ?_
     refine qpT 47 (some 8) ?_
     refine done_ (done_of HT_.out (by kernel_rfl)) ?_
     clear hHeld
     go_wp2
     go_ret
     exact⟨rfl,(HG5.out _ hb7.out).2.1⟩
theorem tensorLinear_q (A0:Option Addr) (c0:Nat) (s0:List Int) (B0:Option Addr) (e0:Nat) (t0:List M.S25) (A1:Option Addr) (c1:Nat) (s1:List Int) (B1:Option Addr) (e1:Nat) (t1:List M.S25) (A2:Option Addr) (c2:Nat) (s2:List Int) (B2:Option Addr) (e2:Nat) (t2:List M.S25) (n:Bool) (P:Option Addr) (pc:Nat) (p:List Int) (Q:Option Addr) (qc:Nat) (q:List Int) (w:World) (hr0:Kd.C (Kd.int .i64) w A0 s0.length s0) (hc0:s0.length≤c0) (hl0:s0.length≤1048576) (hs0:Kd.C M.k25 w B0 t0.length t0) (he0:t0.length≤e0) (hm0:t0.length≤1048576) (ho0:∀ x∈t0,eOk x∧x.f1.length≤1048576∧x.f2.length≤1048576) (hr1:Kd.C (Kd.int .i64) w A1 s1.length s1) (hc1:s1.length≤c1) (hl1:s1.length≤1048576) (hs1:Kd.C M.k25 w B1 t1.length t1) (he1:t1.length≤e1) (hm1:t1.length≤1048576) (ho1:∀ x∈t1,eOk x∧x.f1.length≤1048576∧x.f2.length≤1048576) (hr2:Kd.C (Kd.int .i64) w A2 s2.length s2) (hc2:s2.length≤c2) (hl2:s2.length≤1048576) (hs2:Kd.C M.k25 w B2 t2.length t2) (he2:t2.length≤e2) (hm2:t2.length≤1048576) (ho2:∀ x∈t2,eOk x∧x.f1.length≤1048576∧x.f2.length≤1048576)
  (hr3:Kd.C (Kd.int .u32) w P p.length p) (hc3:p.length≤pc) (ho3:ok B32 p) (hlr3:p.length≤1048576) (hs3:Kd.C (Kd.int .u32) w Q q.length q) (he3:q.length≤qc) (hp3:ok B32 q) (hls3:q.length≤1048576) :
  Calls Try.prog 13 #[.agg #[.slice A0 s0.length c0,.slice B0 t0.length e0],.agg #[.slice A1 s1.length c1,.slice B1 t1.length e1],.agg #[.slice A2 s2.length c2,.slice B2 t2.length e2],.agg #[.bool n,.slice P p.length pc,.slice Q q.length qc]] w fun e w'=>e=.returned (.bool true)∧Below w.heap.size w w' :=
 tensorLinear_q0 (by decide) (Nat.le_refl _) A0 c0 s0 B0 e0 t0 A1 c1 s1 B1 e1 t1 A2 c2 s2 B2 e2 t2 n P pc p Q qc q w hr0 hc0 hl0 hs0 he0 hm0 ho0 hr1 hc1 hl1 hs1 he1 hm1 ho1 hr2 hc2 hl2 hs2 he2 hm2 ho2 hr3 hc3 ho3 hlr3 hs3 he3 hp3 hls3
end Go.Proofs.Ytehghijlchpeaaa.Nat1
end
