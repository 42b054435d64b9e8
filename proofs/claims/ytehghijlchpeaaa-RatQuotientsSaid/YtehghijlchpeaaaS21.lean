/- Part 2 of the proof of ratQuotients_holds: what it uses, in build order. -/
import Derived.Test.YtehghijlchpeaaaS20
import Derived.ArgAppend
import Derived.Below
import Derived.BigQuiet
import Derived.Deep.AppendLies
import Derived.Deep.CutBlock
import Derived.Deep.DeepCutAuto
import Derived.Deep.Draws
import Derived.Deep.LoopGhost
import Derived.Deep.OwnRows
import Derived.Deep.QuietTactic
import Derived.Deep.RegionHeld3
import Derived.KernelRfl
import Derived.Laws.BitsLemmas
import Derived.Laws.BytesArg
import Derived.Laws.IdiomCopy
import Derived.Laws.MakeOwn
import Derived.Laws.OwnMore
import Derived.Laws.Rows
import Derived.Laws.Slices
import Derived.Laws.StructEq
import Derived.Lib.AppendStr
import Derived.Lib.ConvBytes
import Derived.Maps.AppendAt
import Derived.OrdersHeld
import Derived.OwnWalk
import Derived.RowKit
import Derived.RowKit3
import Derived.Tactics
import Derived.Test.YtehghijlchpeaaaProg
import Derived.WalkKit
import Derived.WideLaws
section
namespace Go.Proofs.Ytehghijlchpeaaa.L
open Go.RowKit Go.Proofs.YtehghijlchpeaaaW.PrintWords Go.Proofs.YtehghijlchpeaaaW.PrintLast Go.Proofs.YtehghijlchpeaaaW.PrintMore
set_option linter.unusedVariables false
set_option linter.unusedSimpArgs false
theorem at_L2 {w:World} {A:Option Addr} {n:Nat} {xs:List (List Int)} (h:Kd.C (Kd.slice 63 (Kd.int .u32)) w A n xs) (i:Int) (h0:0≤i) (h1:i < n):∃ ad A0 c0,A=some ad∧w.cell? (ad.add i.toNat)=some (.slice A0 (rd_L2 xs i).length c0)∧(rd_L2 xs i).length≤c0∧(Kd.int .u32).C w A0 (rd_L2 xs i).length (rd_L2 xs i):=by
 obtain⟨ad,c,e,_,hK,hc0⟩:=Kd.C_get h ([]:List Int) i h0 h1
 have hc:∀ j u,c[j]? = some u→w.cell? (ad.add (i.toNat*1+j))=some u:=hc0
 obtain⟨A0,c0,rfl,l0,g0⟩:=hK
 exact⟨ad,A0,c0,e,by have hq:=hc 0 _ rfl; rwa [Nat.mul_one,Nat.add_zero] at hq,l0,g0⟩
end Go.Proofs.Ytehghijlchpeaaa.L
end
section
namespace Go.Proofs.Ytehghijlchpeaaa.L
open Go.RowKit Go.Proofs.YtehghijlchpeaaaW.PrintWords Go.Proofs.YtehghijlchpeaaaW.PrintLast Go.Proofs.YtehghijlchpeaaaW.PrintMore
set_option linter.unusedVariables false
set_option linter.unusedSimpArgs false
def fluxionref03_Of.T1:Bool×List (List Nat×List Nat):=(true,[([],[]),([0],[0]),([],[]),([2],[2]),([3],[3]),([],[]),([5],[5]),([6,4],[6]),([1,4,7,7],[1,4,7]),([8,8,0,1,2,3,4,5,6,7,8],[8])])
theorem fluxionref03_Of.tab1:rtab .any (opsOf Try.f21 1)=fluxionref03_Of.T1:=by kernel_rfl
theorem fluxionref03_Of.bits1:waitsOk fluxionref03_Of.T1.2 fluxionref03_Of.B1=true:=by kernel_rfl
set_option maxHeartbeats 8000000 in
set_option maxRecDepth 100000 in
theorem fluxionref03_Of.calls (k:Nat) (a0_0:Bool) (A0_1:Option Addr) (c0_1:Nat) (l0_1:List Int) (A0_2:Option Addr) (c0_2:Nat) (l0_2:List Int) (r1:Bool) (r2:List Int) (r3:List Int) (w:World) (hr0_1:Kd.C (Kd.int .u32) w A0_1 l0_1.length l0_1) (hc0_1:l0_1.length≤c0_1) (hr0_2:Kd.C (Kd.int .u32) w A0_2 l0_2.length l0_2) (hc0_2:l0_2.length≤c0_2) (h:fluxionref03_Of.f k a0_0 l0_1 l0_2=some (r1,r2,r3)) :
  Calls Try.prog 21 #[.agg #[.bool a0_0,.slice A0_1 l0_1.length c0_1,.slice A0_2 l0_2.length c0_2]] w fun e w'=>∃ v1_ v2_:Value,e=.returned (.agg #[.bool r1,v1_,v2_])∧Kd.R (Kd.int .i64) 3 w' w.heap.size (fun k_=>some k_≠(v2_:Value).ownBlock) v1_ r2∧Kd.R (Kd.int .i64) 3 w' w.heap.size (fun k_=>some k_≠(v1_:Value).ownBlock) v2_ r3∧Below w.heap.size w w':=by
 have hu25:=Try.underlying25
 have hu36:=Try.underlying36
 have HR0_1:=Aside0.mk hr0_1
 have HC0_1:=Aside0.mk hc0_1
 clear hr0_1 hc0_1
 have HR0_2:=Aside0.mk hr0_2
 have HC0_2:=Aside0.mk hc0_2
 clear hr0_2 hc0_2
 have HB:=Aside0.mk (Below.refl w.heap.size w)
 have H:((fluxionref01_Of.f k l0_1).bind fun t249=>((fluxionref01_Of.f k l0_2).bind fun t252=>((fluxionref03_Make.f k a0_0 t249 t252).bind fun bt255=>(some (bt255.1,bt255.2.1,bt255.2.2)))))=some (r1,r2,r3):=h
 clear h
 replace H:=Option.bind_eq_some_iff.mp H
 obtain⟨t249,A20,H⟩:=H
 replace H:((fluxionref01_Of.f k l0_2).bind fun t252=>((fluxionref03_Make.f k a0_0 t249 t252).bind fun bt255=>(some (bt255.1,bt255.2.1,bt255.2.2))))=some (r1,r2,r3):=H
 have A2:=Aside0.mk A20
 clear A20
 replace H:=Option.bind_eq_some_iff.mp H
 obtain⟨t252,A30,H⟩:=H
 replace H:((fluxionref03_Make.f k a0_0 t249 t252).bind fun bt255=>(some (bt255.1,bt255.2.1,bt255.2.2)))=some (r1,r2,r3):=H
 have A3:=Aside0.mk A30
 clear A30
 replace H:=Option.bind_eq_some_iff.mp H
 obtain⟨⟨t255,t256,t259⟩,A40,H⟩:=H
 replace H:(some (t255,t256,t259))=some (r1,r2,r3):=H
 have A4:=Aside0.mk A40
 clear A40
 simp only [Option.some.injEq,Prod.mk.injEq] at H
 obtain⟨rfl,rfl,rfl⟩:=H
 go_enter Try.func21,Try.ntmps21
 try go_wp2_with (first | ((with_reducible refine zav (N:=1) rfl ?_); refine zax ?hg (N:=1) ?hd (cs:=#[.bool a0_0,.slice A0_1 l0_1.length c0_1,.slice A0_2 l0_2.length c0_2]) (t:=25) ?hr ?_; (case hd=>rfl); (case hg=>rfl); (case hr=>first | (go_simp; done) | (go_simp; rfl)); intro gb247 hg w5 hbox hb; have n0_:=Aside0.mk (zag (by repeat (first | (with_reducible first | exact HB.out | apply zab | apply zaa | apply zac) | exact HB.out)) hb); have n1_:=Aside0.mk (hbox); have n2_:=Aside0.mk ((by rw [hg]; exact(zaj (by repeat (first | (with_reducible first | exact HB.out | apply zab | apply zaa | apply zac) | exact HB.out))):w.heap.size≤gb247)); have n3_:=Aside0.mk ((by rw [hg]; exact(zaj (by repeat (first | (with_reducible first | exact HB.out | apply zab | apply zaa | apply zac) | exact HB.out))):w.heap.size≤gb247)); clear HB; have HB:=n0_; have BK247:=n1_; have GW247:=n2_; have GE247:=n3_; clear n0_ n1_ n2_ n3_; clear hb hbox hg) | ((with_reducible refine zav (N:=2) rfl ?_); refine zax ?hg (N:=2) ?hd (cs:=#[.bool false,.slice none 0 0,.slice none 0 0]) (t:=36) ?hr ?_; (case hd=>rfl); (case hg=>rfl); (case hr=>first | (go_simp; done) | (go_simp; rfl)); intro gb248 hg w6 hbox hb; have n0_:=Aside0.mk (zal (g:=gb247) (o:=.cells #[.bool a0_0,.slice A0_1 l0_1.length c0_1,.slice A0_2 l0_2.length c0_2] 25 (0,0)) (by (with_reducible repeat (first | refine zaf ?_ _ | refine zah ?_ | refine zae ?_ _)); exact BK247.out) hb); have n1_:=Aside0.mk (zag (by repeat (first | (with_reducible first | exact HB.out | apply zab | apply zaa | apply zac | refine zad ?_ GE247.out) | exact HB.out)) hb); have n2_:=Aside0.mk (hbox); have n3_:=Aside0.mk ((by rw [hg]; exact(zaj (by repeat (first | (with_reducible first | exact HB.out | apply zab | apply zaa | apply zac | refine zad ?_ GE247.out) | exact HB.out))):w.heap.size≤gb248)); have n4_:=Aside0.mk ((by rw [hg]; exact(zaj (by repeat (first | (with_reducible first | exact HB.out | apply zab | apply zaa | apply zac | refine zad ?_ GE247.out) | exact HB.out))):w.heap.size≤gb248)); have n5_:=Aside0.mk ((by rw [hg]; exact Nat.ne_of_lt (zaD (g:=gb247) (o:=.cells #[.bool a0_0,.slice A0_1 l0_1.length c0_1,.slice A0_2 l0_2.length c0_2] 25 (0,0)) (by (with_reducible repeat (first | refine zaf ?_ _ | refine zah ?_ | refine zae ?_ _)); exact BK247.out)):gb247≠gb248)); have n6_:=Aside0.mk ((by rw [hg]; exact Nat.ne_of_gt (zaD (g:=gb247) (o:=.cells #[.bool a0_0,.slice A0_1 l0_1.length c0_1,.slice A0_2 l0_2.length c0_2] 25 (0,0)) (by (with_reducible repeat (first | refine zaf ?_ _ | refine zah ?_ | refine zae ?_ _)); exact BK247.out)):gb248≠gb247)); clear BK247; clear HB; have BK247:=n0_; have HB:=n1_; have BK248:=n2_; have GW248:=n3_; have GE248:=n4_; have NB247_248:=n5_; have NB248_247:=n6_; clear n0_ n1_ n2_ n3_ n4_ n5_ n6_; clear hb hbox hg))
 have n0_:=Aside0.mk (zah BK247.out)
 have n1_:=Aside0.mk (zah BK248.out)
 have n2_:=Aside0.mk (zac HB.out)
 clear BK247
 clear BK248
 clear HB
 have BK247:=n0_
 have BK248:=n1_
 have HB:=n2_
 clear n0_ n1_ n2_
 refine start_ (n:=10) (S:=fun w'=>w'.cell? ⟨gb247,0,none⟩=some (.bool a0_0)∧w'.cell? ⟨gb247,1,none⟩=some (.slice A0_1 l0_1.length c0_1)∧w'.cell? ⟨gb247,2,none⟩=some (.slice A0_2 l0_2.length c0_2)) (ds:=[]) #[false,false,false,false,false,false,false,false,false,false] (by kernel_rfl) rfl rfl ⟨(zai BK247.out 0).trans rfl,(zai BK247.out 1).trans rfl,(zai BK247.out 2).trans rfl⟩ (fun hHeld=>?_); refine with_tabW fluxionref03_Of.tab1 fluxionref03_Of.bits1 (fun HT_ HW_=>?_)
 generalize w6.drew=w7 at BK247 BK248 HB hHeld ⊢
 refine zaA (i:=0) (N:=some 3) (v:=?_) (a':=?_) #[true,false,false,false,false,false,false,false,false,false] rfl rfl (zay HT_.out (by kernel_rfl)) (fun _ _ _ h=>h) (Or.inl ⟨by rfl,?_⟩) ?_ ?_
 rotate_left
 ·
  intro w'
  go_simp
  with_reducible rfl
 rotate_left
 ·
  simp only [Act.put,List.setIfInBounds_toArray,List.set_cons_zero,List.set_cons_succ,zaq,zar]
  rfl
 refine zaA (i:=2) (N:=some 5) (v:=?_) (a':=?_) #[true,false,true,false,false,false,false,false,false,false] rfl rfl (zay HT_.out (by kernel_rfl)) (fun _ _ _ h=>h) (Or.inl ⟨by rfl,?_⟩) ?_ ?_
 rotate_left
 ·
  intro w'
  go_simp
  with_reducible rfl
 rotate_left
 ·
  simp only [Act.put,List.setIfInBounds_toArray,List.set_cons_zero,List.set_cons_succ,zaq,zar]
  rfl
 refine zaA (i:=5) (N:=some 8) (v:=?_) (a':=?_) #[true,false,true,false,false,true,false,false,false,false] rfl rfl (zay HT_.out (by kernel_rfl)) (fun _ _ _ h=>h) (Or.inl ⟨by rfl,?_⟩) ?_ ?_
 rotate_left
 ·
  intro w'
  go_simp
  with_reducible rfl
 rotate_left
 ·
  simp only [Act.put,List.setIfInBounds_toArray,List.set_cons_zero,List.set_cons_succ,zaq,zar]
  rfl
 refine take_ (i:=1) (N:=some 4) (v:=?_) (a':=?_) #[true,true,true,false,false,true,false,false,false,false] rfl rfl (zaQ HT_.out HW_.out (by kernel_rfl)) (fun _ _ _ h=>h) (Or.inl ⟨by rfl,?_⟩) hHeld ?_ ?_
 rotate_left
 ·
  rintro w' ⟨s0,s1,s2⟩
  go_simp
  with_reducible rfl
 rotate_left
 ·
  simp only [Act.put,List.setIfInBounds_toArray,List.set_cons_zero,List.set_cons_succ,zaq,zar]
  rfl
 refine take_ (i:=3) (N:=some 6) (v:=?_) (a':=?_) #[true,true,true,true,false,true,false,false,false,false] rfl rfl (zaQ HT_.out HW_.out (by kernel_rfl)) (fun _ _ _ h=>h) (Or.inl ⟨by rfl,?_⟩) hHeld ?_ ?_
 rotate_left
 ·
  rintro w' ⟨s0,s1,s2⟩
  go_simp
  with_reducible rfl
 rotate_left
 ·
  simp only [Act.put,List.setIfInBounds_toArray,List.set_cons_zero,List.set_cons_succ,zaq,zar]
  rfl
 refine take_ (i:=6) (N:=some 9) (v:=?_) (a':=?_) #[true,true,true,true,false,true,true,false,false,false] rfl rfl (zaQ HT_.out HW_.out (by kernel_rfl)) (fun _ _ _ h=>h) (Or.inl ⟨by rfl,?_⟩) hHeld ?_ ?_
 rotate_left
 ·
  rintro w' ⟨s0,s1,s2⟩
  go_simp
  with_reducible rfl
 rotate_left
 ·
  simp only [Act.put,List.setIfInBounds_toArray,List.set_cons_zero,List.set_cons_succ,zaq,zar]
  rfl
 refine one_ (i:=4) (N:=some 7) #[true,true,true,true,true,true,true,false,false,false] rfl rfl (zaO HT_.out (by kernel_rfl)) (by decide) (fun K hK=>?_)
 refine za7 Try.func24 (by kernel_rfl) rfl #[.slice A0_1 l0_1.length c0_1] (by rfl) rfl rfl (by (try simp only [List.map_toArray,List.map_cons,List.map_nil]); first | done | rfl | (simp only [List.length_drop,List.length_take]; rfl)) ?_
 with_reducible refine(fluxionref01_Of.calls k _ _ l0_1 t249 _ ?side1 ?side2 A2.out).mono ?_
 (case side1=>repeat (first | exact(Kd.C_below HR0_1.out HB.out) | (with_reducible refine Kd.C_alloc ?_ _) | (with_reducible refine Kd.C_drewN ?_ _) | (with_reducible refine Kd.C_drew ?_)))
 (case side2=>exact HC0_1.out)
 rintro e w8 ⟨v250,rfl,ho0,hb⟩
 refine⟨_,rfl,?_⟩
 have n0_:=Aside0.mk (Kd.R_lower ho0 (zaj (by repeat (first | (with_reducible first | exact HB.out | apply zab | apply zaa | apply zac | refine zad ?_ GE247.out | refine zad ?_ GE248.out) | exact HB.out))))
 have n1_:=Aside0.mk (zal (g:=gb247) (o:=.cells #[.bool a0_0,.slice A0_1 l0_1.length c0_1,.slice A0_2 l0_2.length c0_2] 25 (0,0)) (by (with_reducible repeat (first | refine zaf ?_ _ | refine zah ?_ | refine zae ?_ _)); exact BK247.out) hb)
 have n2_:=Aside0.mk (zal (g:=gb248) (o:=.cells #[.bool false,.slice none 0 0,.slice none 0 0] 36 (0,0)) (by (with_reducible repeat (first | refine zaf ?_ _ | refine zah ?_ | refine zae ?_ _)); exact BK248.out) hb)
 have n3_:=Aside0.mk (zag (by repeat (first | (with_reducible first | exact HB.out | apply zab | apply zaa | apply zac | refine zad ?_ GE247.out | refine zad ?_ GE248.out) | exact HB.out)) hb)
 clear BK247
 clear BK248
 clear HB
 have HO251:=n0_
 have BK247:=n1_
 have BK248:=n2_
 have HB:=n3_
 clear n0_ n1_ n2_ n3_
 (try clear hb)
 (try clear hb2)
 (try clear hk)
 (try clear hi)
 (try clear ho0)
 refine hK.out _ _ ⟨(zai BK247.out 0).trans rfl,(zai BK247.out 1).trans rfl,(zai BK247.out 2).trans rfl⟩ (fun hHeld=>?_)
 clear hK K
 refine zaS (a':=?_) ?_ ?_
 rotate_left
 ·
  show Act.put _ (some 7) _=_
  simp only [Act.put,List.setIfInBounds_toArray,List.set_cons_zero,List.set_cons_succ,zaq,zar]
  rfl
 refine one_ (i:=7) (N:=some 10) #[true,true,true,true,true,true,true,true,false,false] rfl rfl (zaO HT_.out (by kernel_rfl)) (by decide) (fun K hK=>?_)
 refine za7 Try.func24 (by kernel_rfl) rfl #[.slice A0_2 l0_2.length c0_2] (by rfl) rfl rfl (by (try simp only [List.map_toArray,List.map_cons,List.map_nil]); first | done | rfl | (simp only [List.length_drop,List.length_take]; rfl)) ?_
 with_reducible refine(fluxionref01_Of.calls k _ _ l0_2 t252 _ ?side1 ?side2 A3.out).mono ?_
 (case side1=>repeat (first | exact(Kd.C_below HR0_2.out HB.out) | (with_reducible refine Kd.C_alloc ?_ _) | (with_reducible refine Kd.C_drewN ?_ _) | (with_reducible refine Kd.C_drew ?_)))
 (case side2=>exact HC0_2.out)
 rintro e w9 ⟨v253,rfl,ho0,hb⟩
 refine⟨_,rfl,?_⟩
 have n0_:=Aside0.mk (Kd.R_elder' (by (with_reducible repeat (first | apply Kd.R_alloc | apply Kd.R_drewN | apply Kd.R_drew)); exact HO251.out) (Kd.R_base ho0) hb)
 have n1_:=Aside0.mk (Kd.R_lower (Kd.R_new' ho0 (Kd.R_lt (by (with_reducible repeat (first | apply Kd.R_alloc | apply Kd.R_drewN | apply Kd.R_drew)); exact HO251.out))) (zaj (by repeat (first | (with_reducible first | exact HB.out | apply zab | apply zaa | apply zac | refine zad ?_ GE247.out | refine zad ?_ GE248.out) | exact HB.out))))
 have n2_:=Aside0.mk (zal (g:=gb247) (o:=.cells #[.bool a0_0,.slice A0_1 l0_1.length c0_1,.slice A0_2 l0_2.length c0_2] 25 (0,0)) (by (with_reducible repeat (first | refine zaf ?_ _ | refine zah ?_ | refine zae ?_ _)); exact BK247.out) hb)
 have n3_:=Aside0.mk (zal (g:=gb248) (o:=.cells #[.bool false,.slice none 0 0,.slice none 0 0] 36 (0,0)) (by (with_reducible repeat (first | refine zaf ?_ _ | refine zah ?_ | refine zae ?_ _)); exact BK248.out) hb)
 have n4_:=Aside0.mk (zag (by repeat (first | (with_reducible first | exact HB.out | apply zab | apply zaa | apply zac | refine zad ?_ GE247.out | refine zad ?_ GE248.out) | exact HB.out)) hb)
 clear HO251
 clear BK247
 clear BK248
 clear HB
 have HO251:=n0_
 have HO254:=n1_
 have BK247:=n2_
 have BK248:=n3_
 have HB:=n4_
 clear n0_ n1_ n2_ n3_ n4_
 (try clear hb)
 (try clear hb2)
 (try clear hk)
 (try clear hi)
 (try clear ho0)
 obtain⟨Ao10,co10,eo10⟩:=Kd.R_slice HO251.out
 (first | subst eo10 | (injection eo10 with f1_ f2_ f3_; have f4_:=f1_.symm; have f5_:=f3_.symm; clear f1_ f2_ f3_; subst f4_; subst f5_))
 obtain⟨Ao11,co11,eo11⟩:=Kd.R_slice HO254.out
 (first | subst eo11 | (injection eo11 with f1_ f2_ f3_; have f4_:=f1_.symm; have f5_:=f3_.symm; clear f1_ f2_ f3_; subst f4_; subst f5_))
 refine hK.out _ _ ⟨(zai BK247.out 0).trans rfl,(zai BK247.out 1).trans rfl,(zai BK247.out 2).trans rfl⟩ (fun hHeld=>?_)
 clear hK K
 refine zaS (a':=?_) ?_ ?_
 rotate_left
 ·
  show Act.put _ (some 10) _=_
  simp only [Act.put,List.setIfInBounds_toArray,List.set_cons_zero,List.set_cons_succ,zaq,zar]
  rfl
 refine one_ (i:=8) (N:=some 11) #[true,true,true,true,true,true,true,true,true,false] rfl rfl (zaO HT_.out (by kernel_rfl)) (by decide) (fun K hK=>?_)
 refine za7 Try.func25 (by kernel_rfl) rfl #[.bool a0_0,.slice Ao10 t249.length co10,.slice Ao11 t252.length co11] (by rfl) rfl rfl (by (try simp only [List.map_toArray,List.map_cons,List.map_nil]); first | done | rfl | (simp only [List.length_drop,List.length_take]; rfl)) ?_
 with_reducible refine(fluxionref03_Make.calls k a0_0 _ _ t249 _ _ t252 t255 t256 t259 _ ?side1 ?side2 ?side3 ?side4 A4.out).mono ?_
 (case side1=>repeat (first | exact(Kd.R_reads' HO251.out).2.2 | (with_reducible refine Kd.C_alloc ?_ _) | (with_reducible refine Kd.C_drewN ?_ _) | (with_reducible refine Kd.C_drew ?_)))
 (case side2=>exact(Kd.R_reads' HO251.out).2.1)
 (case side3=>repeat (first | exact(Kd.R_reads' HO254.out).2.2 | (with_reducible refine Kd.C_alloc ?_ _) | (with_reducible refine Kd.C_drewN ?_ _) | (with_reducible refine Kd.C_drew ?_)))
 (case side4=>exact(Kd.R_reads' HO254.out).2.1)
 rintro e w12 ⟨v257,v260,rfl,ho0,ho1,hb⟩
 refine⟨_,rfl,?_⟩
 have n0_:=Aside0.mk (Kd.R_mono (Kd.R_told (Kd.R_told (Kd.R_old (by (with_reducible repeat (first | apply Kd.R_alloc | apply Kd.R_drewN | apply Kd.R_drew)); exact HO251.out) hb) (Kd.R_base ho0)) (Kd.R_base ho1)) (fun _ h_=>h_.1))
 have n1_:=Aside0.mk (Kd.R_mono (Kd.R_told (Kd.R_told (Kd.R_old (by (with_reducible repeat (first | apply Kd.R_alloc | apply Kd.R_drewN | apply Kd.R_drew)); exact HO254.out) hb) (Kd.R_base ho0)) (Kd.R_base ho1)) (fun _ h_=>h_.1))
 have n2_:=Aside0.mk (Kd.R_lower (Kd.R_new' (Kd.R_new' ho0 (Kd.R_lt (by (with_reducible repeat (first | apply Kd.R_alloc | apply Kd.R_drewN | apply Kd.R_drew)); exact HO251.out))) (Kd.R_lt (by (with_reducible repeat (first | apply Kd.R_alloc | apply Kd.R_drewN | apply Kd.R_drew)); exact HO254.out))) (zaj (by repeat (first | (with_reducible first | exact HB.out | apply zab | apply zaa | apply zac | refine zad ?_ GE247.out | refine zad ?_ GE248.out) | exact HB.out))))
 have n3_:=Aside0.mk (Kd.R_lower (Kd.R_new' (Kd.R_new' ho1 (Kd.R_lt (by (with_reducible repeat (first | apply Kd.R_alloc | apply Kd.R_drewN | apply Kd.R_drew)); exact HO251.out))) (Kd.R_lt (by (with_reducible repeat (first | apply Kd.R_alloc | apply Kd.R_drewN | apply Kd.R_drew)); exact HO254.out))) (zaj (by repeat (first | (with_reducible first | exact HB.out | apply zab | apply zaa | apply zac | refine zad ?_ GE247.out | refine zad ?_ GE248.out) | exact HB.out))))
 have n4_:=Aside0.mk (zal (g:=gb247) (o:=.cells #[.bool a0_0,.slice A0_1 l0_1.length c0_1,.slice A0_2 l0_2.length c0_2] 25 (0,0)) (by (with_reducible repeat (first | refine zaf ?_ _ | refine zah ?_ | refine zae ?_ _)); exact BK247.out) hb)
 have n5_:=Aside0.mk (zal (g:=gb248) (o:=.cells #[.bool false,.slice none 0 0,.slice none 0 0] 36 (0,0)) (by (with_reducible repeat (first | refine zaf ?_ _ | refine zah ?_ | refine zae ?_ _)); exact BK248.out) hb)
 have n6_:=Aside0.mk (zag (by repeat (first | (with_reducible first | exact HB.out | apply zab | apply zaa | apply zac | refine zad ?_ GE247.out | refine zad ?_ GE248.out) | exact HB.out)) hb)
 clear HO251
 clear HO254
 clear BK247
 clear BK248
 clear HB
 have HO251:=n0_
 have HO254:=n1_
 have HO258:=n2_
 have HO261:=n3_
 have BK247:=n4_
 have BK248:=n5_
 have HB:=n6_
 clear n0_ n1_ n2_ n3_ n4_ n5_ n6_
 (try clear hb)
 (try clear hb2)
 (try clear hk)
 (try clear hi)
 (try clear ho0)
 (try clear ho1)
 obtain⟨Ao14,co14,eo14⟩:=Kd.R_slice HO258.out
 (first | subst eo14 | (injection eo14 with f1_ f2_ f3_; have f4_:=f1_.symm; have f5_:=f3_.symm; clear f1_ f2_ f3_; subst f4_; subst f5_))
 obtain⟨Ao16,co16,eo16⟩:=Kd.R_slice HO261.out
 (first | subst eo16 | (injection eo16 with f1_ f2_ f3_; have f4_:=f1_.symm; have f5_:=f3_.symm; clear f1_ f2_ f3_; subst f4_; subst f5_))
 refine hK.out _ _ ⟨(zai BK247.out 0).trans rfl,(zai BK247.out 1).trans rfl,(zai BK247.out 2).trans rfl⟩ (fun hHeld=>?_)
 clear hK K
 refine zaS (a':=?_) ?_ ?_
 rotate_left
 ·
  show Act.put _ (some 11) _=_
  simp only [Act.put,List.setIfInBounds_toArray,List.set_cons_zero,List.set_cons_succ,zaq,zar]
  rfl
 refine one_ (i:=9) (N:=none) #[true,true,true,true,true,true,true,true,true,true] rfl rfl (zaO HT_.out (by kernel_rfl)) (by decide) (fun K hK=>?_)
 have hs13:w12.cell? ⟨gb248,0,none⟩=some (.bool false):=(zai BK248.out 0).trans rfl
 have hfs13:=zak BK248.out 0
 have hns13_0:=NB247_248.out
 have hms13_0:=NB248_247.out
 have hs15:w12.cell? ⟨gb248,1,none⟩=some (.slice none 0 0):=(zai BK248.out 1).trans rfl
 have hfs15:=zak BK248.out 1
 have hns15_0:=NB247_248.out
 have hms15_0:=NB248_247.out
 have hs17:w12.cell? ⟨gb248,2,none⟩=some (.slice none 0 0):=(zai BK248.out 2).trans rfl
 have hfs17:=zak BK248.out 2
 have hns17_0:=NB247_248.out
 have hms17_0:=NB248_247.out
 refine skip_ (w1:=?_) (by rfl) rfl ?_ ?_
 rotate_left
 ·
  go_simp
  rfl
 refine hK.out _ _ ⟨((cell_far (p:=⟨gb248,_,none⟩) NB247_248.out _).trans (((cell_far (p:=⟨gb248,_,none⟩) NB247_248.out _).trans (((cell_far (p:=⟨gb248,_,none⟩) NB247_248.out _).trans (hHeld.1)))))),((cell_far (p:=⟨gb248,_,none⟩) NB247_248.out _).trans (((cell_far (p:=⟨gb248,_,none⟩) NB247_248.out _).trans (((cell_far (p:=⟨gb248,_,none⟩) NB247_248.out _).trans (hHeld.2.1)))))),((cell_far (p:=⟨gb248,_,none⟩) NB247_248.out _).trans (((cell_far (p:=⟨gb248,_,none⟩) NB247_248.out _).trans (((cell_far (p:=⟨gb248,_,none⟩) NB247_248.out _).trans (hHeld.2.2))))))⟩ (fun hHeld=>?_)
 clear hK K
 refine done_ (done_of HT_.out (by kernel_rfl)) ?_
 try go_wp2
 refine bodyPost_ret (results_cell_row rfl _ _ gb248 36 #[.bool t255,.slice Ao14 t256.length co14,.slice Ao16 t259.length co16] (0,0) _ rfl (by (with_reducible repeat (first | refine zaf ?_ _ | refine zah ?_ | refine zae ?_ _)); refine zau (cs:=#[.bool t255,.slice Ao14 t256.length co14,.slice none 0 0]) ?_ 2 _ rfl; (with_reducible repeat (first | refine zaf ?_ _ | refine zah ?_ | refine zae ?_ _)); refine zau (cs:=#[.bool t255,.slice none 0 0,.slice none 0 0]) ?_ 1 _ rfl; (with_reducible repeat (first | refine zaf ?_ _ | refine zah ?_ | refine zae ?_ _)); refine zau (cs:=#[.bool false,.slice none 0 0,.slice none 0 0]) ?_ 0 _ rfl; (with_reducible repeat (first | refine zaf ?_ _ | refine zah ?_ | refine zae ?_ _)); exact BK248.out) Try.underlying36 rfl (by kernel_rfl)) rfl ?_
 exact⟨_,_,by first | rfl | (simp [zan,zao]<;>rfl) | (simp [*,zan,zao]<;>rfl),by (with_reducible repeat (first | apply Kd.R_alloc | apply Kd.R_drewN | apply Kd.R_drew)); exact Kd.R_mono (Kd.R_far (p:=⟨gb248,2,none⟩) (Kd.R_far (p:=⟨gb248,1,none⟩) (Kd.R_far (p:=⟨gb248,0,none⟩) (Kd.R_types HO258.out BK248.out (by decide)) (fun _ hk=>hk.2) (.bool t255)) (fun _ hk=>hk.2) (.slice Ao14 t256.length co14)) (fun _ hk=>hk.2) (.slice Ao16 t259.length co16)) (fun _ hk=>hk.1.1.1),by (with_reducible repeat (first | apply Kd.R_alloc | apply Kd.R_drewN | apply Kd.R_drew)); exact Kd.R_mono (Kd.R_far (p:=⟨gb248,2,none⟩) (Kd.R_far (p:=⟨gb248,1,none⟩) (Kd.R_far (p:=⟨gb248,0,none⟩) (Kd.R_types HO261.out BK248.out (by decide)) (fun _ hk=>hk.2) (.bool t255)) (fun _ hk=>hk.2) (.slice Ao14 t256.length co14)) (fun _ hk=>hk.2) (.slice Ao16 t259.length co16)) (fun _ hk=>hk.1.1.1),by repeat (first | (with_reducible first | exact HB.out | apply zab | apply zaa | apply zac | refine zad ?_ GE247.out | refine zad ?_ GE248.out) | exact HB.out)⟩
set_option maxHeartbeats 8000000 in
set_option maxRecDepth 100000 in
theorem fluxionref03_Zero.calls (a0_0:Bool) (A0_1:Option Addr) (c0_1:Nat) (l0_1:List Int) (A0_2:Option Addr) (c0_2:Nat) (l0_2:List Int) (r:Bool) (w:World) (hr0_1:Kd.C (Kd.int .i64) w A0_1 l0_1.length l0_1) (hc0_1:l0_1.length≤c0_1) (hr0_2:Kd.C (Kd.int .i64) w A0_2 l0_2.length l0_2) (hc0_2:l0_2.length≤c0_2) (h:fluxionref03_Zero.f a0_0 l0_1 l0_2=some r) :
  Calls Try.prog 79 #[.agg #[.bool a0_0,.slice A0_1 l0_1.length c0_1,.slice A0_2 l0_2.length c0_2]] w fun e w'=>e=.returned (.bool r)∧Below w.heap.size w w':=by
 have hu36:=Try.underlying36
 have HR0_1:=Aside0.mk hr0_1
 have HC0_1:=Aside0.mk hc0_1
 clear hr0_1 hc0_1
 have HR0_2:=Aside0.mk hr0_2
 have HC0_2:=Aside0.mk hc0_2
 clear hr0_2 hc0_2
 have HB:=Aside0.mk (Below.refl w.heap.size w)
 have H:(some ((l0_1.length:Int) == 0))=some r:=h
 clear h
 obtain rfl:=Option.some.inj H
 go_enter Try.func79,Try.ntmps79
 go_wp2_with (first | ((with_reducible refine zav (N:=1) rfl ?_); refine zax ?hg (N:=1) ?hd (cs:=#[.bool a0_0,.slice A0_1 l0_1.length c0_1,.slice A0_2 l0_2.length c0_2]) (t:=36) ?hr ?_; (case hd=>rfl); (case hg=>rfl); (case hr=>first | (go_simp; done) | (go_simp; rfl)); intro gb309 hg w2 hbox hb; have n0_:=Aside0.mk (zag (by repeat (first | (with_reducible first | exact HB.out | apply zab | apply zaa | apply zac) | exact HB.out)) hb); have n1_:=Aside0.mk (hbox); have n2_:=Aside0.mk ((by rw [hg]; exact(zaj (by repeat (first | (with_reducible first | exact HB.out | apply zab | apply zaa | apply zac) | exact HB.out))):w.heap.size≤gb309)); have n3_:=Aside0.mk ((by rw [hg]; exact(zaj (by repeat (first | (with_reducible first | exact HB.out | apply zab | apply zaa | apply zac) | exact HB.out))):w.heap.size≤gb309)); clear HB; have HB:=n0_; have BK309:=n1_; have GW309:=n2_; have GE309:=n3_; clear n0_ n1_ n2_ n3_; clear hb hbox hg; have hcz3_0:w2.cell? ⟨gb309,0,none⟩=some (.bool a0_0):=(zai BK309.out 0).trans rfl; have hcz3_1:w2.cell? ⟨gb309,1,none⟩=some (.slice A0_1 l0_1.length c0_1):=(zai BK309.out 1).trans rfl; have hcz3_2:w2.cell? ⟨gb309,2,none⟩=some (.slice A0_2 l0_2.length c0_2):=(zai BK309.out 2).trans rfl; have hfz3_0:=zak BK309.out 0; have hfz3_1:=zak BK309.out 1; have hfz3_2:=zak BK309.out 2))
 go_ret
 exact⟨by first | rfl | (simp [zan,zao]<;>rfl) | (simp [*,zan,zao]<;>rfl),by repeat (first | (with_reducible first | exact HB.out | apply zab | apply zaa | apply zac | refine zad ?_ GE309.out) | exact HB.out)⟩
end Go.Proofs.Ytehghijlchpeaaa.L
end
section
namespace Go.Proofs.Ytehghijlchpeaaa.L
open Go.RowKit Go.Proofs.YtehghijlchpeaaaW.PrintWords Go.Proofs.YtehghijlchpeaaaW.PrintLast Go.Proofs.YtehghijlchpeaaaW.PrintMore
set_option linter.unusedVariables false
set_option linter.unusedSimpArgs false
set_option maxHeartbeats 8000000 in
set_option maxRecDepth 100000 in
theorem fluxionref01_Mul.calls (k:Nat) (A0:Option Addr) (c0:Nat) (l0:List Int) (A1:Option Addr) (c1:Nat) (l1:List Int) (r:List Int) (w:World) (hr0:Kd.C (Kd.int .i64) w A0 l0.length l0) (hc0:l0.length≤c0) (hr1:Kd.C (Kd.int .i64) w A1 l1.length l1) (hc1:l1.length≤c1) (h:fluxionref01_Mul.f k l0 l1=some r) :
  Calls Try.prog 73 #[.slice A0 l0.length c0,.slice A1 l1.length c1] w fun e w'=>∃ v0_:Value,e=.returned (v0_)∧Kd.R (Kd.int .i64) 3 w' w.heap.size (fun _=>True) v0_ r∧Below w.heap.size w w':=by
 have HR0:=Aside0.mk hr0
 have HC0:=Aside0.mk hc0
 clear hr0 hc0
 have HR1:=Aside0.mk hr1
 have HC1:=Aside0.mk hc1
 clear hr1 hc1
 have HB:=Aside0.mk (Below.refl w.heap.size w)
 have H:(fluxionref01_Mul.l0 k l0 l1 ([]:List Int) (wrap64 ((l1.length:Int)-1)))=some r:=h
 clear h
 have H':=Aside0.mk H
 clear H
 go_enter Try.func73,Try.ntmps73
 go_wp2
 go_loopg [5,6] k (fun kq v5 v6 w'=>∃ (x5_1:List Int) (x6_1:Int),v6=.int .i64 x6_1∧Aside0 (fluxionref01_Mul.l0 kq l0 l1 x5_1 x6_1=some r)∧Aside0 (kq≤k)∧Aside0 (Kd.R (Kd.int .i64) 3 w' w.heap.size (fun _=>True) v5 x5_1)∧Aside0 (Below w.heap.size w w'))
 case atStart=>exact⟨(([]:List Int)),(wrap64 ((l1.length:Int)-1)),(by first | rfl | (simp; done) | (simp [*]; done)),H',⟨Nat.le_refl _⟩,⟨by first | exact Kd.R_nil _ _ _ _ _ | exact Kd.N_nil _ _ _ _ _ | exact Kd.V_nil _ _ _ _ _ | exact Kd.Q_nil _ _ _ _ _ | exact Kd.S_nil _ _ _ _ _⟩,⟨by repeat (first | (with_reducible first | exact HB.out | apply zab | apply zaa | apply zac) | exact HB.out)⟩⟩
 case round =>
  clear H'
  try clear c1
  try clear p2
  obtain⟨x5_1,x6_1,rfl,HA,HK1,HO_5,HB⟩:=hrel
  cases gk with
  | zero=>exact absurd HA.out (by simp [fluxionref01_Mul.l0])
  | succ k1 =>
   have H:=HA.out
   clear HA
   simp only [fluxionref01_Mul.l0] at H
   by_cases c3:x6_1 ≥ 0
   ·
    rw [if_pos c3] at H
    have c3b0:decide (0≤x6_1)=true:=decide_eq_true c3
    clear c3
    by_cases c4:(x5_1.length:Int) > 0
    ·
     rw [if_pos c4] at H
     have c4b0:decide (0 < (x5_1.length:Int))=true:=decide_eq_true c4
     have c4b1:decide (0 < x5_1.length)=true:=decide_eq_true (by omega)
     clear c4
     obtain⟨y313,hy313⟩:∃ y_:List Int,y_=(([0]:List Int)):=⟨_,rfl⟩
     replace H:(if y313.length+x5_1.length < 17592186044416 then (if 0≤x6_1 then (if x6_1 < (l1.length:Int) then ((fluxionref01_Times.f k1 l0 (rd l1 x6_1)).bind fun t320=>((fluxionref01_Add.f k1 (y313++x5_1) t320).bind fun t323=>(fluxionref01_Mul.l0 k1 l0 l1 t323 (wrap64 (x6_1-1))))) else (none)) else (none)) else (none))=some r:=by first | (rw [hy313]; with_reducible exact H) | (have H2_:=(Option.bind_some _ _).symm.trans H; rw [hy313]; with_reducible exact H2_) | (have H2_:=(Option.bind_some _ _).symm.trans H; with_reducible exact H2_) | with_reducible exact H | (rw [hy313]; exact H) | exact H
     have Ny313:=Aside0.mk hy313
     clear hy313
     by_cases c5:y313.length+x5_1.length < 17592186044416
     ·
      rw [if_pos c5] at H
      have LMc5:=Aside0.mk c5
      clear c5
      obtain⟨y316,hy316⟩:∃ y_:List Int,y_=(y313++x5_1):=⟨_,rfl⟩
      replace H:(if 0≤x6_1 then (if x6_1 < (l1.length:Int) then ((fluxionref01_Times.f k1 l0 (rd l1 x6_1)).bind fun t320=>((fluxionref01_Add.f k1 y316 t320).bind fun t323=>(fluxionref01_Mul.l0 k1 l0 l1 t323 (wrap64 (x6_1-1))))) else (none)) else (none))=some r:=by first | (rw [hy316]; with_reducible exact H) | (have H2_:=(Option.bind_some _ _).symm.trans H; rw [hy316]; with_reducible exact H2_) | (have H2_:=(Option.bind_some _ _).symm.trans H; with_reducible exact H2_) | with_reducible exact H | (rw [hy316]; exact H) | exact H
      have Ny316:=Aside0.mk hy316
      clear hy316
      by_cases c6:0≤x6_1
      ·
       rw [if_pos c6] at H
       have c6b0:decide (0≤x6_1)=true:=decide_eq_true c6
       clear c6
       by_cases c7:x6_1 < (l1.length:Int)
       ·
        rw [if_pos c7] at H
        have c7b0:decide (x6_1 < (l1.length:Int))=true:=decide_eq_true c7
        clear c7
        replace H:=Option.bind_eq_some_iff.mp H
        obtain⟨t320,A80,H⟩:=H
        replace H:((fluxionref01_Add.f k1 y316 t320).bind fun t323=>(fluxionref01_Mul.l0 k1 l0 l1 t323 (wrap64 (x6_1-1))))=some r:=H
        have A8:=Aside0.mk A80
        clear A80
        replace H:=Option.bind_eq_some_iff.mp H
        obtain⟨t323,A90,H⟩:=H
        replace H:(fluxionref01_Mul.l0 k1 l0 l1 t323 (wrap64 (x6_1-1)))=some r:=H
        have A9:=Aside0.mk A90
        clear A90
        have H':=Aside0.mk H
        clear H
        obtain⟨Ao10,co10,eo10⟩:=Kd.R_slice HO_5.out
        subst eo10
        go_wp2_with (first | ((with_reducible refine zav (N:=18) rfl ?_); refine Kd.R_lit (Kd.int .i64) _ 3 ?hg (N:=18) ?hd (xs:=([0]:List Int)) (inner:=[.int .i64 0]) (ok:=fun _=>True) (okp:=fun _=>True) ?hr ?hp (fun _ hk=>hk) trivial (Below.refl _ _) (Nat.le_refl _) (by simp) ?_; (case hd=>rfl); (case hg=>rfl); (case hr=>first | (go_simp; done) | (go_simp; rfl)); (case hp=>exact(za2.one (show Kd.M (Kd.int .i64) _ _ _ 0 [.int .i64 0] from rfl) (za2.none _ _))); intro v314 w11 ho12 hb hg_ hnew_; clear hg_ hnew_; (first | rw [← Ny313.out] at ho12 | (simp only [Int.reduceToNat] at ho12; rw [← Ny313.out] at ho12)); have n0_:=Aside0.mk (Kd.R_elder' (by (with_reducible repeat (first | apply Kd.R_alloc | apply Kd.R_drewN | apply Kd.R_drew)); exact HO_5.out) (Kd.R_base ho12) hb); have n1_:=Aside0.mk (Kd.R_lower (Kd.R_new' ho12 (Kd.R_lt (by (with_reducible repeat (first | apply Kd.R_alloc | apply Kd.R_drewN | apply Kd.R_drew)); exact HO_5.out))) (zaj (by repeat (first | (with_reducible first | exact HB.out | apply zab | apply zaa | apply zac) | exact HB.out)))); have n2_:=Aside0.mk (zag (by repeat (first | (with_reducible first | exact HB.out | apply zab | apply zaa | apply zac) | exact HB.out)) hb); clear HO_5; clear HB; have HO_5:=n0_; have HO315:=n1_; have HB:=n2_; clear n0_ n1_ n2_; clear hb ho12) | ((with_reducible refine zaI (b:=.append) (xs:=#[.tmp 18,.tmp 19]) rfl ?_); at_builtin; refine Kd.R_append_rows (Kd.int .i64) (w0:=w) w.heap.size rfl (.tmp 18) (.tmp 19) 34 3 (.int .i64 0) 8 rfl Try.underlying34 info3 rfl (by decide) (by omega) v314 y313 x5_1 _ _ _ (fun k_=>some k_≠(.slice Ao10 x5_1.length co10:Value).ownBlock) (fun _=>False) rfl rfl ?aO ?aR (fun _ _ h=>h) (fun _ h=>h.elim) ?aF ?aB ?aS ?aL ?_; (case aR=>repeat (first | exact(Kd.R_reads' HO_5.out).2.2 | (with_reducible refine Kd.C_alloc ?_ _) | (with_reducible refine Kd.C_drewN ?_ _) | (with_reducible refine Kd.C_drew ?_))); (case aB=>exact(by repeat (first | (with_reducible first | exact HB.out | apply zab | apply zaa | apply zac) | exact HB.out))); (case aF=>exact(fun k_ hk=>Kd.fresh' (Kd.R_lt (by (with_reducible repeat (first | apply Kd.R_alloc | apply Kd.R_drewN | apply Kd.R_drew)); exact HO_5.out)) k_ hk)); (case aO=>exact(by (with_reducible repeat (first | apply Kd.R_alloc | apply Kd.R_drewN | apply Kd.R_drew)); exact Kd.R_mono HO315.out (fun _ hk=>hk.2))); (case aS=>exact(zaj (by repeat (first | (with_reducible first | exact HB.out | apply zab | apply zaa | apply zac) | exact HB.out)))); (case aL=>have:=LMc5.out; omega); intro v317 w13 ho hb hg hat; rw [← Ny316.out] at ho; have n0_:=Aside0.mk (Kd.R_after (ok:=(fun _=>True)) (by (with_reducible repeat (first | apply Kd.R_alloc | apply Kd.R_drewN | apply Kd.R_drew)); exact HO_5.out) hg hat); have n1_:=Aside0.mk (hb); have n2_:=Aside0.mk (ho); clear HO_5; clear HB; clear HO315; have HO_5:=n0_; have HB:=n1_; have HO318:=n2_; clear n0_ n1_ n2_; clear ho hb hg hat; have p319:0≤(x6_1:Int):=of_decide_eq_true (by first | (with_reducible assumption) | assumption); have q319:x6_1 < (l1.length:Int):=of_decide_eq_true (by first | (with_reducible assumption) | assumption); obtain⟨ad319,e319,hx319_0⟩:=Kd.at_int HR1.out x6_1 p319 q319; cases e319; replace hx319_0:=(HB.out.cell (World.block_lt_of_cell? w _ hx319_0)).trans hx319_0; replace p319:=eq_true p319; replace q319:=eq_true q319) | ((with_reducible refine zap (f:=67) rfl ?_); refine zaC (some 27) rfl rfl Try.func67 (by kernel_rfl) rfl #[.slice A0 l0.length c0,.int .i64 (rd l1 x6_1)] rfl (by (try simp only [List.map_toArray,List.map_cons,List.map_nil]); first | done | rfl | (simp only [List.length_drop,List.length_take]; rfl)) ?_; (with_reducible refine(fluxionref01_Times.calls k1 _ _ l0 (rd l1 x6_1) t320 _ ?side1 ?side2 A8.out).mono ?_); (case side1=>repeat (first | exact(Kd.C_below HR0.out HB.out) | (with_reducible refine Kd.C_alloc ?_ _) | (with_reducible refine Kd.C_drewN ?_ _) | (with_reducible refine Kd.C_drew ?_))); (case side2=>exact HC0.out); rintro e w14 ⟨v321,rfl,ho0,hb⟩; refine⟨_,rfl,?_⟩; have n0_:=Aside0.mk (Kd.R_elder' (by (with_reducible repeat (first | apply Kd.R_alloc | apply Kd.R_drewN | apply Kd.R_drew)); exact HO_5.out) (Kd.R_base ho0) hb); have n1_:=Aside0.mk (Kd.R_elder' (by (with_reducible repeat (first | apply Kd.R_alloc | apply Kd.R_drewN | apply Kd.R_drew)); exact HO318.out) (Kd.R_base ho0) hb); have n2_:=Aside0.mk (Kd.R_lower (Kd.R_new' (Kd.R_new' ho0 (Kd.R_lt (by (with_reducible repeat (first | apply Kd.R_alloc | apply Kd.R_drewN | apply Kd.R_drew)); exact HO_5.out))) (Kd.R_lt (by (with_reducible repeat (first | apply Kd.R_alloc | apply Kd.R_drewN | apply Kd.R_drew)); exact HO318.out))) (zaj (by repeat (first | (with_reducible first | exact HB.out | apply zab | apply zaa | apply zac) | exact HB.out)))); have n3_:=Aside0.mk (zag (by repeat (first | (with_reducible first | exact HB.out | apply zab | apply zaa | apply zac) | exact HB.out)) hb); clear HO_5; clear HO318; clear HB; have HO_5:=n0_; have HO318:=n1_; have HO322:=n2_; have HB:=n3_; clear n0_ n1_ n2_ n3_; (try clear hb); (try clear hb2); (try clear hk); (try clear hi); (try clear ho0); obtain⟨Ao15,co15,eo15⟩:=Kd.R_slice HO318.out; subst eo15; obtain⟨Ao16,co16,eo16⟩:=Kd.R_slice HO322.out; subst eo16) | ((with_reducible refine zap (f:=66) rfl ?_); refine zaC (some 28) rfl rfl Try.func66 (by kernel_rfl) rfl #[.slice Ao15 y316.length co15,.slice Ao16 t320.length co16] rfl (by (try simp only [List.map_toArray,List.map_cons,List.map_nil]); first | done | rfl | (simp only [List.length_drop,List.length_take]; rfl)) ?_; (with_reducible refine(fluxionref01_Add.calls k1 _ _ y316 _ _ t320 t323 _ ?side1 ?side2 ?side3 ?side4 A9.out).mono ?_); (case side1=>repeat (first | exact(Kd.R_reads' HO318.out).2.2 | (with_reducible refine Kd.C_alloc ?_ _) | (with_reducible refine Kd.C_drewN ?_ _) | (with_reducible refine Kd.C_drew ?_))); (case side2=>exact(Kd.R_reads' HO318.out).2.1); (case side3=>repeat (first | exact(Kd.R_reads' HO322.out).2.2 | (with_reducible refine Kd.C_alloc ?_ _) | (with_reducible refine Kd.C_drewN ?_ _) | (with_reducible refine Kd.C_drew ?_))); (case side4=>exact(Kd.R_reads' HO322.out).2.1); rintro e w17 ⟨v324,rfl,ho0,hb⟩; refine⟨_,rfl,?_⟩; have n0_:=Aside0.mk (Kd.R_elder' (by (with_reducible repeat (first | apply Kd.R_alloc | apply Kd.R_drewN | apply Kd.R_drew)); exact HO_5.out) (Kd.R_base ho0) hb); have n1_:=Aside0.mk (Kd.R_elder' (by (with_reducible repeat (first | apply Kd.R_alloc | apply Kd.R_drewN | apply Kd.R_drew)); exact HO318.out) (Kd.R_base ho0) hb); have n2_:=Aside0.mk (Kd.R_elder' (by (with_reducible repeat (first | apply Kd.R_alloc | apply Kd.R_drewN | apply Kd.R_drew)); exact HO322.out) (Kd.R_base ho0) hb); have n3_:=Aside0.mk (Kd.R_lower (Kd.R_new' (Kd.R_new' (Kd.R_new' ho0 (Kd.R_lt (by (with_reducible repeat (first | apply Kd.R_alloc | apply Kd.R_drewN | apply Kd.R_drew)); exact HO_5.out))) (Kd.R_lt (by (with_reducible repeat (first | apply Kd.R_alloc | apply Kd.R_drewN | apply Kd.R_drew)); exact HO318.out))) (Kd.R_lt (by (with_reducible repeat (first | apply Kd.R_alloc | apply Kd.R_drewN | apply Kd.R_drew)); exact HO322.out))) (zaj (by repeat (first | (with_reducible first | exact HB.out | apply zab | apply zaa | apply zac) | exact HB.out)))); have n4_:=Aside0.mk (zag (by repeat (first | (with_reducible first | exact HB.out | apply zab | apply zaa | apply zac) | exact HB.out)) hb); clear HO_5; clear HO318; clear HO322; clear HB; have HO_5:=n0_; have HO318:=n1_; have HO322:=n2_; have HO325:=n3_; have HB:=n4_; clear n0_ n1_ n2_ n3_ n4_; (try clear hb); (try clear hb2); (try clear hk); (try clear hi); (try clear ho0)))
        go_roundg k1
        case measure=>have:=HK1.out; omega
        case rel=>exact⟨(t323),(wrap64 (x6_1-1)),(by first | rfl | (simp; done) | (simp [*]; done)),H',⟨by have:=HK1.out; omega⟩,⟨by (with_reducible repeat (first | apply Kd.R_alloc | apply Kd.R_drewN | apply Kd.R_drew)); exact Kd.R_mono HO325.out (fun _ hk=>trivial)⟩,⟨by repeat (first | (with_reducible first | exact HB.out | apply zab | apply zaa | apply zac) | exact HB.out)⟩⟩
       ·
        rw [if_neg c7] at H
        exact absurd H (by simp)
      ·
       rw [if_neg c6] at H
       exact absurd H (by simp)
     ·
      rw [if_neg c5] at H
      exact absurd H (by simp)
    ·
     rw [if_neg c4] at H
     have c4b0:decide (0 < (x5_1.length:Int))=false:=decide_eq_false c4
     have c4b1:decide (0 < x5_1.length)=false:=decide_eq_false (by omega)
     clear c4
     by_cases c18:0≤x6_1
     ·
      rw [if_pos c18] at H
      have c18b0:decide (0≤x6_1)=true:=decide_eq_true c18
      clear c18
      by_cases c19:x6_1 < (l1.length:Int)
      ·
       rw [if_pos c19] at H
       have c19b0:decide (x6_1 < (l1.length:Int))=true:=decide_eq_true c19
       clear c19
       replace H:=Option.bind_eq_some_iff.mp H
       obtain⟨t327,A200,H⟩:=H
       replace H:((fluxionref01_Add.f k1 ([]:List Int) t327).bind fun t330=>(fluxionref01_Mul.l0 k1 l0 l1 t330 (wrap64 (x6_1-1))))=some r:=H
       have A20:=Aside0.mk A200
       clear A200
       replace H:=Option.bind_eq_some_iff.mp H
       obtain⟨t330,A210,H⟩:=H
       replace H:(fluxionref01_Mul.l0 k1 l0 l1 t330 (wrap64 (x6_1-1)))=some r:=H
       have A21:=Aside0.mk A210
       clear A210
       have H':=Aside0.mk H
       clear H
       obtain⟨Ao22,co22,eo22⟩:=Kd.R_slice HO_5.out
       subst eo22
       have p326:0≤(x6_1:Int):=of_decide_eq_true (by first | (with_reducible assumption) | assumption)
       have q326:x6_1 < (l1.length:Int):=of_decide_eq_true (by first | (with_reducible assumption) | assumption)
       obtain⟨ad326,e326,hx326_0⟩:=Kd.at_int HR1.out x6_1 p326 q326
       cases e326
       replace hx326_0:=(HB.out.cell (World.block_lt_of_cell? w _ hx326_0)).trans hx326_0
       replace p326:=eq_true p326
       replace q326:=eq_true q326
       go_wp2_with (first | ((with_reducible refine zap (f:=67) rfl ?_); refine zaC (some 27) rfl rfl Try.func67 (by kernel_rfl) rfl #[.slice A0 l0.length c0,.int .i64 (rd l1 x6_1)] rfl (by (try simp only [List.map_toArray,List.map_cons,List.map_nil]); first | done | rfl | (simp only [List.length_drop,List.length_take]; rfl)) ?_; (with_reducible refine(fluxionref01_Times.calls k1 _ _ l0 (rd l1 x6_1) t327 _ ?side1 ?side2 A20.out).mono ?_); (case side1=>repeat (first | exact(Kd.C_below HR0.out HB.out) | (with_reducible refine Kd.C_alloc ?_ _) | (with_reducible refine Kd.C_drewN ?_ _) | (with_reducible refine Kd.C_drew ?_))); (case side2=>exact HC0.out); rintro e w23 ⟨v328,rfl,ho0,hb⟩; refine⟨_,rfl,?_⟩; have n0_:=Aside0.mk (Kd.R_elder' (by (with_reducible repeat (first | apply Kd.R_alloc | apply Kd.R_drewN | apply Kd.R_drew)); exact HO_5.out) (Kd.R_base ho0) hb); have n1_:=Aside0.mk (Kd.R_lower (Kd.R_new' ho0 (Kd.R_lt (by (with_reducible repeat (first | apply Kd.R_alloc | apply Kd.R_drewN | apply Kd.R_drew)); exact HO_5.out))) (zaj (by repeat (first | (with_reducible first | exact HB.out | apply zab | apply zaa | apply zac) | exact HB.out)))); have n2_:=Aside0.mk (zag (by repeat (first | (with_reducible first | exact HB.out | apply zab | apply zaa | apply zac) | exact HB.out)) hb); clear HO_5; clear HB; have HO_5:=n0_; have HO329:=n1_; have HB:=n2_; clear n0_ n1_ n2_; (try clear hb); (try clear hb2); (try clear hk); (try clear hi); (try clear ho0); obtain⟨Ao24,co24,eo24⟩:=Kd.R_slice HO329.out; subst eo24) | ((with_reducible refine zap (f:=66) rfl ?_); refine zaC (some 28) rfl rfl Try.func66 (by kernel_rfl) rfl #[.slice none 0 0,.slice Ao24 t327.length co24] rfl (by (try simp only [List.map_toArray,List.map_cons,List.map_nil]); first | done | rfl | (simp only [List.length_drop,List.length_take]; rfl)) ?_; (refine(fluxionref01_Add.calls k1 _ _ ([]:List Int) _ _ t327 t330 _ ?side1 ?side2 ?side3 ?side4 A21.out).mono ?_); (case side1=>exact Kd.C_nil _ _); (case side2=>exact Nat.le_refl _); (case side3=>repeat (first | exact(Kd.R_reads' HO329.out).2.2 | (with_reducible refine Kd.C_alloc ?_ _) | (with_reducible refine Kd.C_drewN ?_ _) | (with_reducible refine Kd.C_drew ?_))); (case side4=>exact(Kd.R_reads' HO329.out).2.1); rintro e w25 ⟨v331,rfl,ho0,hb⟩; refine⟨_,rfl,?_⟩; have n0_:=Aside0.mk (Kd.R_elder' (by (with_reducible repeat (first | apply Kd.R_alloc | apply Kd.R_drewN | apply Kd.R_drew)); exact HO_5.out) (Kd.R_base ho0) hb); have n1_:=Aside0.mk (Kd.R_elder' (by (with_reducible repeat (first | apply Kd.R_alloc | apply Kd.R_drewN | apply Kd.R_drew)); exact HO329.out) (Kd.R_base ho0) hb); have n2_:=Aside0.mk (Kd.R_lower (Kd.R_new' (Kd.R_new' ho0 (Kd.R_lt (by (with_reducible repeat (first | apply Kd.R_alloc | apply Kd.R_drewN | apply Kd.R_drew)); exact HO_5.out))) (Kd.R_lt (by (with_reducible repeat (first | apply Kd.R_alloc | apply Kd.R_drewN | apply Kd.R_drew)); exact HO329.out))) (zaj (by repeat (first | (with_reducible first | exact HB.out | apply zab | apply zaa | apply zac) | exact HB.out)))); have n3_:=Aside0.mk (zag (by repeat (first | (with_reducible first | exact HB.out | apply zab | apply zaa | apply zac) | exact HB.out)) hb); clear HO_5; clear HO329; clear HB; have HO_5:=n0_; have HO329:=n1_; have HO332:=n2_; have HB:=n3_; clear n0_ n1_ n2_ n3_; (try clear hb); (try clear hb2); (try clear hk); (try clear hi); (try clear ho0)))
       go_roundg k1
       case measure=>have:=HK1.out; omega
       case rel=>exact⟨(t330),(wrap64 (x6_1-1)),(by first | rfl | (simp; done) | (simp [*]; done)),H',⟨by have:=HK1.out; omega⟩,⟨by (with_reducible repeat (first | apply Kd.R_alloc | apply Kd.R_drewN | apply Kd.R_drew)); exact Kd.R_mono HO332.out (fun _ hk=>trivial)⟩,⟨by repeat (first | (with_reducible first | exact HB.out | apply zab | apply zaa | apply zac) | exact HB.out)⟩⟩
      ·
       rw [if_neg c19] at H
       exact absurd H (by simp)
     ·
      rw [if_neg c18] at H
      exact absurd H (by simp)
   ·
    rw [if_neg c3] at H
    have c3b0:decide (0≤x6_1)=false:=decide_eq_false c3
    clear c3
    obtain rfl:=Option.some.inj H
    go_wp2
    go_ret
    exact⟨_,by first | rfl | (simp [zan,zao]<;>rfl) | (simp [*,zan,zao]<;>rfl),by (with_reducible repeat (first | apply Kd.R_alloc | apply Kd.R_drewN | apply Kd.R_drew)); exact HO_5.out,by repeat (first | (with_reducible first | exact HB.out | apply zab | apply zaa | apply zac) | exact HB.out)⟩
end Go.Proofs.Ytehghijlchpeaaa.L
end
section
namespace Go.Proofs.Ytehghijlchpeaaa.L
open Go.RowKit Go.Proofs.YtehghijlchpeaaaW.PrintWords Go.Proofs.YtehghijlchpeaaaW.PrintLast Go.Proofs.YtehghijlchpeaaaW.PrintMore
set_option linter.unusedVariables false
set_option linter.unusedSimpArgs false
set_option maxHeartbeats 8000000 in
set_option maxRecDepth 100000 in
theorem fluxionlaw03_few.calls (k:Nat) (A0:Option Addr) (c0:Nat) (l0:List (List Int)) (r:Bool) (w:World) (hr0:Kd.C (Kd.slice 63 (Kd.int .u32)) w A0 l0.length l0) (hc0:l0.length≤c0) (h:fluxionlaw03_few.f k l0=some r) :
  Calls Try.prog 14 #[.slice A0 l0.length c0] w fun e w'=>e=.returned (.bool r)∧Drawn0 w w':=by
 have HR0:=Aside0.mk hr0
 have HC0:=Aside0.mk hc0
 clear hr0 hc0
 have H:(fluxionlaw03_few.l0 k l0 0)=some r:=h
 clear h
 have H':=Aside0.mk H
 clear H
 go_enter Try.func14,Try.ntmps14
 go_wp2
 go_loopg [3] k (fun kq v3 w'=>∃ (x3_1:Int),v3=.int .i64 x3_1∧Aside0 (fluxionlaw03_few.l0 kq l0 x3_1=some r)∧Aside0 (kq≤k)∧Drawn0 w w')
 case atStart=>exact⟨(0),(by first | rfl | (simp; done) | (simp [*]; done)),H',⟨Nat.le_refl _⟩,by repeat (first | exact Drawn0.refl _ | apply Drawn0.step)⟩
 case round =>
  clear H'
  try clear c1
  obtain⟨x3_1,rfl,HA,HK1,⟨m1,rfl⟩⟩:=hrel
  cases gk with
  | zero=>exact absurd HA.out (by simp [fluxionlaw03_few.l0])
  | succ k1 =>
   have H:=HA.out
   clear HA
   simp only [fluxionlaw03_few.l0] at H
   by_cases c2:x3_1 < (l0.length:Int)
   ·
    rw [if_pos c2] at H
    have c2b0:decide (x3_1 < (l0.length:Int))=true:=decide_eq_true c2
    clear c2
    by_cases c3:0≤x3_1
    ·
     rw [if_pos c3] at H
     have c3b0:decide (0≤x3_1)=true:=decide_eq_true c3
     clear c3
     by_cases c4:((rd_L2 l0 x3_1).length:Int) > 60
     ·
      rw [if_pos c4] at H
      have c4b0:decide (60 < ((rd_L2 l0 x3_1).length:Int))=true:=decide_eq_true c4
      have c4b1:decide (60 < (rd_L2 l0 x3_1).length)=true:=decide_eq_true (by omega)
      clear c4
      obtain rfl:=Option.some.inj H
      have p373:0≤(x3_1:Int):=of_decide_eq_true (by first | (with_reducible assumption) | assumption)
      have q373:x3_1 < (l0.length:Int):=of_decide_eq_true (by first | (with_reducible assumption) | assumption)
      obtain⟨ad373,A373_0,c373_0,e373,hx373_0,hl373_0,hi373_0⟩:=at_L2 HR0.out x3_1 p373 q373
      cases e373
      have HR373_0:=Aside0.mk hi373_0
      have HC373_0:=Aside0.mk hl373_0
      clear hi373_0 hl373_0
      replace p373:=eq_true p373
      replace q373:=eq_true q373
      go_wp2
      go_ret
      exact⟨by first | rfl | (simp; done) | (simp [*]; done),by repeat (first | exact Drawn0.refl _ | apply Drawn0.step)⟩
     ·
      rw [if_neg c4] at H
      have c4b0:decide (60 < ((rd_L2 l0 x3_1).length:Int))=false:=decide_eq_false c4
      have c4b1:decide (60 < (rd_L2 l0 x3_1).length)=false:=decide_eq_false (by omega)
      clear c4
      have H':=Aside0.mk H
      clear H
      have p373:0≤(x3_1:Int):=of_decide_eq_true (by first | (with_reducible assumption) | assumption)
      have q373:x3_1 < (l0.length:Int):=of_decide_eq_true (by first | (with_reducible assumption) | assumption)
      obtain⟨ad373,A373_0,c373_0,e373,hx373_0,hl373_0,hi373_0⟩:=at_L2 HR0.out x3_1 p373 q373
      cases e373
      have HR373_0:=Aside0.mk hi373_0
      have HC373_0:=Aside0.mk hl373_0
      clear hi373_0 hl373_0
      replace p373:=eq_true p373
      replace q373:=eq_true q373
      go_wp2
      go_roundg k1
      case measure=>have:=HK1.out; omega
      case rel=>exact⟨(wrap64 (x3_1+1)),(by first | rfl | (simp; done) | (simp [*]; done)),H',⟨by have:=HK1.out; omega⟩,by repeat (first | exact Drawn0.refl _ | apply Drawn0.step)⟩
    ·
     rw [if_neg c3] at H
     exact absurd H (by simp)
   ·
    rw [if_neg c2] at H
    have c2b0:decide (x3_1 < (l0.length:Int))=false:=decide_eq_false c2
    clear c2
    obtain rfl:=Option.some.inj H
    go_wp2
    go_ret
    exact⟨by first | rfl | (simp; done) | (simp [*]; done),by repeat (first | exact Drawn0.refl _ | apply Drawn0.step)⟩
end Go.Proofs.Ytehghijlchpeaaa.L
end
