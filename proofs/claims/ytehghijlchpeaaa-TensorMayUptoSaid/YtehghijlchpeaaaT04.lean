/- Part 5 of the proof of tensorMayUpto_holds: what it uses, in build order. -/
import Derived.Test.YtehghijlchpeaaaT03
section
namespace Go.Proofs.Ytehghijlchpeaaa.L
open Go.RowKit Go.Proofs.YtehghijlchpeaaaW.PrintWords Go.Proofs.YtehghijlchpeaaaW.PrintLast Go.Proofs.YtehghijlchpeaaaW.PrintMore
attribute [local go_sem] zaO zaQ zaU zaV zaJ zaI zaP zaR   -- for this text's walks alone
set_option linter.unusedVariables false
set_option linter.unusedSimpArgs false
def fluxionref03_Of.f (k:Nat) (a0_0:Bool) (l0_1:List Int) (l0_2:List Int):Option (Bool×List Int×List Int):=(fluxionref01_Of.f k l0_1).bind fun t249=>((fluxionref01_Of.f k l0_2).bind fun t252=>((fluxionref03_Make.f k a0_0 t249 t252).bind fun bt255=>(some (bt255.1,bt255.2.1,bt255.2.2))))
def fluxionref03_Of.T1:Bool×List (List Nat×List Nat):=(true,[([],[]),([0],[0]),([],[]),([2],[2]),([3],[3]),([],[]),([5],[5]),([6,4],[6]),([1,4,7,7],[1,4,7]),([8,8,0,1,2,3,4,5,6,7,8],[8])])
def fluxionref03_Of.B1:List Nat:=[0,1,0,4,12,0,32,124,255,511]
theorem fluxionref03_Of.tab1:rtab .any (opsOf Try.f21 1)=fluxionref03_Of.T1:=by kernel_rfl
theorem fluxionref03_Of.bits1:waitsOk fluxionref03_Of.T1.2 fluxionref03_Of.B1=true:=by kernel_rfl
set_option maxHeartbeats 8000000 in
set_option maxRecDepth 100000 in
theorem fluxionref03_Of.calls (k:Nat) (a0_0:Bool) (A0_1:Option Addr) (c0_1:Nat) (l0_1:List Int) (A0_2:Option Addr) (c0_2:Nat) (l0_2:List Int) (r1:Bool) (r2:List Int) (r3:List Int) (w:World) (hr0_1:Kd.C (Kd.int .u32) w A0_1 l0_1.length l0_1) (hc0_1:l0_1.length≤c0_1) (hr0_2:Kd.C (Kd.int .u32) w A0_2 l0_2.length l0_2) (hc0_2:l0_2.length≤c0_2) (h:fluxionref03_Of.f k a0_0 l0_1 l0_2=some (r1,r2,r3)) :
  Calls Try.prog 21 #[.agg #[.bool a0_0,.slice A0_1 l0_1.length c0_1,.slice A0_2 l0_2.length c0_2]] w fun e w'=>∃ v1_ v2_:Value,e=.returned (.agg #[.bool r1,v1_,v2_])∧Kd.R (Kd.int .i64) 3 w' w.heap.size (fun k_=>some k_≠(v2_:Value).ownBlock) v1_ r2∧Kd.R (Kd.int .i64) 3 w' w.heap.size (fun k_=>some k_≠(v1_:Value).ownBlock) v2_ r3∧Below w.heap.size w w':=by
 have hu25:=Try.underlying25
 have hu36:=Try.underlying36
 have HR0_1:=Aside0.mk hr0_1
 have HC0_1:=Aside0.mk hc0_1
 clear hr0_1 hc0_1
 have HR0_2:=Aside0.mk hr0_2
 have HC0_2:=Aside0.mk hc0_2
 clear hr0_2 hc0_2
 have HB:=Aside0.mk (Below.refl w.heap.size w)
 have H:((fluxionref01_Of.f k l0_1).bind fun t249=>((fluxionref01_Of.f k l0_2).bind fun t252=>((fluxionref03_Make.f k a0_0 t249 t252).bind fun bt255=>(some (bt255.1,bt255.2.1,bt255.2.2)))))=some (r1,r2,r3):=h
 clear h
 replace H:=Option.bind_eq_some_iff.mp H
 obtain⟨t249,A20,H⟩:=H
 replace H:((fluxionref01_Of.f k l0_2).bind fun t252=>((fluxionref03_Make.f k a0_0 t249 t252).bind fun bt255=>(some (bt255.1,bt255.2.1,bt255.2.2))))=some (r1,r2,r3):=H
 have A2:=Aside0.mk A20
 clear A20
 replace H:=Option.bind_eq_some_iff.mp H
 obtain⟨t252,A30,H⟩:=H
 replace H:((fluxionref03_Make.f k a0_0 t249 t252).bind fun bt255=>(some (bt255.1,bt255.2.1,bt255.2.2)))=some (r1,r2,r3):=H
 have A3:=Aside0.mk A30
 clear A30
 replace H:=Option.bind_eq_some_iff.mp H
 obtain⟨⟨t255,t256,t259⟩,A40,H⟩:=H
 replace H:(some (t255,t256,t259))=some (r1,r2,r3):=H
 have A4:=Aside0.mk A40
 clear A40
 simp only [Option.some.injEq,Prod.mk.injEq] at H
 obtain⟨rfl,rfl,rfl⟩:=H
 go_enter Try.func21,Try.ntmps21
 try go_wp2_with (first | ((with_reducible refine zat (N:=1) rfl ?_); refine zas ?hg (N:=1) ?hd (cs:=#[.bool a0_0,.slice A0_1 l0_1.length c0_1,.slice A0_2 l0_2.length c0_2]) (t:=25) ?hr ?_; (case hd=>rfl); (case hg=>rfl); (case hr=>first | (go_simp; done) | (go_simp; rfl)); intro gb247 hg w5 hbox hb; have n0_:=Aside0.mk (zag (by repeat (first | (with_reducible first | exact HB.out | apply zab | apply zaa | apply zac) | exact HB.out)) hb); have n1_:=Aside0.mk (hbox); have n2_:=Aside0.mk ((by rw [hg]; exact(zak (by repeat (first | (with_reducible first | exact HB.out | apply zab | apply zaa | apply zac) | exact HB.out))):w.heap.size≤gb247)); have n3_:=Aside0.mk ((by rw [hg]; exact(zak (by repeat (first | (with_reducible first | exact HB.out | apply zab | apply zaa | apply zac) | exact HB.out))):w.heap.size≤gb247)); clear HB; have HB:=n0_; have BK247:=n1_; have GW247:=n2_; have GE247:=n3_; clear n0_ n1_ n2_ n3_; clear hb hbox hg) | ((with_reducible refine zat (N:=2) rfl ?_); refine zas ?hg (N:=2) ?hd (cs:=#[.bool false,.slice none 0 0,.slice none 0 0]) (t:=36) ?hr ?_; (case hd=>rfl); (case hg=>rfl); (case hr=>first | (go_simp; done) | (go_simp; rfl)); intro gb248 hg w6 hbox hb; have n0_:=Aside0.mk (zal (g:=gb247) (o:=.cells #[.bool a0_0,.slice A0_1 l0_1.length c0_1,.slice A0_2 l0_2.length c0_2] 25 (0,0)) (by (with_reducible repeat (first | refine zah ?_ _ | refine zai ?_ | refine zaf ?_ _)); exact BK247.out) hb); have n1_:=Aside0.mk (zag (by repeat (first | (with_reducible first | exact HB.out | apply zab | apply zaa | apply zac | refine zad ?_ GE247.out) | exact HB.out)) hb); have n2_:=Aside0.mk (hbox); have n3_:=Aside0.mk ((by rw [hg]; exact(zak (by repeat (first | (with_reducible first | exact HB.out | apply zab | apply zaa | apply zac | refine zad ?_ GE247.out) | exact HB.out))):w.heap.size≤gb248)); have n4_:=Aside0.mk ((by rw [hg]; exact(zak (by repeat (first | (with_reducible first | exact HB.out | apply zab | apply zaa | apply zac | refine zad ?_ GE247.out) | exact HB.out))):w.heap.size≤gb248)); have n5_:=Aside0.mk ((by rw [hg]; exact Nat.ne_of_lt (zaA (g:=gb247) (o:=.cells #[.bool a0_0,.slice A0_1 l0_1.length c0_1,.slice A0_2 l0_2.length c0_2] 25 (0,0)) (by (with_reducible repeat (first | refine zah ?_ _ | refine zai ?_ | refine zaf ?_ _)); exact BK247.out)):gb247≠gb248)); have n6_:=Aside0.mk ((by rw [hg]; exact Nat.ne_of_gt (zaA (g:=gb247) (o:=.cells #[.bool a0_0,.slice A0_1 l0_1.length c0_1,.slice A0_2 l0_2.length c0_2] 25 (0,0)) (by (with_reducible repeat (first | refine zah ?_ _ | refine zai ?_ | refine zaf ?_ _)); exact BK247.out)):gb248≠gb247)); clear BK247; clear HB; have BK247:=n0_; have HB:=n1_; have BK248:=n2_; have GW248:=n3_; have GE248:=n4_; have NB247_248:=n5_; have NB248_247:=n6_; clear n0_ n1_ n2_ n3_ n4_ n5_ n6_; clear hb hbox hg))
 have n0_:=Aside0.mk (zai BK247.out)
 have n1_:=Aside0.mk (zai BK248.out)
 have n2_:=Aside0.mk (zac HB.out)
 clear BK247
 clear BK248
 clear HB
 have BK247:=n0_
 have BK248:=n1_
 have HB:=n2_
 clear n0_ n1_ n2_
 refine start_ (n:=10) (S:=fun w'=>w'.cell? ⟨gb247,0,none⟩=some (.bool a0_0)∧w'.cell? ⟨gb247,1,none⟩=some (.slice A0_1 l0_1.length c0_1)∧w'.cell? ⟨gb247,2,none⟩=some (.slice A0_2 l0_2.length c0_2)) (ds:=[]) #[zf,zf,zf,zf,zf,zf,zf,zf,zf,zf] (by kernel_rfl) rfl rfl ⟨(zae BK247.out 0).trans rfl,(zae BK247.out 1).trans rfl,(zae BK247.out 2).trans rfl⟩ (fun hHeld=>?_); refine with_tabW fluxionref03_Of.tab1 fluxionref03_Of.bits1 (fun HT_ HW_=>?_)
 generalize w6.drew=w7 at BK247 BK248 HB hHeld ⊢
 refine zaB (i:=0) (N:=some 3) (v:=?_) (a':=?_) #[zt,zf,zf,zf,zf,zf,zf,zf,zf,zf] rfl rfl (zaZ HT_.out (by kernel_rfl)) (fun _ _ _ h=>h) (Or.inl ⟨by rfl,?_⟩) ?_ ?_
 rotate_left
 ·
  intro w'
  go_simp
  with_reducible rfl
 rotate_left
 ·
  simp only [Act.put,zA1,zA2,zA3,zaq,zar]
  rfl
 refine zaB (i:=2) (N:=some 5) (v:=?_) (a':=?_) #[zt,zf,zt,zf,zf,zf,zf,zf,zf,zf] rfl rfl (zaZ HT_.out (by kernel_rfl)) (fun _ _ _ h=>h) (Or.inl ⟨by rfl,?_⟩) ?_ ?_
 rotate_left
 ·
  intro w'
  go_simp
  with_reducible rfl
 rotate_left
 ·
  simp only [Act.put,zA1,zA2,zA3,zaq,zar]
  rfl
 refine zaB (i:=5) (N:=some 8) (v:=?_) (a':=?_) #[zt,zf,zt,zf,zf,zt,zf,zf,zf,zf] rfl rfl (zaZ HT_.out (by kernel_rfl)) (fun _ _ _ h=>h) (Or.inl ⟨by rfl,?_⟩) ?_ ?_
 rotate_left
 ·
  intro w'
  go_simp
  with_reducible rfl
 rotate_left
 ·
  simp only [Act.put,zA1,zA2,zA3,zaq,zar]
  rfl
 refine take_ (i:=1) (N:=some 4) (v:=?_) (a':=?_) #[zt,zt,zt,zf,zf,zt,zf,zf,zf,zf] rfl rfl (za1 HT_.out HW_.out (by kernel_rfl)) (fun _ _ _ h=>h) (Or.inl ⟨by rfl,?_⟩) hHeld ?_ ?_
 rotate_left
 ·
  rintro w' ⟨s0,s1,s2⟩
  go_simp
  with_reducible rfl
 rotate_left
 ·
  simp only [Act.put,zA1,zA2,zA3,zaq,zar]
  rfl
 refine take_ (i:=3) (N:=some 6) (v:=?_) (a':=?_) #[zt,zt,zt,zt,zf,zt,zf,zf,zf,zf] rfl rfl (za1 HT_.out HW_.out (by kernel_rfl)) (fun _ _ _ h=>h) (Or.inl ⟨by rfl,?_⟩) hHeld ?_ ?_
 rotate_left
 ·
  rintro w' ⟨s0,s1,s2⟩
  go_simp
  with_reducible rfl
 rotate_left
 ·
  simp only [Act.put,zA1,zA2,zA3,zaq,zar]
  rfl
 refine take_ (i:=6) (N:=some 9) (v:=?_) (a':=?_) #[zt,zt,zt,zt,zf,zt,zt,zf,zf,zf] rfl rfl (za1 HT_.out HW_.out (by kernel_rfl)) (fun _ _ _ h=>h) (Or.inl ⟨by rfl,?_⟩) hHeld ?_ ?_
 rotate_left
 ·
  rintro w' ⟨s0,s1,s2⟩
  go_simp
  with_reducible rfl
 rotate_left
 ·
  simp only [Act.put,zA1,zA2,zA3,zaq,zar]
  rfl
 refine one_ (i:=4) (N:=some 7) #[zt,zt,zt,zt,zt,zt,zt,zf,zf,zf] rfl rfl (one_of HT_.out (by kernel_rfl)) (by decide) (fun K hK=>?_)
 refine za3 Try.func24 (by kernel_rfl) rfl #[.slice A0_1 l0_1.length c0_1] (by rfl) rfl rfl (by (try simp only [List.map_toArray,List.map_cons,List.map_nil]); first | done | rfl | (simp only [List.length_drop,List.length_take]; rfl)) ?_
 with_reducible refine(fluxionref01_Of.calls k _ _ l0_1 t249 _ ?side1 ?side2 A2.out).mono ?_
 (case side1=>repeat (first | exact(Kd.C_below HR0_1.out HB.out) | (with_reducible refine Kd.C_alloc ?_ _) | (with_reducible refine Kd.C_drewN ?_ _) | (with_reducible refine Kd.C_drew ?_)))
 (case side2=>exact HC0_1.out)
 rintro e w8 ⟨v250,rfl,ho0,hb⟩
 refine⟨_,rfl,?_⟩
 have n0_:=Aside0.mk (Kd.R_lower ho0 (zak (by repeat (first | (with_reducible first | exact HB.out | apply zab | apply zaa | apply zac | refine zad ?_ GE247.out | refine zad ?_ GE248.out) | exact HB.out))))
 have n1_:=Aside0.mk (zal (g:=gb247) (o:=.cells #[.bool a0_0,.slice A0_1 l0_1.length c0_1,.slice A0_2 l0_2.length c0_2] 25 (0,0)) (by (with_reducible repeat (first | refine zah ?_ _ | refine zai ?_ | refine zaf ?_ _)); exact BK247.out) hb)
 have n2_:=Aside0.mk (zal (g:=gb248) (o:=.cells #[.bool false,.slice none 0 0,.slice none 0 0] 36 (0,0)) (by (with_reducible repeat (first | refine zah ?_ _ | refine zai ?_ | refine zaf ?_ _)); exact BK248.out) hb)
 have n3_:=Aside0.mk (zag (by repeat (first | (with_reducible first | exact HB.out | apply zab | apply zaa | apply zac | refine zad ?_ GE247.out | refine zad ?_ GE248.out) | exact HB.out)) hb)
 clear BK247
 clear BK248
 clear HB
 have HO251:=n0_
 have BK247:=n1_
 have BK248:=n2_
 have HB:=n3_
 clear n0_ n1_ n2_ n3_
 (try clear hb)
 (try clear hb2)
 (try clear hk)
 (try clear hi)
 (try clear ho0)
 refine hK.out _ _ ⟨(zae BK247.out 0).trans rfl,(zae BK247.out 1).trans rfl,(zae BK247.out 2).trans rfl⟩ (fun hHeld=>?_)
 clear hK K
 refine zaW (a':=?_) ?_ ?_
 rotate_left
 ·
  show Act.put _ (some 7) _=_
  simp only [Act.put,zA1,zA2,zA3,zaq,zar]
  rfl
 refine one_ (i:=7) (N:=some 10) #[zt,zt,zt,zt,zt,zt,zt,zt,zf,zf] rfl rfl (one_of HT_.out (by kernel_rfl)) (by decide) (fun K hK=>?_)
 refine za3 Try.func24 (by kernel_rfl) rfl #[.slice A0_2 l0_2.length c0_2] (by rfl) rfl rfl (by (try simp only [List.map_toArray,List.map_cons,List.map_nil]); first | done | rfl | (simp only [List.length_drop,List.length_take]; rfl)) ?_
 with_reducible refine(fluxionref01_Of.calls k _ _ l0_2 t252 _ ?side1 ?side2 A3.out).mono ?_
 (case side1=>repeat (first | exact(Kd.C_below HR0_2.out HB.out) | (with_reducible refine Kd.C_alloc ?_ _) | (with_reducible refine Kd.C_drewN ?_ _) | (with_reducible refine Kd.C_drew ?_)))
 (case side2=>exact HC0_2.out)
 rintro e w9 ⟨v253,rfl,ho0,hb⟩
 refine⟨_,rfl,?_⟩
 have n0_:=Aside0.mk (Kd.R_elder' (by (with_reducible repeat (first | apply Kd.R_alloc | apply Kd.R_drewN | apply Kd.R_drew)); exact HO251.out) (Kd.R_base ho0) hb)
 have n1_:=Aside0.mk (Kd.R_lower (Kd.R_new' ho0 (Kd.R_lt (by (with_reducible repeat (first | apply Kd.R_alloc | apply Kd.R_drewN | apply Kd.R_drew)); exact HO251.out))) (zak (by repeat (first | (with_reducible first | exact HB.out | apply zab | apply zaa | apply zac | refine zad ?_ GE247.out | refine zad ?_ GE248.out) | exact HB.out))))
 have n2_:=Aside0.mk (zal (g:=gb247) (o:=.cells #[.bool a0_0,.slice A0_1 l0_1.length c0_1,.slice A0_2 l0_2.length c0_2] 25 (0,0)) (by (with_reducible repeat (first | refine zah ?_ _ | refine zai ?_ | refine zaf ?_ _)); exact BK247.out) hb)
 have n3_:=Aside0.mk (zal (g:=gb248) (o:=.cells #[.bool false,.slice none 0 0,.slice none 0 0] 36 (0,0)) (by (with_reducible repeat (first | refine zah ?_ _ | refine zai ?_ | refine zaf ?_ _)); exact BK248.out) hb)
 have n4_:=Aside0.mk (zag (by repeat (first | (with_reducible first | exact HB.out | apply zab | apply zaa | apply zac | refine zad ?_ GE247.out | refine zad ?_ GE248.out) | exact HB.out)) hb)
 clear HO251
 clear BK247
 clear BK248
 clear HB
 have HO251:=n0_
 have HO254:=n1_
 have BK247:=n2_
 have BK248:=n3_
 have HB:=n4_
 clear n0_ n1_ n2_ n3_ n4_
 (try clear hb)
 (try clear hb2)
 (try clear hk)
 (try clear hi)
 (try clear ho0)
 obtain⟨Ao10,co10,eo10⟩:=Kd.R_slice HO251.out
 (first | subst eo10 | (injection eo10 with f1_ f2_ f3_; have f4_:=f1_.symm; have f5_:=f3_.symm; clear f1_ f2_ f3_; subst f4_; subst f5_))
 obtain⟨Ao11,co11,eo11⟩:=Kd.R_slice HO254.out
 (first | subst eo11 | (injection eo11 with f1_ f2_ f3_; have f4_:=f1_.symm; have f5_:=f3_.symm; clear f1_ f2_ f3_; subst f4_; subst f5_))
 refine hK.out _ _ ⟨(zae BK247.out 0).trans rfl,(zae BK247.out 1).trans rfl,(zae BK247.out 2).trans rfl⟩ (fun hHeld=>?_)
 clear hK K
 refine zaW (a':=?_) ?_ ?_
 rotate_left
 ·
  show Act.put _ (some 10) _=_
  simp only [Act.put,zA1,zA2,zA3,zaq,zar]
  rfl
 refine one_ (i:=8) (N:=some 11) #[zt,zt,zt,zt,zt,zt,zt,zt,zt,zf] rfl rfl (one_of HT_.out (by kernel_rfl)) (by decide) (fun K hK=>?_)
 refine za3 Try.func25 (by kernel_rfl) rfl #[.bool a0_0,.slice Ao10 t249.length co10,.slice Ao11 t252.length co11] (by rfl) rfl rfl (by (try simp only [List.map_toArray,List.map_cons,List.map_nil]); first | done | rfl | (simp only [List.length_drop,List.length_take]; rfl)) ?_
 with_reducible refine(fluxionref03_Make.calls k a0_0 _ _ t249 _ _ t252 t255 t256 t259 _ ?side1 ?side2 ?side3 ?side4 A4.out).mono ?_
 (case side1=>repeat (first | exact(Kd.R_reads' HO251.out).2.2 | (with_reducible refine Kd.C_alloc ?_ _) | (with_reducible refine Kd.C_drewN ?_ _) | (with_reducible refine Kd.C_drew ?_)))
 (case side2=>exact(Kd.R_reads' HO251.out).2.1)
 (case side3=>repeat (first | exact(Kd.R_reads' HO254.out).2.2 | (with_reducible refine Kd.C_alloc ?_ _) | (with_reducible refine Kd.C_drewN ?_ _) | (with_reducible refine Kd.C_drew ?_)))
 (case side4=>exact(Kd.R_reads' HO254.out).2.1)
 rintro e w12 ⟨v257,v260,rfl,ho0,ho1,hb⟩
 refine⟨_,rfl,?_⟩
 have n0_:=Aside0.mk (Kd.R_mono (Kd.R_told (Kd.R_told (Kd.R_old (by (with_reducible repeat (first | apply Kd.R_alloc | apply Kd.R_drewN | apply Kd.R_drew)); exact HO251.out) hb) (Kd.R_base ho0)) (Kd.R_base ho1)) (fun _ h_=>h_.1))
 have n1_:=Aside0.mk (Kd.R_mono (Kd.R_told (Kd.R_told (Kd.R_old (by (with_reducible repeat (first | apply Kd.R_alloc | apply Kd.R_drewN | apply Kd.R_drew)); exact HO254.out) hb) (Kd.R_base ho0)) (Kd.R_base ho1)) (fun _ h_=>h_.1))
 have n2_:=Aside0.mk (Kd.R_lower (Kd.R_new' (Kd.R_new' ho0 (Kd.R_lt (by (with_reducible repeat (first | apply Kd.R_alloc | apply Kd.R_drewN | apply Kd.R_drew)); exact HO251.out))) (Kd.R_lt (by (with_reducible repeat (first | apply Kd.R_alloc | apply Kd.R_drewN | apply Kd.R_drew)); exact HO254.out))) (zak (by repeat (first | (with_reducible first | exact HB.out | apply zab | apply zaa | apply zac | refine zad ?_ GE247.out | refine zad ?_ GE248.out) | exact HB.out))))
 have n3_:=Aside0.mk (Kd.R_lower (Kd.R_new' (Kd.R_new' ho1 (Kd.R_lt (by (with_reducible repeat (first | apply Kd.R_alloc | apply Kd.R_drewN | apply Kd.R_drew)); exact HO251.out))) (Kd.R_lt (by (with_reducible repeat (first | apply Kd.R_alloc | apply Kd.R_drewN | apply Kd.R_drew)); exact HO254.out))) (zak (by repeat (first | (with_reducible first | exact HB.out | apply zab | apply zaa | apply zac | refine zad ?_ GE247.out | refine zad ?_ GE248.out) | exact HB.out))))
 have n4_:=Aside0.mk (zal (g:=gb247) (o:=.cells #[.bool a0_0,.slice A0_1 l0_1.length c0_1,.slice A0_2 l0_2.length c0_2] 25 (0,0)) (by (with_reducible repeat (first | refine zah ?_ _ | refine zai ?_ | refine zaf ?_ _)); exact BK247.out) hb)
 have n5_:=Aside0.mk (zal (g:=gb248) (o:=.cells #[.bool false,.slice none 0 0,.slice none 0 0] 36 (0,0)) (by (with_reducible repeat (first | refine zah ?_ _ | refine zai ?_ | refine zaf ?_ _)); exact BK248.out) hb)
 have n6_:=Aside0.mk (zag (by repeat (first | (with_reducible first | exact HB.out | apply zab | apply zaa | apply zac | refine zad ?_ GE247.out | refine zad ?_ GE248.out) | exact HB.out)) hb)
 clear HO251
 clear HO254
 clear BK247
 clear BK248
 clear HB
 have HO251:=n0_
 have HO254:=n1_
 have HO258:=n2_
 have HO261:=n3_
 have BK247:=n4_
 have BK248:=n5_
 have HB:=n6_
 clear n0_ n1_ n2_ n3_ n4_ n5_ n6_
 (try clear hb)
 (try clear hb2)
 (try clear hk)
 (try clear hi)
 (try clear ho0)
 (try clear ho1)
 obtain⟨Ao14,co14,eo14⟩:=Kd.R_slice HO258.out
 (first | subst eo14 | (injection eo14 with f1_ f2_ f3_; have f4_:=f1_.symm; have f5_:=f3_.symm; clear f1_ f2_ f3_; subst f4_; subst f5_))
 obtain⟨Ao16,co16,eo16⟩:=Kd.R_slice HO261.out
 (first | subst eo16 | (injection eo16 with f1_ f2_ f3_; have f4_:=f1_.symm; have f5_:=f3_.symm; clear f1_ f2_ f3_; subst f4_; subst f5_))
 refine hK.out _ _ ⟨(zae BK247.out 0).trans rfl,(zae BK247.out 1).trans rfl,(zae BK247.out 2).trans rfl⟩ (fun hHeld=>?_)
 clear hK K
 refine zaW (a':=?_) ?_ ?_
 rotate_left
 ·
  show Act.put _ (some 11) _=_
  simp only [Act.put,zA1,zA2,zA3,zaq,zar]
  rfl
 refine one_ (i:=9) (N:=none) #[zt,zt,zt,zt,zt,zt,zt,zt,zt,zt] rfl rfl (one_of HT_.out (by kernel_rfl)) (by decide) (fun K hK=>?_)
 have hs13:w12.cell? ⟨gb248,0,none⟩=some (.bool false):=(zae BK248.out 0).trans rfl
 have hfs13:=zaj BK248.out 0
 have hns13_0:=NB247_248.out
 have hms13_0:=NB248_247.out
 have hs15:w12.cell? ⟨gb248,1,none⟩=some (.slice none 0 0):=(zae BK248.out 1).trans rfl
 have hfs15:=zaj BK248.out 1
 have hns15_0:=NB247_248.out
 have hms15_0:=NB248_247.out
 have hs17:w12.cell? ⟨gb248,2,none⟩=some (.slice none 0 0):=(zae BK248.out 2).trans rfl
 have hfs17:=zaj BK248.out 2
 have hns17_0:=NB247_248.out
 have hms17_0:=NB248_247.out
 refine skip_ (w1:=?_) (by rfl) rfl ?_ ?_
 rotate_left
 ·
  go_simp
  rfl
 refine hK.out _ _ ⟨((zaT (p:=⟨gb248,_,none⟩) NB247_248.out _).trans (((zaT (p:=⟨gb248,_,none⟩) NB247_248.out _).trans (((zaT (p:=⟨gb248,_,none⟩) NB247_248.out _).trans (hHeld.1)))))),((zaT (p:=⟨gb248,_,none⟩) NB247_248.out _).trans (((zaT (p:=⟨gb248,_,none⟩) NB247_248.out _).trans (((zaT (p:=⟨gb248,_,none⟩) NB247_248.out _).trans (hHeld.2.1)))))),((zaT (p:=⟨gb248,_,none⟩) NB247_248.out _).trans (((zaT (p:=⟨gb248,_,none⟩) NB247_248.out _).trans (((zaT (p:=⟨gb248,_,none⟩) NB247_248.out _).trans (hHeld.2.2))))))⟩ (fun hHeld=>?_)
 clear hK K
 refine done_ (done_of HT_.out (by kernel_rfl)) ?_
 try go_wp2
 refine bodyPost_ret (results_cell_row rfl _ _ gb248 36 #[.bool t255,.slice Ao14 t256.length co14,.slice Ao16 t259.length co16] (0,0) _ rfl (by (with_reducible repeat (first | refine zah ?_ _ | refine zai ?_ | refine zaf ?_ _)); refine zav (cs:=#[.bool t255,.slice Ao14 t256.length co14,.slice none 0 0]) ?_ 2 _ rfl; (with_reducible repeat (first | refine zah ?_ _ | refine zai ?_ | refine zaf ?_ _)); refine zav (cs:=#[.bool t255,.slice none 0 0,.slice none 0 0]) ?_ 1 _ rfl; (with_reducible repeat (first | refine zah ?_ _ | refine zai ?_ | refine zaf ?_ _)); refine zav (cs:=#[.bool false,.slice none 0 0,.slice none 0 0]) ?_ 0 _ rfl; (with_reducible repeat (first | refine zah ?_ _ | refine zai ?_ | refine zaf ?_ _)); exact BK248.out) Try.underlying36 rfl (by kernel_rfl)) rfl ?_
 exact⟨_,_,by first | rfl | (simp [zam,zan]<;>rfl) | (simp [*,zam,zan]<;>rfl),by (with_reducible repeat (first | apply Kd.R_alloc | apply Kd.R_drewN | apply Kd.R_drew)); exact Kd.R_mono (Kd.R_far (p:=⟨gb248,2,none⟩) (Kd.R_far (p:=⟨gb248,1,none⟩) (Kd.R_far (p:=⟨gb248,0,none⟩) (Kd.R_types HO258.out BK248.out (by decide)) (fun _ hk=>hk.2) (.bool t255)) (fun _ hk=>hk.2) (.slice Ao14 t256.length co14)) (fun _ hk=>hk.2) (.slice Ao16 t259.length co16)) (fun _ hk=>hk.1.1.1),by (with_reducible repeat (first | apply Kd.R_alloc | apply Kd.R_drewN | apply Kd.R_drew)); exact Kd.R_mono (Kd.R_far (p:=⟨gb248,2,none⟩) (Kd.R_far (p:=⟨gb248,1,none⟩) (Kd.R_far (p:=⟨gb248,0,none⟩) (Kd.R_types HO261.out BK248.out (by decide)) (fun _ hk=>hk.2) (.bool t255)) (fun _ hk=>hk.2) (.slice Ao14 t256.length co14)) (fun _ hk=>hk.2) (.slice Ao16 t259.length co16)) (fun _ hk=>hk.1.1.1),by repeat (first | (with_reducible first | exact HB.out | apply zab | apply zaa | apply zac | refine zad ?_ GE247.out | refine zad ?_ GE248.out) | exact HB.out)⟩
def fluxionref03_Is.f (k:Nat) (a0_0:Bool) (l0_1:List Int) (l0_2:List Int) (a1_0:Bool) (l1_1:List Int) (l1_2:List Int):Option (Bool):=if (a1_0 == a0_0)=true then ((fluxionref01_Is.f k l0_1 l1_1).bind fun t264=>(if t264=true then ((fluxionref01_Is.f k l0_2 l1_2).bind fun t265=>(some t265)) else (some false))) else (some false)
set_option maxHeartbeats 8000000 in
set_option maxRecDepth 100000 in
theorem fluxionref03_Is.calls (k:Nat) (a0_0:Bool) (A0_1:Option Addr) (c0_1:Nat) (l0_1:List Int) (A0_2:Option Addr) (c0_2:Nat) (l0_2:List Int) (a1_0:Bool) (A1_1:Option Addr) (c1_1:Nat) (l1_1:List Int) (A1_2:Option Addr) (c1_2:Nat) (l1_2:List Int) (r:Bool) (w:World) (hr0_1:Kd.C (Kd.int .i64) w A0_1 l0_1.length l0_1) (hc0_1:l0_1.length≤c0_1) (hr0_2:Kd.C (Kd.int .i64) w A0_2 l0_2.length l0_2) (hc0_2:l0_2.length≤c0_2) (hr1_1:Kd.C (Kd.int .u32) w A1_1 l1_1.length l1_1) (hc1_1:l1_1.length≤c1_1) (hr1_2:Kd.C (Kd.int .u32) w A1_2 l1_2.length l1_2) (hc1_2:l1_2.length≤c1_2) (h:fluxionref03_Is.f k a0_0 l0_1 l0_2 a1_0 l1_1 l1_2=some r) :
  Calls Try.prog 20 #[.agg #[.bool a0_0,.slice A0_1 l0_1.length c0_1,.slice A0_2 l0_2.length c0_2],.agg #[.bool a1_0,.slice A1_1 l1_1.length c1_1,.slice A1_2 l1_2.length c1_2]] w fun e w'=>e=.returned (.bool r)∧Below w.heap.size w w':=by
 have hu36:=Try.underlying36
 have hu25:=Try.underlying25
 have HR0_1:=Aside0.mk hr0_1
 have HC0_1:=Aside0.mk hc0_1
 clear hr0_1 hc0_1
 have HR0_2:=Aside0.mk hr0_2
 have HC0_2:=Aside0.mk hc0_2
 clear hr0_2 hc0_2
 have HR1_1:=Aside0.mk hr1_1
 have HC1_1:=Aside0.mk hc1_1
 clear hr1_1 hc1_1
 have HR1_2:=Aside0.mk hr1_2
 have HC1_2:=Aside0.mk hc1_2
 clear hr1_2 hc1_2
 have HB:=Aside0.mk (Below.refl w.heap.size w)
 have H:(if (a1_0 == a0_0)=true then ((fluxionref01_Is.f k l0_1 l1_1).bind fun t264=>(if t264=true then ((fluxionref01_Is.f k l0_2 l1_2).bind fun t265=>(some t265)) else (some false))) else (some false))=some r:=h
 clear h
 by_cases c3:(a1_0 == a0_0)=true
 ·
  rw [if_pos c3] at H
  have c3b0:(a1_0 == a0_0)=true:=c3
  (try (have c3b1:decide (a1_0=a0_0)=true:=by simpa using c3))
  (try (have c3b2:(a1_0 == a0_0)=true:=by simpa using c3))
  clear c3
  replace H:=Option.bind_eq_some_iff.mp H
  obtain⟨t264,A40,H⟩:=H
  replace H:(if t264=true then ((fluxionref01_Is.f k l0_2 l1_2).bind fun t265=>(some t265)) else (some false))=some r:=H
  have A4:=Aside0.mk A40
  clear A40
  by_cases c5:t264=true
  ·
   subst c5
   have H1:((fluxionref01_Is.f k l0_2 l1_2).bind fun t265=>(some t265))=some r:=by rw [if_pos rfl] at H; exact H
   clear H
   have H:=H1
   clear H1
   replace H:=Option.bind_eq_some_iff.mp H
   obtain⟨t265,A60,H⟩:=H
   replace H:(some t265)=some r:=H
   have A6:=Aside0.mk A60
   clear A60
   obtain rfl:=Option.some.inj H
   go_enter Try.func20,Try.ntmps20
   go_wp2_with (first | ((with_reducible refine zat (N:=2) rfl ?_); refine zas ?hg (N:=2) ?hd (cs:=#[.bool a0_0,.slice A0_1 l0_1.length c0_1,.slice A0_2 l0_2.length c0_2]) (t:=36) ?hr ?_; (case hd=>rfl); (case hg=>rfl); (case hr=>first | (go_simp; done) | (go_simp; rfl)); intro gb262 hg w7 hbox hb; have n0_:=Aside0.mk (zag (by repeat (first | (with_reducible first | exact HB.out | apply zab | apply zaa | apply zac) | exact HB.out)) hb); have n1_:=Aside0.mk (hbox); have n2_:=Aside0.mk ((by rw [hg]; exact(zak (by repeat (first | (with_reducible first | exact HB.out | apply zab | apply zaa | apply zac) | exact HB.out))):w.heap.size≤gb262)); have n3_:=Aside0.mk ((by rw [hg]; exact(zak (by repeat (first | (with_reducible first | exact HB.out | apply zab | apply zaa | apply zac) | exact HB.out))):w.heap.size≤gb262)); clear HB; have HB:=n0_; have BK262:=n1_; have GW262:=n2_; have GE262:=n3_; clear n0_ n1_ n2_ n3_; clear hb hbox hg) | ((with_reducible refine zat (N:=3) rfl ?_); refine zas ?hg (N:=3) ?hd (cs:=#[.bool a1_0,.slice A1_1 l1_1.length c1_1,.slice A1_2 l1_2.length c1_2]) (t:=25) ?hr ?_; (case hd=>rfl); (case hg=>rfl); (case hr=>first | (go_simp; done) | (go_simp; rfl)); intro gb263 hg w8 hbox hb; have n0_:=Aside0.mk (zal (g:=gb262) (o:=.cells #[.bool a0_0,.slice A0_1 l0_1.length c0_1,.slice A0_2 l0_2.length c0_2] 36 (0,0)) (by (with_reducible repeat (first | refine zah ?_ _ | refine zai ?_ | refine zaf ?_ _)); exact BK262.out) hb); have n1_:=Aside0.mk (zag (by repeat (first | (with_reducible first | exact HB.out | apply zab | apply zaa | apply zac | refine zad ?_ GE262.out) | exact HB.out)) hb); have n2_:=Aside0.mk (hbox); have n3_:=Aside0.mk ((by rw [hg]; exact(zak (by repeat (first | (with_reducible first | exact HB.out | apply zab | apply zaa | apply zac | refine zad ?_ GE262.out) | exact HB.out))):w.heap.size≤gb263)); have n4_:=Aside0.mk ((by rw [hg]; exact(zak (by repeat (first | (with_reducible first | exact HB.out | apply zab | apply zaa | apply zac | refine zad ?_ GE262.out) | exact HB.out))):w.heap.size≤gb263)); have n5_:=Aside0.mk ((by rw [hg]; exact Nat.ne_of_lt (zaA (g:=gb262) (o:=.cells #[.bool a0_0,.slice A0_1 l0_1.length c0_1,.slice A0_2 l0_2.length c0_2] 36 (0,0)) (by (with_reducible repeat (first | refine zah ?_ _ | refine zai ?_ | refine zaf ?_ _)); exact BK262.out)):gb262≠gb263)); have n6_:=Aside0.mk ((by rw [hg]; exact Nat.ne_of_gt (zaA (g:=gb262) (o:=.cells #[.bool a0_0,.slice A0_1 l0_1.length c0_1,.slice A0_2 l0_2.length c0_2] 36 (0,0)) (by (with_reducible repeat (first | refine zah ?_ _ | refine zai ?_ | refine zaf ?_ _)); exact BK262.out)):gb263≠gb262)); clear BK262; clear HB; have BK262:=n0_; have HB:=n1_; have BK263:=n2_; have GW263:=n3_; have GE263:=n4_; have NB262_263:=n5_; have NB263_262:=n6_; clear n0_ n1_ n2_ n3_ n4_ n5_ n6_; clear hb hbox hg; have hnb9:=NB263_262.out; have hnc9:=NB262_263.out; have hcz10_0:w8.cell? ⟨gb263,0,none⟩=some (.bool a1_0):=(zae BK263.out 0).trans rfl; have hcz10_1:w8.cell? ⟨gb263,1,none⟩=some (.slice A1_1 l1_1.length c1_1):=(zae BK263.out 1).trans rfl; have hcz10_2:w8.cell? ⟨gb263,2,none⟩=some (.slice A1_2 l1_2.length c1_2):=(zae BK263.out 2).trans rfl; have hfz10_0:=zaj BK263.out 0; have hfz10_1:=zaj BK263.out 1; have hfz10_2:=zaj BK263.out 2; have hcz11_0:w8.cell? ⟨gb262,0,none⟩=some (.bool a0_0):=(zae BK262.out 0).trans rfl; have hcz11_1:w8.cell? ⟨gb262,1,none⟩=some (.slice A0_1 l0_1.length c0_1):=(zae BK262.out 1).trans rfl; have hcz11_2:w8.cell? ⟨gb262,2,none⟩=some (.slice A0_2 l0_2.length c0_2):=(zae BK262.out 2).trans rfl; have hfz11_0:=zaj BK262.out 0; have hfz11_1:=zaj BK262.out 1; have hfz11_2:=zaj BK262.out 2) | (go_at_call 61; (with_reducible refine(fluxionref01_Is.calls k _ _ l0_1 _ _ l1_1 true _ ?side1 ?side2 ?side3 ?side4 A4.out).mono ?_); (case side1=>repeat (first | exact(Kd.C_below HR0_1.out HB.out) | (with_reducible refine Kd.C_alloc ?_ _) | (with_reducible refine Kd.C_drewN ?_ _) | (with_reducible refine Kd.C_drew ?_))); (case side2=>exact HC0_1.out); (case side3=>repeat (first | exact(Kd.C_below HR1_1.out HB.out) | (with_reducible refine Kd.C_alloc ?_ _) | (with_reducible refine Kd.C_drewN ?_ _) | (with_reducible refine Kd.C_drew ?_))); (case side4=>exact HC1_1.out); rintro e w12 ⟨rfl,hb⟩; have n0_:=Aside0.mk (zal (g:=gb262) (o:=.cells #[.bool a0_0,.slice A0_1 l0_1.length c0_1,.slice A0_2 l0_2.length c0_2] 36 (0,0)) (by (with_reducible repeat (first | refine zah ?_ _ | refine zai ?_ | refine zaf ?_ _)); exact BK262.out) hb); have n1_:=Aside0.mk (zal (g:=gb263) (o:=.cells #[.bool a1_0,.slice A1_1 l1_1.length c1_1,.slice A1_2 l1_2.length c1_2] 25 (0,0)) (by (with_reducible repeat (first | refine zah ?_ _ | refine zai ?_ | refine zaf ?_ _)); exact BK263.out) hb); have n2_:=Aside0.mk (zag (by repeat (first | (with_reducible first | exact HB.out | apply zab | apply zaa | apply zac | refine zad ?_ GE262.out | refine zad ?_ GE263.out) | exact HB.out)) hb); clear BK262; clear BK263; clear HB; have BK262:=n0_; have BK263:=n1_; have HB:=n2_; clear n0_ n1_ n2_; (try clear hb); (try clear hb2); (try clear hk); (try clear hi); have hcz13_0:w12.cell? ⟨gb262,0,none⟩=some (.bool a0_0):=(zae BK262.out 0).trans rfl; have hcz13_1:w12.cell? ⟨gb262,1,none⟩=some (.slice A0_1 l0_1.length c0_1):=(zae BK262.out 1).trans rfl; have hcz13_2:w12.cell? ⟨gb262,2,none⟩=some (.slice A0_2 l0_2.length c0_2):=(zae BK262.out 2).trans rfl; have hfz13_0:=zaj BK262.out 0; have hfz13_1:=zaj BK262.out 1; have hfz13_2:=zaj BK262.out 2; have hcz14_0:w12.cell? ⟨gb263,0,none⟩=some (.bool a1_0):=(zae BK263.out 0).trans rfl; have hcz14_1:w12.cell? ⟨gb263,1,none⟩=some (.slice A1_1 l1_1.length c1_1):=(zae BK263.out 1).trans rfl; have hcz14_2:w12.cell? ⟨gb263,2,none⟩=some (.slice A1_2 l1_2.length c1_2):=(zae BK263.out 2).trans rfl; have hfz14_0:=zaj BK263.out 0; have hfz14_1:=zaj BK263.out 1; have hfz14_2:=zaj BK263.out 2) | (go_at_call 61; (with_reducible refine(fluxionref01_Is.calls k _ _ l0_2 _ _ l1_2 t265 _ ?side1 ?side2 ?side3 ?side4 A6.out).mono ?_); (case side1=>repeat (first | exact(Kd.C_below HR0_2.out HB.out) | (with_reducible refine Kd.C_alloc ?_ _) | (with_reducible refine Kd.C_drewN ?_ _) | (with_reducible refine Kd.C_drew ?_))); (case side2=>exact HC0_2.out); (case side3=>repeat (first | exact(Kd.C_below HR1_2.out HB.out) | (with_reducible refine Kd.C_alloc ?_ _) | (with_reducible refine Kd.C_drewN ?_ _) | (with_reducible refine Kd.C_drew ?_))); (case side4=>exact HC1_2.out); rintro e w15 ⟨rfl,hb⟩; have n0_:=Aside0.mk (zal (g:=gb262) (o:=.cells #[.bool a0_0,.slice A0_1 l0_1.length c0_1,.slice A0_2 l0_2.length c0_2] 36 (0,0)) (by (with_reducible repeat (first | refine zah ?_ _ | refine zai ?_ | refine zaf ?_ _)); exact BK262.out) hb); have n1_:=Aside0.mk (zal (g:=gb263) (o:=.cells #[.bool a1_0,.slice A1_1 l1_1.length c1_1,.slice A1_2 l1_2.length c1_2] 25 (0,0)) (by (with_reducible repeat (first | refine zah ?_ _ | refine zai ?_ | refine zaf ?_ _)); exact BK263.out) hb); have n2_:=Aside0.mk (zag (by repeat (first | (with_reducible first | exact HB.out | apply zab | apply zaa | apply zac | refine zad ?_ GE262.out | refine zad ?_ GE263.out) | exact HB.out)) hb); clear BK262; clear BK263; clear HB; have BK262:=n0_; have BK263:=n1_; have HB:=n2_; clear n0_ n1_ n2_; (try clear hb); (try clear hb2); (try clear hk); (try clear hi)))
   go_ret
   exact⟨by first | rfl | (simp [zam,zan]<;>rfl) | (simp [*,zam,zan]<;>rfl),by repeat (first | (with_reducible first | exact HB.out | apply zab | apply zaa | apply zac | refine zad ?_ GE262.out | refine zad ?_ GE263.out) | exact HB.out)⟩
  ·
   replace c5:=Bool.eq_false_iff.mpr c5
   subst c5
   have H1:(some false)=some r:=by rw [if_neg (show ¬ (false=true) by decide)] at H; exact H
   clear H
   have H:=H1
   clear H1
   obtain rfl:=Option.some.inj H
   go_enter Try.func20,Try.ntmps20
   go_wp2_with (first | ((with_reducible refine zat (N:=2) rfl ?_); refine zas ?hg (N:=2) ?hd (cs:=#[.bool a0_0,.slice A0_1 l0_1.length c0_1,.slice A0_2 l0_2.length c0_2]) (t:=36) ?hr ?_; (case hd=>rfl); (case hg=>rfl); (case hr=>first | (go_simp; done) | (go_simp; rfl)); intro gb262 hg w16 hbox hb; have n0_:=Aside0.mk (zag (by repeat (first | (with_reducible first | exact HB.out | apply zab | apply zaa | apply zac) | exact HB.out)) hb); have n1_:=Aside0.mk (hbox); have n2_:=Aside0.mk ((by rw [hg]; exact(zak (by repeat (first | (with_reducible first | exact HB.out | apply zab | apply zaa | apply zac) | exact HB.out))):w.heap.size≤gb262)); have n3_:=Aside0.mk ((by rw [hg]; exact(zak (by repeat (first | (with_reducible first | exact HB.out | apply zab | apply zaa | apply zac) | exact HB.out))):w.heap.size≤gb262)); clear HB; have HB:=n0_; have BK262:=n1_; have GW262:=n2_; have GE262:=n3_; clear n0_ n1_ n2_ n3_; clear hb hbox hg) | ((with_reducible refine zat (N:=3) rfl ?_); refine zas ?hg (N:=3) ?hd (cs:=#[.bool a1_0,.slice A1_1 l1_1.length c1_1,.slice A1_2 l1_2.length c1_2]) (t:=25) ?hr ?_; (case hd=>rfl); (case hg=>rfl); (case hr=>first | (go_simp; done) | (go_simp; rfl)); intro gb263 hg w17 hbox hb; have n0_:=Aside0.mk (zal (g:=gb262) (o:=.cells #[.bool a0_0,.slice A0_1 l0_1.length c0_1,.slice A0_2 l0_2.length c0_2] 36 (0,0)) (by (with_reducible repeat (first | refine zah ?_ _ | refine zai ?_ | refine zaf ?_ _)); exact BK262.out) hb); have n1_:=Aside0.mk (zag (by repeat (first | (with_reducible first | exact HB.out | apply zab | apply zaa | apply zac | refine zad ?_ GE262.out) | exact HB.out)) hb); have n2_:=Aside0.mk (hbox); have n3_:=Aside0.mk ((by rw [hg]; exact(zak (by repeat (first | (with_reducible first | exact HB.out | apply zab | apply zaa | apply zac | refine zad ?_ GE262.out) | exact HB.out))):w.heap.size≤gb263)); have n4_:=Aside0.mk ((by rw [hg]; exact(zak (by repeat (first | (with_reducible first | exact HB.out | apply zab | apply zaa | apply zac | refine zad ?_ GE262.out) | exact HB.out))):w.heap.size≤gb263)); have n5_:=Aside0.mk ((by rw [hg]; exact Nat.ne_of_lt (zaA (g:=gb262) (o:=.cells #[.bool a0_0,.slice A0_1 l0_1.length c0_1,.slice A0_2 l0_2.length c0_2] 36 (0,0)) (by (with_reducible repeat (first | refine zah ?_ _ | refine zai ?_ | refine zaf ?_ _)); exact BK262.out)):gb262≠gb263)); have n6_:=Aside0.mk ((by rw [hg]; exact Nat.ne_of_gt (zaA (g:=gb262) (o:=.cells #[.bool a0_0,.slice A0_1 l0_1.length c0_1,.slice A0_2 l0_2.length c0_2] 36 (0,0)) (by (with_reducible repeat (first | refine zah ?_ _ | refine zai ?_ | refine zaf ?_ _)); exact BK262.out)):gb263≠gb262)); clear BK262; clear HB; have BK262:=n0_; have HB:=n1_; have BK263:=n2_; have GW263:=n3_; have GE263:=n4_; have NB262_263:=n5_; have NB263_262:=n6_; clear n0_ n1_ n2_ n3_ n4_ n5_ n6_; clear hb hbox hg; have hnb18:=NB263_262.out; have hnc18:=NB262_263.out; have hcz19_0:w17.cell? ⟨gb263,0,none⟩=some (.bool a1_0):=(zae BK263.out 0).trans rfl; have hcz19_1:w17.cell? ⟨gb263,1,none⟩=some (.slice A1_1 l1_1.length c1_1):=(zae BK263.out 1).trans rfl; have hcz19_2:w17.cell? ⟨gb263,2,none⟩=some (.slice A1_2 l1_2.length c1_2):=(zae BK263.out 2).trans rfl; have hfz19_0:=zaj BK263.out 0; have hfz19_1:=zaj BK263.out 1; have hfz19_2:=zaj BK263.out 2; have hcz20_0:w17.cell? ⟨gb262,0,none⟩=some (.bool a0_0):=(zae BK262.out 0).trans rfl; have hcz20_1:w17.cell? ⟨gb262,1,none⟩=some (.slice A0_1 l0_1.length c0_1):=(zae BK262.out 1).trans rfl; have hcz20_2:w17.cell? ⟨gb262,2,none⟩=some (.slice A0_2 l0_2.length c0_2):=(zae BK262.out 2).trans rfl; have hfz20_0:=zaj BK262.out 0; have hfz20_1:=zaj BK262.out 1; have hfz20_2:=zaj BK262.out 2) | (go_at_call 61; (with_reducible refine(fluxionref01_Is.calls k _ _ l0_1 _ _ l1_1 false _ ?side1 ?side2 ?side3 ?side4 A4.out).mono ?_); (case side1=>repeat (first | exact(Kd.C_below HR0_1.out HB.out) | (with_reducible refine Kd.C_alloc ?_ _) | (with_reducible refine Kd.C_drewN ?_ _) | (with_reducible refine Kd.C_drew ?_))); (case side2=>exact HC0_1.out); (case side3=>repeat (first | exact(Kd.C_below HR1_1.out HB.out) | (with_reducible refine Kd.C_alloc ?_ _) | (with_reducible refine Kd.C_drewN ?_ _) | (with_reducible refine Kd.C_drew ?_))); (case side4=>exact HC1_1.out); rintro e w21 ⟨rfl,hb⟩; have n0_:=Aside0.mk (zal (g:=gb262) (o:=.cells #[.bool a0_0,.slice A0_1 l0_1.length c0_1,.slice A0_2 l0_2.length c0_2] 36 (0,0)) (by (with_reducible repeat (first | refine zah ?_ _ | refine zai ?_ | refine zaf ?_ _)); exact BK262.out) hb); have n1_:=Aside0.mk (zal (g:=gb263) (o:=.cells #[.bool a1_0,.slice A1_1 l1_1.length c1_1,.slice A1_2 l1_2.length c1_2] 25 (0,0)) (by (with_reducible repeat (first | refine zah ?_ _ | refine zai ?_ | refine zaf ?_ _)); exact BK263.out) hb); have n2_:=Aside0.mk (zag (by repeat (first | (with_reducible first | exact HB.out | apply zab | apply zaa | apply zac | refine zad ?_ GE262.out | refine zad ?_ GE263.out) | exact HB.out)) hb); clear BK262; clear BK263; clear HB; have BK262:=n0_; have BK263:=n1_; have HB:=n2_; clear n0_ n1_ n2_; (try clear hb); (try clear hb2); (try clear hk); (try clear hi)))
   go_ret
   exact⟨by first | rfl | (simp [zam,zan]<;>rfl) | (simp [*,zam,zan]<;>rfl),by repeat (first | (with_reducible first | exact HB.out | apply zab | apply zaa | apply zac | refine zad ?_ GE262.out | refine zad ?_ GE263.out) | exact HB.out)⟩
 ·
  rw [if_neg c3] at H
  have c3b0:(a1_0 == a0_0)=false:=by simpa using c3
  (try (have c3b1:decide (a1_0=a0_0)=false:=by simpa using c3))
  (try (have c3b2:(a1_0 == a0_0)=false:=by simpa using c3))
  (try (have c3b3:¬ (a1_0=a0_0):=by simpa using c3))
  clear c3
  obtain rfl:=Option.some.inj H
  go_enter Try.func20,Try.ntmps20
  go_wp2_with (first | ((with_reducible refine zat (N:=2) rfl ?_); refine zas ?hg (N:=2) ?hd (cs:=#[.bool a0_0,.slice A0_1 l0_1.length c0_1,.slice A0_2 l0_2.length c0_2]) (t:=36) ?hr ?_; (case hd=>rfl); (case hg=>rfl); (case hr=>first | (go_simp; done) | (go_simp; rfl)); intro gb262 hg w22 hbox hb; have n0_:=Aside0.mk (zag (by repeat (first | (with_reducible first | exact HB.out | apply zab | apply zaa | apply zac) | exact HB.out)) hb); have n1_:=Aside0.mk (hbox); have n2_:=Aside0.mk ((by rw [hg]; exact(zak (by repeat (first | (with_reducible first | exact HB.out | apply zab | apply zaa | apply zac) | exact HB.out))):w.heap.size≤gb262)); have n3_:=Aside0.mk ((by rw [hg]; exact(zak (by repeat (first | (with_reducible first | exact HB.out | apply zab | apply zaa | apply zac) | exact HB.out))):w.heap.size≤gb262)); clear HB; have HB:=n0_; have BK262:=n1_; have GW262:=n2_; have GE262:=n3_; clear n0_ n1_ n2_ n3_; clear hb hbox hg) | ((with_reducible refine zat (N:=3) rfl ?_); refine zas ?hg (N:=3) ?hd (cs:=#[.bool a1_0,.slice A1_1 l1_1.length c1_1,.slice A1_2 l1_2.length c1_2]) (t:=25) ?hr ?_; (case hd=>rfl); (case hg=>rfl); (case hr=>first | (go_simp; done) | (go_simp; rfl)); intro gb263 hg w23 hbox hb; have n0_:=Aside0.mk (zal (g:=gb262) (o:=.cells #[.bool a0_0,.slice A0_1 l0_1.length c0_1,.slice A0_2 l0_2.length c0_2] 36 (0,0)) (by (with_reducible repeat (first | refine zah ?_ _ | refine zai ?_ | refine zaf ?_ _)); exact BK262.out) hb); have n1_:=Aside0.mk (zag (by repeat (first | (with_reducible first | exact HB.out | apply zab | apply zaa | apply zac | refine zad ?_ GE262.out) | exact HB.out)) hb); have n2_:=Aside0.mk (hbox); have n3_:=Aside0.mk ((by rw [hg]; exact(zak (by repeat (first | (with_reducible first | exact HB.out | apply zab | apply zaa | apply zac | refine zad ?_ GE262.out) | exact HB.out))):w.heap.size≤gb263)); have n4_:=Aside0.mk ((by rw [hg]; exact(zak (by repeat (first | (with_reducible first | exact HB.out | apply zab | apply zaa | apply zac | refine zad ?_ GE262.out) | exact HB.out))):w.heap.size≤gb263)); have n5_:=Aside0.mk ((by rw [hg]; exact Nat.ne_of_lt (zaA (g:=gb262) (o:=.cells #[.bool a0_0,.slice A0_1 l0_1.length c0_1,.slice A0_2 l0_2.length c0_2] 36 (0,0)) (by (with_reducible repeat (first | refine zah ?_ _ | refine zai ?_ | refine zaf ?_ _)); exact BK262.out)):gb262≠gb263)); have n6_:=Aside0.mk ((by rw [hg]; exact Nat.ne_of_gt (zaA (g:=gb262) (o:=.cells #[.bool a0_0,.slice A0_1 l0_1.length c0_1,.slice A0_2 l0_2.length c0_2] 36 (0,0)) (by (with_reducible repeat (first | refine zah ?_ _ | refine zai ?_ | refine zaf ?_ _)); exact BK262.out)):gb263≠gb262)); clear BK262; clear HB; have BK262:=n0_; have HB:=n1_; have BK263:=n2_; have GW263:=n3_; have GE263:=n4_; have NB262_263:=n5_; have NB263_262:=n6_; clear n0_ n1_ n2_ n3_ n4_ n5_ n6_; clear hb hbox hg; have hnb24:=NB263_262.out; have hnc24:=NB262_263.out; have hcz25_0:w23.cell? ⟨gb263,0,none⟩=some (.bool a1_0):=(zae BK263.out 0).trans rfl; have hcz25_1:w23.cell? ⟨gb263,1,none⟩=some (.slice A1_1 l1_1.length c1_1):=(zae BK263.out 1).trans rfl; have hcz25_2:w23.cell? ⟨gb263,2,none⟩=some (.slice A1_2 l1_2.length c1_2):=(zae BK263.out 2).trans rfl; have hfz25_0:=zaj BK263.out 0; have hfz25_1:=zaj BK263.out 1; have hfz25_2:=zaj BK263.out 2; have hcz26_0:w23.cell? ⟨gb262,0,none⟩=some (.bool a0_0):=(zae BK262.out 0).trans rfl; have hcz26_1:w23.cell? ⟨gb262,1,none⟩=some (.slice A0_1 l0_1.length c0_1):=(zae BK262.out 1).trans rfl; have hcz26_2:w23.cell? ⟨gb262,2,none⟩=some (.slice A0_2 l0_2.length c0_2):=(zae BK262.out 2).trans rfl; have hfz26_0:=zaj BK262.out 0; have hfz26_1:=zaj BK262.out 1; have hfz26_2:=zaj BK262.out 2))
  go_ret
  exact⟨by first | rfl | (simp [zam,zan]<;>rfl) | (simp [*,zam,zan]<;>rfl),by repeat (first | (with_reducible first | exact HB.out | apply zab | apply zaa | apply zac | refine zad ?_ GE262.out | refine zad ?_ GE263.out) | exact HB.out)⟩
def fluxionref03_May.f (k:Nat) (a0_0:Bool) (l0_1:List Int) (l0_2:List Int):Option (Int):=(fluxionref03_Of.f k a0_0 l0_1 l0_2).bind fun bt267=>((fluxionref03_Is.f k bt267.1 bt267.2.1 bt267.2.2 a0_0 l0_1 l0_2).bind fun t275=>(if t275=true then (some 0) else (some 6)))
set_option maxHeartbeats 8000000 in
set_option maxRecDepth 100000 in
theorem fluxionref03_May.calls (k:Nat) (a0_0:Bool) (A0_1:Option Addr) (c0_1:Nat) (l0_1:List Int) (A0_2:Option Addr) (c0_2:Nat) (l0_2:List Int) (r:Int) (w:World) (hr0_1:Kd.C (Kd.int .u32) w A0_1 l0_1.length l0_1) (hc0_1:l0_1.length≤c0_1) (hr0_2:Kd.C (Kd.int .u32) w A0_2 l0_2.length l0_2) (hc0_2:l0_2.length≤c0_2) (h:fluxionref03_May.f k a0_0 l0_1 l0_2=some r) :
  Calls Try.prog 19 #[.agg #[.bool a0_0,.slice A0_1 l0_1.length c0_1,.slice A0_2 l0_2.length c0_2]] w fun e w'=>e=.returned (.int .i64 r)∧Below w.heap.size w w':=by
 have hu25:=Try.underlying25
 have hu36:=Try.underlying36
 have HR0_1:=Aside0.mk hr0_1
 have HC0_1:=Aside0.mk hc0_1
 clear hr0_1 hc0_1
 have HR0_2:=Aside0.mk hr0_2
 have HC0_2:=Aside0.mk hc0_2
 clear hr0_2 hc0_2
 have HB:=Aside0.mk (Below.refl w.heap.size w)
 have H:((fluxionref03_Of.f k a0_0 l0_1 l0_2).bind fun bt267=>((fluxionref03_Is.f k bt267.1 bt267.2.1 bt267.2.2 a0_0 l0_1 l0_2).bind fun t275=>(if t275=true then (some 0) else (some 6))))=some r:=h
 clear h
 replace H:=Option.bind_eq_some_iff.mp H
 obtain⟨⟨t267,t268,t271⟩,A20,H⟩:=H
 replace H:((fluxionref03_Is.f k t267 t268 t271 a0_0 l0_1 l0_2).bind fun t275=>(if t275=true then (some 0) else (some 6)))=some r:=H
 have A2:=Aside0.mk A20
 clear A20
 replace H:=Option.bind_eq_some_iff.mp H
 obtain⟨t275,A30,H⟩:=H
 replace H:(if t275=true then (some 0) else (some 6))=some r:=H
 have A3:=Aside0.mk A30
 clear A30
 by_cases c4:t275=true
 ·
  subst c4
  have H1:(some 0)=some r:=by rw [if_pos rfl] at H; exact H
  clear H
  have H:=H1
  clear H1
  obtain rfl:=Option.some.inj H
  go_enter Try.func19,Try.ntmps19
  go_wp2_with (first | ((with_reducible refine zat (N:=1) rfl ?_); refine zas ?hg (N:=1) ?hd (cs:=#[.bool a0_0,.slice A0_1 l0_1.length c0_1,.slice A0_2 l0_2.length c0_2]) (t:=25) ?hr ?_; (case hd=>rfl); (case hg=>rfl); (case hr=>first | (go_simp; done) | (go_simp; rfl)); intro gb266 hg w5 hbox hb; have n0_:=Aside0.mk (zag (by repeat (first | (with_reducible first | exact HB.out | apply zab | apply zaa | apply zac) | exact HB.out)) hb); have n1_:=Aside0.mk (hbox); have n2_:=Aside0.mk ((by rw [hg]; exact(zak (by repeat (first | (with_reducible first | exact HB.out | apply zab | apply zaa | apply zac) | exact HB.out))):w.heap.size≤gb266)); have n3_:=Aside0.mk ((by rw [hg]; exact(zak (by repeat (first | (with_reducible first | exact HB.out | apply zab | apply zaa | apply zac) | exact HB.out))):w.heap.size≤gb266)); clear HB; have HB:=n0_; have BK266:=n1_; have GW266:=n2_; have GE266:=n3_; clear n0_ n1_ n2_ n3_; clear hb hbox hg; have hcz6_0:w5.cell? ⟨gb266,0,none⟩=some (.bool a0_0):=(zae BK266.out 0).trans rfl; have hcz6_1:w5.cell? ⟨gb266,1,none⟩=some (.slice A0_1 l0_1.length c0_1):=(zae BK266.out 1).trans rfl; have hcz6_2:w5.cell? ⟨gb266,2,none⟩=some (.slice A0_2 l0_2.length c0_2):=(zae BK266.out 2).trans rfl; have hfz6_0:=zaj BK266.out 0; have hfz6_1:=zaj BK266.out 1; have hfz6_2:=zaj BK266.out 2) | ((with_reducible refine zap (f:=21) rfl ?_); refine zay (some 5) rfl rfl Try.func21 (by kernel_rfl) rfl #[.agg #[.bool a0_0,.slice A0_1 l0_1.length c0_1,.slice A0_2 l0_2.length c0_2]] rfl (by (try simp only [List.map_toArray,List.map_cons,List.map_nil]); first | done | rfl | (simp only [List.length_drop,List.length_take]; rfl)) ?_; (with_reducible refine(fluxionref03_Of.calls k a0_0 _ _ l0_1 _ _ l0_2 t267 t268 t271 _ ?side1 ?side2 ?side3 ?side4 A2.out).mono ?_); (case side1=>repeat (first | exact(Kd.C_below HR0_1.out HB.out) | (with_reducible refine Kd.C_alloc ?_ _) | (with_reducible refine Kd.C_drewN ?_ _) | (with_reducible refine Kd.C_drew ?_))); (case side2=>exact HC0_1.out); (case side3=>repeat (first | exact(Kd.C_below HR0_2.out HB.out) | (with_reducible refine Kd.C_alloc ?_ _) | (with_reducible refine Kd.C_drewN ?_ _) | (with_reducible refine Kd.C_drew ?_))); (case side4=>exact HC0_2.out); rintro e w7 ⟨v269,v272,rfl,ho0,ho1,hb⟩; refine⟨_,rfl,?_⟩; have n0_:=Aside0.mk (Kd.R_lower ho0 (zak (by repeat (first | (with_reducible first | exact HB.out | apply zab | apply zaa | apply zac | refine zad ?_ GE266.out) | exact HB.out)))); have n1_:=Aside0.mk (Kd.R_lower ho1 (zak (by repeat (first | (with_reducible first | exact HB.out | apply zab | apply zaa | apply zac | refine zad ?_ GE266.out) | exact HB.out)))); have n2_:=Aside0.mk (zal (g:=gb266) (o:=.cells #[.bool a0_0,.slice A0_1 l0_1.length c0_1,.slice A0_2 l0_2.length c0_2] 25 (0,0)) (by (with_reducible repeat (first | refine zah ?_ _ | refine zai ?_ | refine zaf ?_ _)); exact BK266.out) hb); have n3_:=Aside0.mk (zag (by repeat (first | (with_reducible first | exact HB.out | apply zab | apply zaa | apply zac | refine zad ?_ GE266.out) | exact HB.out)) hb); clear BK266; clear HB; have HO270:=n0_; have HO273:=n1_; have BK266:=n2_; have HB:=n3_; clear n0_ n1_ n2_ n3_; (try clear hb); (try clear hb2); (try clear hk); (try clear hi); (try clear ho0); (try clear ho1)) | ((with_reducible refine zat (N:=3) rfl ?_); refine zas ?hg (N:=3) ?hd (cs:=#[.bool false,.slice none 0 0,.slice none 0 0]) (t:=36) ?hr ?_; (case hd=>rfl); (case hg=>rfl); (case hr=>first | (go_simp; done) | (go_simp; rfl)); intro gb274 hg w8 hbox hb; have n0_:=Aside0.mk (Kd.R_below (by (with_reducible repeat (first | apply Kd.R_alloc | apply Kd.R_drewN | apply Kd.R_drew)); exact HO270.out) hb); have n1_:=Aside0.mk (Kd.R_below (by (with_reducible repeat (first | apply Kd.R_alloc | apply Kd.R_drewN | apply Kd.R_drew)); exact HO273.out) hb); have n2_:=Aside0.mk (zal (g:=gb266) (o:=.cells #[.bool a0_0,.slice A0_1 l0_1.length c0_1,.slice A0_2 l0_2.length c0_2] 25 (0,0)) (by (with_reducible repeat (first | refine zah ?_ _ | refine zai ?_ | refine zaf ?_ _)); exact BK266.out) hb); have n3_:=Aside0.mk (zag (by repeat (first | (with_reducible first | exact HB.out | apply zab | apply zaa | apply zac | refine zad ?_ GE266.out) | exact HB.out)) hb); have n4_:=Aside0.mk (hbox); have n5_:=Aside0.mk ((by rw [hg]; exact(zak (by repeat (first | (with_reducible first | exact HB.out | apply zab | apply zaa | apply zac | refine zad ?_ GE266.out) | exact HB.out))):w.heap.size≤gb274)); have n6_:=Aside0.mk ((by rw [hg]; exact(zak (by repeat (first | (with_reducible first | exact HB.out | apply zab | apply zaa | apply zac | refine zad ?_ GE266.out) | exact HB.out))):w.heap.size≤gb274)); have n7_:=Aside0.mk ((by rw [hg]; exact Nat.ne_of_lt (zaA (g:=gb266) (o:=.cells #[.bool a0_0,.slice A0_1 l0_1.length c0_1,.slice A0_2 l0_2.length c0_2] 25 (0,0)) (by (with_reducible repeat (first | refine zah ?_ _ | refine zai ?_ | refine zaf ?_ _)); exact BK266.out)):gb266≠gb274)); have n8_:=Aside0.mk ((by rw [hg]; exact Nat.ne_of_gt (zaA (g:=gb266) (o:=.cells #[.bool a0_0,.slice A0_1 l0_1.length c0_1,.slice A0_2 l0_2.length c0_2] 25 (0,0)) (by (with_reducible repeat (first | refine zah ?_ _ | refine zai ?_ | refine zaf ?_ _)); exact BK266.out)):gb274≠gb266)); clear HO270; clear HO273; clear BK266; clear HB; have HO270:=n0_; have HO273:=n1_; have BK266:=n2_; have HB:=n3_; have BK274:=n4_; have GW274:=n5_; have GE274:=n6_; have NB266_274:=n7_; have NB274_266:=n8_; clear n0_ n1_ n2_ n3_ n4_ n5_ n6_ n7_ n8_; clear hb hbox hg; have hnb9:=NB274_266.out; have hnc9:=NB266_274.out; have hcz10_0:w8.cell? ⟨gb274,0,none⟩=some (.bool false):=(zae BK274.out 0).trans rfl; have hcz10_1:w8.cell? ⟨gb274,1,none⟩=some (.slice none 0 0):=(zae BK274.out 1).trans rfl; have hcz10_2:w8.cell? ⟨gb274,2,none⟩=some (.slice none 0 0):=(zae BK274.out 2).trans rfl; have hfz10_0:=zaj BK274.out 0; have hfz10_1:=zaj BK274.out 1; have hfz10_2:=zaj BK274.out 2; obtain⟨Ao11,co11,eo11⟩:=Kd.R_slice HO270.out; subst eo11; obtain⟨Ao12,co12,eo12⟩:=Kd.R_slice HO273.out; subst eo12; have hcz13_0:w8.cell? ⟨gb266,0,none⟩=some (.bool a0_0):=(zae BK266.out 0).trans rfl; have hcz13_1:w8.cell? ⟨gb266,1,none⟩=some (.slice A0_1 l0_1.length c0_1):=(zae BK266.out 1).trans rfl; have hcz13_2:w8.cell? ⟨gb266,2,none⟩=some (.slice A0_2 l0_2.length c0_2):=(zae BK266.out 2).trans rfl; have hfz13_0:=zaj BK266.out 0; have hfz13_1:=zaj BK266.out 1; have hfz13_2:=zaj BK266.out 2) | ((with_reducible refine zap (f:=20) rfl ?_); refine zay (some 8) rfl rfl Try.func20 (by kernel_rfl) rfl #[.agg #[.bool t267,.slice Ao11 t268.length co11,.slice Ao12 t271.length co12],.agg #[.bool a0_0,.slice A0_1 l0_1.length c0_1,.slice A0_2 l0_2.length c0_2]] rfl (by (try simp only [List.map_toArray,List.map_cons,List.map_nil]); first | done | rfl | (simp only [List.length_drop,List.length_take]; rfl)) ?_; (with_reducible refine(fluxionref03_Is.calls k t267 _ _ t268 _ _ t271 a0_0 _ _ l0_1 _ _ l0_2 true _ ?side1 ?side2 ?side3 ?side4 ?side5 ?side6 ?side7 ?side8 A3.out).mono ?_); (case side1=>refine(Kd.R_reads' (e:=3) (base:=w.heap.size) (ok:=fun k_=>some k_≠(.slice Ao12 t271.length co12:Value).ownBlock) (n:=t268.length) (c:=co11) ?_).2.2; exact(by (with_reducible repeat (first | apply Kd.R_alloc | apply Kd.R_drewN | apply Kd.R_drew)); exact(Kd.R_mono (Kd.R_far (p:=⟨gb274,2,none⟩) (Kd.R_far (p:=⟨gb274,1,none⟩) (Kd.R_far (p:=⟨gb274,0,none⟩) (Kd.R_types HO270.out BK274.out (by decide)) (fun _ hk=>hk.2) (.bool t267)) (fun _ hk=>hk.2) (.slice Ao11 t268.length co11)) (fun _ hk=>hk.2) (.slice Ao12 t271.length co12)) (fun _ h_=>h_.1)))); (case side2=>exact(Kd.R_reads' HO270.out).2.1); (case side3=>refine(Kd.R_reads' (e:=3) (base:=w.heap.size) (ok:=fun k_=>some k_≠(.slice Ao11 t268.length co11:Value).ownBlock) (n:=t271.length) (c:=co12) ?_).2.2; exact(by (with_reducible repeat (first | apply Kd.R_alloc | apply Kd.R_drewN | apply Kd.R_drew)); exact(Kd.R_mono (Kd.R_far (p:=⟨gb274,2,none⟩) (Kd.R_far (p:=⟨gb274,1,none⟩) (Kd.R_far (p:=⟨gb274,0,none⟩) (Kd.R_types HO273.out BK274.out (by decide)) (fun _ hk=>hk.2) (.bool t267)) (fun _ hk=>hk.2) (.slice Ao11 t268.length co11)) (fun _ hk=>hk.2) (.slice Ao12 t271.length co12)) (fun _ h_=>h_.1)))); (case side4=>exact(Kd.R_reads' HO273.out).2.1); (case side5=>exact Kd.C_below HR0_1.out (by repeat (first | (with_reducible first | exact HB.out | apply zab | apply zaa | apply zac | refine zad ?_ GE266.out | refine zad ?_ GE274.out) | exact HB.out))); (case side6=>exact HC0_1.out); (case side7=>exact Kd.C_below HR0_2.out (by repeat (first | (with_reducible first | exact HB.out | apply zab | apply zaa | apply zac | refine zad ?_ GE266.out | refine zad ?_ GE274.out) | exact HB.out))); (case side8=>exact HC0_2.out); rintro e w14 ⟨rfl,hb⟩; refine⟨_,rfl,?_⟩; have n0_:=Aside0.mk (Kd.R_below (by (with_reducible repeat (first | apply Kd.R_alloc | apply Kd.R_drewN | apply Kd.R_drew)); exact(Kd.R_mono (Kd.R_far (p:=⟨gb274,2,none⟩) (Kd.R_far (p:=⟨gb274,1,none⟩) (Kd.R_far (p:=⟨gb274,0,none⟩) (Kd.R_types HO270.out BK274.out (by decide)) (fun _ hk=>hk.2) (.bool t267)) (fun _ hk=>hk.2) (.slice Ao11 t268.length co11)) (fun _ hk=>hk.2) (.slice Ao12 t271.length co12)) (fun _ h_=>h_.1))) hb); have n1_:=Aside0.mk (Kd.R_below (by (with_reducible repeat (first | apply Kd.R_alloc | apply Kd.R_drewN | apply Kd.R_drew)); exact(Kd.R_mono (Kd.R_far (p:=⟨gb274,2,none⟩) (Kd.R_far (p:=⟨gb274,1,none⟩) (Kd.R_far (p:=⟨gb274,0,none⟩) (Kd.R_types HO273.out BK274.out (by decide)) (fun _ hk=>hk.2) (.bool t267)) (fun _ hk=>hk.2) (.slice Ao11 t268.length co11)) (fun _ hk=>hk.2) (.slice Ao12 t271.length co12)) (fun _ h_=>h_.1))) hb); have n2_:=Aside0.mk (zal (g:=gb266) (o:=.cells #[.bool a0_0,.slice A0_1 l0_1.length c0_1,.slice A0_2 l0_2.length c0_2] 25 (0,0)) (by (with_reducible repeat (first | refine zah ?_ _ | refine zai ?_ | refine zaf ?_ _)); refine zax ?_ NB266_274.out _; (with_reducible repeat (first | refine zah ?_ _ | refine zai ?_ | refine zaf ?_ _)); refine zax ?_ NB266_274.out _; (with_reducible repeat (first | refine zah ?_ _ | refine zai ?_ | refine zaf ?_ _)); refine zax ?_ NB266_274.out _; (with_reducible repeat (first | refine zah ?_ _ | refine zai ?_ | refine zaf ?_ _)); exact BK266.out) hb); have n3_:=Aside0.mk (zal (g:=gb274) (o:=.cells #[.bool t267,.slice Ao11 t268.length co11,.slice Ao12 t271.length co12] 36 (0,0)) (by (with_reducible repeat (first | refine zah ?_ _ | refine zai ?_ | refine zaf ?_ _)); refine zav (cs:=#[.bool t267,.slice Ao11 t268.length co11,.slice none 0 0]) ?_ 2 _ rfl; (with_reducible repeat (first | refine zah ?_ _ | refine zai ?_ | refine zaf ?_ _)); refine zav (cs:=#[.bool t267,.slice none 0 0,.slice none 0 0]) ?_ 1 _ rfl; (with_reducible repeat (first | refine zah ?_ _ | refine zai ?_ | refine zaf ?_ _)); refine zav (cs:=#[.bool false,.slice none 0 0,.slice none 0 0]) ?_ 0 _ rfl; (with_reducible repeat (first | refine zah ?_ _ | refine zai ?_ | refine zaf ?_ _)); exact BK274.out) hb); have n4_:=Aside0.mk (zag (by repeat (first | (with_reducible first | exact HB.out | apply zab | apply zaa | apply zac | refine zad ?_ GE266.out | refine zad ?_ GE274.out) | exact HB.out)) hb); clear HO270; clear HO273; clear BK266; clear BK274; clear HB; have HO270:=n0_; have HO273:=n1_; have BK266:=n2_; have BK274:=n3_; have HB:=n4_; clear n0_ n1_ n2_ n3_ n4_; (try clear hb); (try clear hb2); (try clear hk); (try clear hi)))
  go_ret
  exact⟨by first | rfl | (simp [zam,zan]<;>rfl) | (simp [*,zam,zan]<;>rfl),by repeat (first | (with_reducible first | exact HB.out | apply zab | apply zaa | apply zac | refine zad ?_ GE266.out | refine zad ?_ GE274.out) | exact HB.out)⟩
 ·
  replace c4:=Bool.eq_false_iff.mpr c4
  subst c4
  have H1:(some 6)=some r:=by rw [if_neg (show ¬ (false=true) by decide)] at H; exact H
  clear H
  have H:=H1
  clear H1
  obtain rfl:=Option.some.inj H
  go_enter Try.func19,Try.ntmps19
  go_wp2_with (first | ((with_reducible refine zat (N:=1) rfl ?_); refine zas ?hg (N:=1) ?hd (cs:=#[.bool a0_0,.slice A0_1 l0_1.length c0_1,.slice A0_2 l0_2.length c0_2]) (t:=25) ?hr ?_; (case hd=>rfl); (case hg=>rfl); (case hr=>first | (go_simp; done) | (go_simp; rfl)); intro gb266 hg w15 hbox hb; have n0_:=Aside0.mk (zag (by repeat (first | (with_reducible first | exact HB.out | apply zab | apply zaa | apply zac) | exact HB.out)) hb); have n1_:=Aside0.mk (hbox); have n2_:=Aside0.mk ((by rw [hg]; exact(zak (by repeat (first | (with_reducible first | exact HB.out | apply zab | apply zaa | apply zac) | exact HB.out))):w.heap.size≤gb266)); have n3_:=Aside0.mk ((by rw [hg]; exact(zak (by repeat (first | (with_reducible first | exact HB.out | apply zab | apply zaa | apply zac) | exact HB.out))):w.heap.size≤gb266)); clear HB; have HB:=n0_; have BK266:=n1_; have GW266:=n2_; have GE266:=n3_; clear n0_ n1_ n2_ n3_; clear hb hbox hg; have hcz16_0:w15.cell? ⟨gb266,0,none⟩=some (.bool a0_0):=(zae BK266.out 0).trans rfl; have hcz16_1:w15.cell? ⟨gb266,1,none⟩=some (.slice A0_1 l0_1.length c0_1):=(zae BK266.out 1).trans rfl; have hcz16_2:w15.cell? ⟨gb266,2,none⟩=some (.slice A0_2 l0_2.length c0_2):=(zae BK266.out 2).trans rfl; have hfz16_0:=zaj BK266.out 0; have hfz16_1:=zaj BK266.out 1; have hfz16_2:=zaj BK266.out 2) | ((with_reducible refine zap (f:=21) rfl ?_); refine zay (some 5) rfl rfl Try.func21 (by kernel_rfl) rfl #[.agg #[.bool a0_0,.slice A0_1 l0_1.length c0_1,.slice A0_2 l0_2.length c0_2]] rfl (by (try simp only [List.map_toArray,List.map_cons,List.map_nil]); first | done | rfl | (simp only [List.length_drop,List.length_take]; rfl)) ?_; (with_reducible refine(fluxionref03_Of.calls k a0_0 _ _ l0_1 _ _ l0_2 t267 t268 t271 _ ?side1 ?side2 ?side3 ?side4 A2.out).mono ?_); (case side1=>repeat (first | exact(Kd.C_below HR0_1.out HB.out) | (with_reducible refine Kd.C_alloc ?_ _) | (with_reducible refine Kd.C_drewN ?_ _) | (with_reducible refine Kd.C_drew ?_))); (case side2=>exact HC0_1.out); (case side3=>repeat (first | exact(Kd.C_below HR0_2.out HB.out) | (with_reducible refine Kd.C_alloc ?_ _) | (with_reducible refine Kd.C_drewN ?_ _) | (with_reducible refine Kd.C_drew ?_))); (case side4=>exact HC0_2.out); rintro e w17 ⟨v269,v272,rfl,ho0,ho1,hb⟩; refine⟨_,rfl,?_⟩; have n0_:=Aside0.mk (Kd.R_lower ho0 (zak (by repeat (first | (with_reducible first | exact HB.out | apply zab | apply zaa | apply zac | refine zad ?_ GE266.out) | exact HB.out)))); have n1_:=Aside0.mk (Kd.R_lower ho1 (zak (by repeat (first | (with_reducible first | exact HB.out | apply zab | apply zaa | apply zac | refine zad ?_ GE266.out) | exact HB.out)))); have n2_:=Aside0.mk (zal (g:=gb266) (o:=.cells #[.bool a0_0,.slice A0_1 l0_1.length c0_1,.slice A0_2 l0_2.length c0_2] 25 (0,0)) (by (with_reducible repeat (first | refine zah ?_ _ | refine zai ?_ | refine zaf ?_ _)); exact BK266.out) hb); have n3_:=Aside0.mk (zag (by repeat (first | (with_reducible first | exact HB.out | apply zab | apply zaa | apply zac | refine zad ?_ GE266.out) | exact HB.out)) hb); clear BK266; clear HB; have HO270:=n0_; have HO273:=n1_; have BK266:=n2_; have HB:=n3_; clear n0_ n1_ n2_ n3_; (try clear hb); (try clear hb2); (try clear hk); (try clear hi); (try clear ho0); (try clear ho1)) | ((with_reducible refine zat (N:=3) rfl ?_); refine zas ?hg (N:=3) ?hd (cs:=#[.bool false,.slice none 0 0,.slice none 0 0]) (t:=36) ?hr ?_; (case hd=>rfl); (case hg=>rfl); (case hr=>first | (go_simp; done) | (go_simp; rfl)); intro gb274 hg w18 hbox hb; have n0_:=Aside0.mk (Kd.R_below (by (with_reducible repeat (first | apply Kd.R_alloc | apply Kd.R_drewN | apply Kd.R_drew)); exact HO270.out) hb); have n1_:=Aside0.mk (Kd.R_below (by (with_reducible repeat (first | apply Kd.R_alloc | apply Kd.R_drewN | apply Kd.R_drew)); exact HO273.out) hb); have n2_:=Aside0.mk (zal (g:=gb266) (o:=.cells #[.bool a0_0,.slice A0_1 l0_1.length c0_1,.slice A0_2 l0_2.length c0_2] 25 (0,0)) (by (with_reducible repeat (first | refine zah ?_ _ | refine zai ?_ | refine zaf ?_ _)); exact BK266.out) hb); have n3_:=Aside0.mk (zag (by repeat (first | (with_reducible first | exact HB.out | apply zab | apply zaa | apply zac | refine zad ?_ GE266.out) | exact HB.out)) hb); have n4_:=Aside0.mk (hbox); have n5_:=Aside0.mk ((by rw [hg]; exact(zak (by repeat (first | (with_reducible first | exact HB.out | apply zab | apply zaa | apply zac | refine zad ?_ GE266.out) | exact HB.out))):w.heap.size≤gb274)); have n6_:=Aside0.mk ((by rw [hg]; exact(zak (by repeat (first | (with_reducible first | exact HB.out | apply zab | apply zaa | apply zac | refine zad ?_ GE266.out) | exact HB.out))):w.heap.size≤gb274)); have n7_:=Aside0.mk ((by rw [hg]; exact Nat.ne_of_lt (zaA (g:=gb266) (o:=.cells #[.bool a0_0,.slice A0_1 l0_1.length c0_1,.slice A0_2 l0_2.length c0_2] 25 (0,0)) (by (with_reducible repeat (first | refine zah ?_ _ | refine zai ?_ | refine zaf ?_ _)); exact BK266.out)):gb266≠gb274)); have n8_:=Aside0.mk ((by rw [hg]; exact Nat.ne_of_gt (zaA (g:=gb266) (o:=.cells #[.bool a0_0,.slice A0_1 l0_1.length c0_1,.slice A0_2 l0_2.length c0_2] 25 (0,0)) (by (with_reducible repeat (first | refine zah ?_ _ | refine zai ?_ | refine zaf ?_ _)); exact BK266.out)):gb274≠gb266)); clear HO270; clear HO273; clear BK266; clear HB; have HO270:=n0_; have HO273:=n1_; have BK266:=n2_; have HB:=n3_; have BK274:=n4_; have GW274:=n5_; have GE274:=n6_; have NB266_274:=n7_; have NB274_266:=n8_; clear n0_ n1_ n2_ n3_ n4_ n5_ n6_ n7_ n8_; clear hb hbox hg; have hnb19:=NB274_266.out; have hnc19:=NB266_274.out; have hcz20_0:w18.cell? ⟨gb274,0,none⟩=some (.bool false):=(zae BK274.out 0).trans rfl; have hcz20_1:w18.cell? ⟨gb274,1,none⟩=some (.slice none 0 0):=(zae BK274.out 1).trans rfl; have hcz20_2:w18.cell? ⟨gb274,2,none⟩=some (.slice none 0 0):=(zae BK274.out 2).trans rfl; have hfz20_0:=zaj BK274.out 0; have hfz20_1:=zaj BK274.out 1; have hfz20_2:=zaj BK274.out 2; obtain⟨Ao21,co21,eo21⟩:=Kd.R_slice HO270.out; subst eo21; obtain⟨Ao22,co22,eo22⟩:=Kd.R_slice HO273.out; subst eo22; have hcz23_0:w18.cell? ⟨gb266,0,none⟩=some (.bool a0_0):=(zae BK266.out 0).trans rfl; have hcz23_1:w18.cell? ⟨gb266,1,none⟩=some (.slice A0_1 l0_1.length c0_1):=(zae BK266.out 1).trans rfl; have hcz23_2:w18.cell? ⟨gb266,2,none⟩=some (.slice A0_2 l0_2.length c0_2):=(zae BK266.out 2).trans rfl; have hfz23_0:=zaj BK266.out 0; have hfz23_1:=zaj BK266.out 1; have hfz23_2:=zaj BK266.out 2) | ((with_reducible refine zap (f:=20) rfl ?_); refine zay (some 8) rfl rfl Try.func20 (by kernel_rfl) rfl #[.agg #[.bool t267,.slice Ao21 t268.length co21,.slice Ao22 t271.length co22],.agg #[.bool a0_0,.slice A0_1 l0_1.length c0_1,.slice A0_2 l0_2.length c0_2]] rfl (by (try simp only [List.map_toArray,List.map_cons,List.map_nil]); first | done | rfl | (simp only [List.length_drop,List.length_take]; rfl)) ?_; (with_reducible refine(fluxionref03_Is.calls k t267 _ _ t268 _ _ t271 a0_0 _ _ l0_1 _ _ l0_2 false _ ?side1 ?side2 ?side3 ?side4 ?side5 ?side6 ?side7 ?side8 A3.out).mono ?_); (case side1=>refine(Kd.R_reads' (e:=3) (base:=w.heap.size) (ok:=fun k_=>some k_≠(.slice Ao22 t271.length co22:Value).ownBlock) (n:=t268.length) (c:=co21) ?_).2.2; exact(by (with_reducible repeat (first | apply Kd.R_alloc | apply Kd.R_drewN | apply Kd.R_drew)); exact(Kd.R_mono (Kd.R_far (p:=⟨gb274,2,none⟩) (Kd.R_far (p:=⟨gb274,1,none⟩) (Kd.R_far (p:=⟨gb274,0,none⟩) (Kd.R_types HO270.out BK274.out (by decide)) (fun _ hk=>hk.2) (.bool t267)) (fun _ hk=>hk.2) (.slice Ao21 t268.length co21)) (fun _ hk=>hk.2) (.slice Ao22 t271.length co22)) (fun _ h_=>h_.1)))); (case side2=>exact(Kd.R_reads' HO270.out).2.1); (case side3=>refine(Kd.R_reads' (e:=3) (base:=w.heap.size) (ok:=fun k_=>some k_≠(.slice Ao21 t268.length co21:Value).ownBlock) (n:=t271.length) (c:=co22) ?_).2.2; exact(by (with_reducible repeat (first | apply Kd.R_alloc | apply Kd.R_drewN | apply Kd.R_drew)); exact(Kd.R_mono (Kd.R_far (p:=⟨gb274,2,none⟩) (Kd.R_far (p:=⟨gb274,1,none⟩) (Kd.R_far (p:=⟨gb274,0,none⟩) (Kd.R_types HO273.out BK274.out (by decide)) (fun _ hk=>hk.2) (.bool t267)) (fun _ hk=>hk.2) (.slice Ao21 t268.length co21)) (fun _ hk=>hk.2) (.slice Ao22 t271.length co22)) (fun _ h_=>h_.1)))); (case side4=>exact(Kd.R_reads' HO273.out).2.1); (case side5=>exact Kd.C_below HR0_1.out (by repeat (first | (with_reducible first | exact HB.out | apply zab | apply zaa | apply zac | refine zad ?_ GE266.out | refine zad ?_ GE274.out) | exact HB.out))); (case side6=>exact HC0_1.out); (case side7=>exact Kd.C_below HR0_2.out (by repeat (first | (with_reducible first | exact HB.out | apply zab | apply zaa | apply zac | refine zad ?_ GE266.out | refine zad ?_ GE274.out) | exact HB.out))); (case side8=>exact HC0_2.out); rintro e w24 ⟨rfl,hb⟩; refine⟨_,rfl,?_⟩; have n0_:=Aside0.mk (Kd.R_below (by (with_reducible repeat (first | apply Kd.R_alloc | apply Kd.R_drewN | apply Kd.R_drew)); exact(Kd.R_mono (Kd.R_far (p:=⟨gb274,2,none⟩) (Kd.R_far (p:=⟨gb274,1,none⟩) (Kd.R_far (p:=⟨gb274,0,none⟩) (Kd.R_types HO270.out BK274.out (by decide)) (fun _ hk=>hk.2) (.bool t267)) (fun _ hk=>hk.2) (.slice Ao21 t268.length co21)) (fun _ hk=>hk.2) (.slice Ao22 t271.length co22)) (fun _ h_=>h_.1))) hb); have n1_:=Aside0.mk (Kd.R_below (by (with_reducible repeat (first | apply Kd.R_alloc | apply Kd.R_drewN | apply Kd.R_drew)); exact(Kd.R_mono (Kd.R_far (p:=⟨gb274,2,none⟩) (Kd.R_far (p:=⟨gb274,1,none⟩) (Kd.R_far (p:=⟨gb274,0,none⟩) (Kd.R_types HO273.out BK274.out (by decide)) (fun _ hk=>hk.2) (.bool t267)) (fun _ hk=>hk.2) (.slice Ao21 t268.length co21)) (fun _ hk=>hk.2) (.slice Ao22 t271.length co22)) (fun _ h_=>h_.1))) hb); have n2_:=Aside0.mk (zal (g:=gb266) (o:=.cells #[.bool a0_0,.slice A0_1 l0_1.length c0_1,.slice A0_2 l0_2.length c0_2] 25 (0,0)) (by (with_reducible repeat (first | refine zah ?_ _ | refine zai ?_ | refine zaf ?_ _)); refine zax ?_ NB266_274.out _; (with_reducible repeat (first | refine zah ?_ _ | refine zai ?_ | refine zaf ?_ _)); refine zax ?_ NB266_274.out _; (with_reducible repeat (first | refine zah ?_ _ | refine zai ?_ | refine zaf ?_ _)); refine zax ?_ NB266_274.out _; (with_reducible repeat (first | refine zah ?_ _ | refine zai ?_ | refine zaf ?_ _)); exact BK266.out) hb); have n3_:=Aside0.mk (zal (g:=gb274) (o:=.cells #[.bool t267,.slice Ao21 t268.length co21,.slice Ao22 t271.length co22] 36 (0,0)) (by (with_reducible repeat (first | refine zah ?_ _ | refine zai ?_ | refine zaf ?_ _)); refine zav (cs:=#[.bool t267,.slice Ao21 t268.length co21,.slice none 0 0]) ?_ 2 _ rfl; (with_reducible repeat (first | refine zah ?_ _ | refine zai ?_ | refine zaf ?_ _)); refine zav (cs:=#[.bool t267,.slice none 0 0,.slice none 0 0]) ?_ 1 _ rfl; (with_reducible repeat (first | refine zah ?_ _ | refine zai ?_ | refine zaf ?_ _)); refine zav (cs:=#[.bool false,.slice none 0 0,.slice none 0 0]) ?_ 0 _ rfl; (with_reducible repeat (first | refine zah ?_ _ | refine zai ?_ | refine zaf ?_ _)); exact BK274.out) hb); have n4_:=Aside0.mk (zag (by repeat (first | (with_reducible first | exact HB.out | apply zab | apply zaa | apply zac | refine zad ?_ GE266.out | refine zad ?_ GE274.out) | exact HB.out)) hb); clear HO270; clear HO273; clear BK266; clear BK274; clear HB; have HO270:=n0_; have HO273:=n1_; have BK266:=n2_; have BK274:=n3_; have HB:=n4_; clear n0_ n1_ n2_ n3_ n4_; (try clear hb); (try clear hb2); (try clear hk); (try clear hi)))
  go_ret
  exact⟨by first | rfl | (simp [zam,zan]<;>rfl) | (simp [*,zam,zan]<;>rfl),by repeat (first | (with_reducible first | exact HB.out | apply zab | apply zaa | apply zac | refine zad ?_ GE266.out | refine zad ?_ GE274.out) | exact HB.out)⟩
def fluxionref03_size.f (k:Nat) (a0:Int):Option (List Int):=if a0 < 0 then ((fluxionref01_Small.f k (wrap64 (-(wrap64 (a0+1))))).bind fun t276=>((fluxionref01_Add.f k t276 (([1]:List Int))).bind fun t282=>(some t282))) else ((fluxionref01_Small.f k a0).bind fun t285=>(some t285))
set_option maxHeartbeats 8000000 in
set_option maxRecDepth 100000 in
theorem fluxionref03_size.calls (k:Nat) (a0:Int) (r:List Int) (w:World) (h:fluxionref03_size.f k a0=some r) :
  Calls Try.prog 72 #[.int .i64 a0] w fun e w'=>∃ v0_:Value,e=.returned (v0_)∧Kd.R (Kd.int .i64) 3 w' w.heap.size (fun _=>True) v0_ r∧Below w.heap.size w w':=by
 have HB:=Aside0.mk (Below.refl w.heap.size w)
 have H:(if a0 < 0 then ((fluxionref01_Small.f k (wrap64 (-(wrap64 (a0+1))))).bind fun t276=>((fluxionref01_Add.f k t276 (([1]:List Int))).bind fun t282=>(some t282))) else ((fluxionref01_Small.f k a0).bind fun t285=>(some t285)))=some r:=h
 clear h
 by_cases c2:a0 < 0
 ·
  rw [if_pos c2] at H
  have c2b0:decide (a0 < 0)=true:=decide_eq_true c2
  clear c2
  replace H:=Option.bind_eq_some_iff.mp H
  obtain⟨t276,A30,H⟩:=H
  replace H:((fluxionref01_Add.f k t276 (([1]:List Int))).bind fun t282=>(some t282))=some r:=H
  have A3:=Aside0.mk A30
  clear A30
  obtain⟨y279,hy279⟩:∃ y_:List Int,y_=(([1]:List Int)):=⟨_,rfl⟩
  replace H:((fluxionref01_Add.f k t276 y279).bind fun t282=>(some t282))=some r:=by first | (rw [hy279]; with_reducible exact H) | (have H2_:=(Option.bind_some _ _).symm.trans H; rw [hy279]; with_reducible exact H2_) | (have H2_:=(Option.bind_some _ _).symm.trans H; with_reducible exact H2_) | with_reducible exact H | (rw [hy279]; exact H) | exact H
  have Ny279:=Aside0.mk hy279
  clear hy279
  replace H:=Option.bind_eq_some_iff.mp H
  obtain⟨t282,A40,H⟩:=H
  replace H:(some t282)=some r:=H
  have A4:=Aside0.mk A40
  clear A40
  obtain rfl:=Option.some.inj H
  go_enter Try.func72,Try.ntmps72
  go_wp2_with (first | ((with_reducible refine zap (f:=68) rfl ?_); refine zay (some 8) rfl rfl Try.func68 (by kernel_rfl) rfl #[.int .i64 (wrap64 (-(wrap64 (a0+1))))] rfl (by (try simp only [List.map_toArray,List.map_cons,List.map_nil]); first | done | rfl | (simp only [List.length_drop,List.length_take]; rfl)) ?_; (with_reducible refine(fluxionref01_Small.calls k (wrap64 (-(wrap64 (a0+1)))) t276 _ A3.out).mono ?_); rintro e w5 ⟨v277,rfl,ho0,hb⟩; refine⟨_,rfl,?_⟩; have n0_:=Aside0.mk (Kd.R_lower ho0 (zak (by repeat (first | (with_reducible first | exact HB.out | apply zab | apply zaa | apply zac) | exact HB.out)))); have n1_:=Aside0.mk (zag (by repeat (first | (with_reducible first | exact HB.out | apply zab | apply zaa | apply zac) | exact HB.out)) hb); clear HB; have HO278:=n0_; have HB:=n1_; clear n0_ n1_; (try clear hb); (try clear hb2); (try clear hk); (try clear hi); (try clear ho0)) | ((with_reducible refine zat (N:=9) rfl ?_); refine Kd.R_lit (Kd.int .i64) _ 3 ?hg (N:=9) ?hd (xs:=([1]:List Int)) (inner:=[.int .i64 1]) (ok:=fun _=>True) (okp:=fun _=>True) ?hr ?hp (fun _ hk=>hk) trivial (Below.refl _ _) (Nat.le_refl _) (by simp) ?_; (case hd=>rfl); (case hg=>rfl); (case hr=>first | (go_simp; done) | (go_simp; rfl)); (case hp=>exact(Reps.one (show Kd.M (Kd.int .i64) _ _ _ 1 [.int .i64 1] from rfl) (Reps.none _ _))); intro v280 w6 ho7 hb hg_ hnew_; clear hg_ hnew_; (first | rw [← Ny279.out] at ho7 | (simp only [Int.reduceToNat] at ho7; rw [← Ny279.out] at ho7)); have n0_:=Aside0.mk (Kd.R_elder' (by (with_reducible repeat (first | apply Kd.R_alloc | apply Kd.R_drewN | apply Kd.R_drew)); exact HO278.out) (Kd.R_base ho7) hb); have n1_:=Aside0.mk (Kd.R_lower (Kd.R_new' ho7 (Kd.R_lt (by (with_reducible repeat (first | apply Kd.R_alloc | apply Kd.R_drewN | apply Kd.R_drew)); exact HO278.out))) (zak (by repeat (first | (with_reducible first | exact HB.out | apply zab | apply zaa | apply zac) | exact HB.out)))); have n2_:=Aside0.mk (zag (by repeat (first | (with_reducible first | exact HB.out | apply zab | apply zaa | apply zac) | exact HB.out)) hb); clear HO278; clear HB; have HO278:=n0_; have HO281:=n1_; have HB:=n2_; clear n0_ n1_ n2_; clear hb ho7; obtain⟨Ao8,co8,eo8⟩:=Kd.R_slice HO278.out; subst eo8; obtain⟨Ao9,co9,eo9⟩:=Kd.R_slice HO281.out; subst eo9) | ((with_reducible refine zap (f:=66) rfl ?_); refine zay (some 10) rfl rfl Try.func66 (by kernel_rfl) rfl #[.slice Ao8 t276.length co8,.slice Ao9 y279.length co9] rfl (by (try simp only [List.map_toArray,List.map_cons,List.map_nil]); first | done | rfl | (simp only [List.length_drop,List.length_take]; rfl)) ?_; (with_reducible refine(fluxionref01_Add.calls k _ _ t276 _ _ y279 t282 _ ?side1 ?side2 ?side3 ?side4 A4.out).mono ?_); (case side1=>repeat (first | exact(Kd.R_reads' HO278.out).2.2 | (with_reducible refine Kd.C_alloc ?_ _) | (with_reducible refine Kd.C_drewN ?_ _) | (with_reducible refine Kd.C_drew ?_))); (case side2=>exact(Kd.R_reads' HO278.out).2.1); (case side3=>repeat (first | exact(Kd.R_reads' HO281.out).2.2 | (with_reducible refine Kd.C_alloc ?_ _) | (with_reducible refine Kd.C_drewN ?_ _) | (with_reducible refine Kd.C_drew ?_))); (case side4=>exact(Kd.R_reads' HO281.out).2.1); rintro e w10 ⟨v283,rfl,ho0,hb⟩; refine⟨_,rfl,?_⟩; have n0_:=Aside0.mk (Kd.R_elder' (by (with_reducible repeat (first | apply Kd.R_alloc | apply Kd.R_drewN | apply Kd.R_drew)); exact HO278.out) (Kd.R_base ho0) hb); have n1_:=Aside0.mk (Kd.R_elder' (by (with_reducible repeat (first | apply Kd.R_alloc | apply Kd.R_drewN | apply Kd.R_drew)); exact HO281.out) (Kd.R_base ho0) hb); have n2_:=Aside0.mk (Kd.R_lower (Kd.R_new' (Kd.R_new' ho0 (Kd.R_lt (by (with_reducible repeat (first | apply Kd.R_alloc | apply Kd.R_drewN | apply Kd.R_drew)); exact HO278.out))) (Kd.R_lt (by (with_reducible repeat (first | apply Kd.R_alloc | apply Kd.R_drewN | apply Kd.R_drew)); exact HO281.out))) (zak (by repeat (first | (with_reducible first | exact HB.out | apply zab | apply zaa | apply zac) | exact HB.out)))); have n3_:=Aside0.mk (zag (by repeat (first | (with_reducible first | exact HB.out | apply zab | apply zaa | apply zac) | exact HB.out)) hb); clear HO278; clear HO281; clear HB; have HO278:=n0_; have HO281:=n1_; have HO284:=n2_; have HB:=n3_; clear n0_ n1_ n2_ n3_; (try clear hb); (try clear hb2); (try clear hk); (try clear hi); (try clear ho0)))
  go_ret
  exact⟨_,by first | rfl | (simp [zam,zan]<;>rfl) | (simp [*,zam,zan]<;>rfl),by (with_reducible repeat (first | apply Kd.R_alloc | apply Kd.R_drewN | apply Kd.R_drew)); exact Kd.R_mono HO284.out (fun _ hk=>trivial),by repeat (first | (with_reducible first | exact HB.out | apply zab | apply zaa | apply zac) | exact HB.out)⟩
 ·
  rw [if_neg c2] at H
  have c2b0:decide (a0 < 0)=false:=decide_eq_false c2
  clear c2
  replace H:=Option.bind_eq_some_iff.mp H
  obtain⟨t285,A110,H⟩:=H
  replace H:(some t285)=some r:=H
  have A11:=Aside0.mk A110
  clear A110
  obtain rfl:=Option.some.inj H
  go_enter Try.func72,Try.ntmps72
  go_wp2_with (first | ((with_reducible refine zap (f:=68) rfl ?_); refine zay (some 12) rfl rfl Try.func68 (by kernel_rfl) rfl #[.int .i64 a0] rfl (by (try simp only [List.map_toArray,List.map_cons,List.map_nil]); first | done | rfl | (simp only [List.length_drop,List.length_take]; rfl)) ?_; (with_reducible refine(fluxionref01_Small.calls k a0 t285 _ A11.out).mono ?_); rintro e w12 ⟨v286,rfl,ho0,hb⟩; refine⟨_,rfl,?_⟩; have n0_:=Aside0.mk (Kd.R_lower ho0 (zak (by repeat (first | (with_reducible first | exact HB.out | apply zab | apply zaa | apply zac) | exact HB.out)))); have n1_:=Aside0.mk (zag (by repeat (first | (with_reducible first | exact HB.out | apply zab | apply zaa | apply zac) | exact HB.out)) hb); clear HB; have HO287:=n0_; have HB:=n1_; clear n0_ n1_; (try clear hb); (try clear hb2); (try clear hk); (try clear hi); (try clear ho0)))
  go_ret
  exact⟨_,by first | rfl | (simp [zam,zan]<;>rfl) | (simp [*,zam,zan]<;>rfl),by (with_reducible repeat (first | apply Kd.R_alloc | apply Kd.R_drewN | apply Kd.R_drew)); exact HO287.out,by repeat (first | (with_reducible first | exact HB.out | apply zab | apply zaa | apply zac) | exact HB.out)⟩
def fluxionref03_Int.f (k:Nat) (a0:Int):Option (Bool×List Int×List Int):=(fluxionref03_size.f k a0).bind fun t289=>(some (decide (a0 < 0),t289,(([1]:List Int))))
set_option maxHeartbeats 8000000 in
set_option maxRecDepth 100000 in
theorem fluxionref03_Int.calls (k:Nat) (a0:Int) (r1:Bool) (r2:List Int) (r3:List Int) (w:World) (h:fluxionref03_Int.f k a0=some (r1,r2,r3)) :
  Calls Try.prog 27 #[.int .i64 a0] w fun e w'=>∃ v1_ v2_:Value,e=.returned (.agg #[.bool r1,v1_,v2_])∧Kd.R (Kd.int .i64) 3 w' w.heap.size (fun k_=>some k_≠(v2_:Value).ownBlock) v1_ r2∧Kd.R (Kd.int .i64) 3 w' w.heap.size (fun k_=>some k_≠(v1_:Value).ownBlock) v2_ r3∧Below w.heap.size w w':=by
 have hu36:=Try.underlying36
 have HB:=Aside0.mk (Below.refl w.heap.size w)
 have H:((fluxionref03_size.f k a0).bind fun t289=>(some (decide (a0 < 0),t289,(([1]:List Int)))))=some (r1,r2,r3):=h
 clear h
 replace H:=Option.bind_eq_some_iff.mp H
 obtain⟨t289,A20,H⟩:=H
 replace H:(some (decide (a0 < 0),t289,(([1]:List Int))))=some (r1,r2,r3):=H
 have A2:=Aside0.mk A20
 clear A20
 obtain⟨y292,hy292⟩:∃ y_:List Int,y_=(([1]:List Int)):=⟨_,rfl⟩
 replace H:(some (decide (a0 < 0),t289,y292))=some (r1,r2,r3):=by first | (rw [hy292]; with_reducible exact H) | (have H2_:=(Option.bind_some _ _).symm.trans H; rw [hy292]; with_reducible exact H2_) | (have H2_:=(Option.bind_some _ _).symm.trans H; with_reducible exact H2_) | with_reducible exact H | (rw [hy292]; exact H) | exact H
 have Ny292:=Aside0.mk hy292
 clear hy292
 simp only [Option.some.injEq,Prod.mk.injEq] at H
 obtain⟨rfl,rfl,rfl⟩:=H
 go_enter Try.func27,Try.ntmps27
 go_wp2_with (first | ((with_reducible refine zat (N:=2) rfl ?_); refine zas ?hg (N:=2) ?hd (cs:=#[.bool false,.slice none 0 0,.slice none 0 0]) (t:=36) ?hr ?_; (case hd=>rfl); (case hg=>rfl); (case hr=>first | (go_simp; done) | (go_simp; rfl)); intro gb288 hg w3 hbox hb; have n0_:=Aside0.mk (zag (by repeat (first | (with_reducible first | exact HB.out | apply zab | apply zaa | apply zac) | exact HB.out)) hb); have n1_:=Aside0.mk (hbox); have n2_:=Aside0.mk ((by rw [hg]; exact(zak (by repeat (first | (with_reducible first | exact HB.out | apply zab | apply zaa | apply zac) | exact HB.out))):w.heap.size≤gb288)); have n3_:=Aside0.mk ((by rw [hg]; exact(zak (by repeat (first | (with_reducible first | exact HB.out | apply zab | apply zaa | apply zac) | exact HB.out))):w.heap.size≤gb288)); clear HB; have HB:=n0_; have BK288:=n1_; have GW288:=n2_; have GE288:=n3_; clear n0_ n1_ n2_ n3_; clear hb hbox hg) | ((with_reducible refine zap (f:=72) rfl ?_); refine zay (some 6) rfl rfl Try.func72 (by kernel_rfl) rfl #[.int .i64 a0] rfl (by (try simp only [List.map_toArray,List.map_cons,List.map_nil]); first | done | rfl | (simp only [List.length_drop,List.length_take]; rfl)) ?_; (with_reducible refine(fluxionref03_size.calls k a0 t289 _ A2.out).mono ?_); rintro e w4 ⟨v290,rfl,ho0,hb⟩; refine⟨_,rfl,?_⟩; have n0_:=Aside0.mk (Kd.R_lower ho0 (zak (by repeat (first | (with_reducible first | exact HB.out | apply zab | apply zaa | apply zac | refine zad ?_ GE288.out) | exact HB.out)))); have n1_:=Aside0.mk (zal (g:=gb288) (o:=.cells #[.bool false,.slice none 0 0,.slice none 0 0] 36 (0,0)) (by (with_reducible repeat (first | refine zah ?_ _ | refine zai ?_ | refine zaf ?_ _)); exact BK288.out) hb); have n2_:=Aside0.mk (zag (by repeat (first | (with_reducible first | exact HB.out | apply zab | apply zaa | apply zac | refine zad ?_ GE288.out) | exact HB.out)) hb); clear BK288; clear HB; have HO291:=n0_; have BK288:=n1_; have HB:=n2_; clear n0_ n1_ n2_; (try clear hb); (try clear hb2); (try clear hk); (try clear hi); (try clear ho0)) | ((with_reducible refine zat (N:=7) rfl ?_); refine Kd.R_lit (Kd.int .i64) _ 3 ?hg (N:=7) ?hd (xs:=([1]:List Int)) (inner:=[.int .i64 1]) (ok:=fun _=>True) (okp:=fun _=>True) ?hr ?hp (fun _ hk=>hk) trivial (Below.refl _ _) (Nat.le_refl _) (by simp) ?_; (case hd=>rfl); (case hg=>rfl); (case hr=>first | (go_simp; done) | (go_simp; rfl)); (case hp=>exact(Reps.one (show Kd.M (Kd.int .i64) _ _ _ 1 [.int .i64 1] from rfl) (Reps.none _ _))); intro v293 w5 ho6 hb hg_ hnew_; clear hg_ hnew_; (first | rw [← Ny292.out] at ho6 | (simp only [Int.reduceToNat] at ho6; rw [← Ny292.out] at ho6)); have n0_:=Aside0.mk (Kd.R_elder' (by (with_reducible repeat (first | apply Kd.R_alloc | apply Kd.R_drewN | apply Kd.R_drew)); exact HO291.out) (Kd.R_base ho6) hb); have n1_:=Aside0.mk (Kd.R_lower (Kd.R_new' ho6 (Kd.R_lt (by (with_reducible repeat (first | apply Kd.R_alloc | apply Kd.R_drewN | apply Kd.R_drew)); exact HO291.out))) (zak (by repeat (first | (with_reducible first | exact HB.out | apply zab | apply zaa | apply zac | refine zad ?_ GE288.out) | exact HB.out)))); have n2_:=Aside0.mk (zal (g:=gb288) (o:=.cells #[.bool false,.slice none 0 0,.slice none 0 0] 36 (0,0)) (by (with_reducible repeat (first | refine zah ?_ _ | refine zai ?_ | refine zaf ?_ _)); exact BK288.out) hb); have n3_:=Aside0.mk (zag (by repeat (first | (with_reducible first | exact HB.out | apply zab | apply zaa | apply zac | refine zad ?_ GE288.out) | exact HB.out)) hb); clear HO291; clear BK288; clear HB; have HO291:=n0_; have HO294:=n1_; have BK288:=n2_; have HB:=n3_; clear n0_ n1_ n2_ n3_; clear hb ho6; obtain⟨Ao7,co7,eo7⟩:=Kd.R_slice HO294.out; subst eo7; obtain⟨Ao8,co8,eo8⟩:=Kd.R_slice HO291.out; subst eo8; have hcz9_0:w5.cell? ⟨gb288,0,none⟩=some (.bool false):=(zae BK288.out 0).trans rfl; have hcz9_1:w5.cell? ⟨gb288,1,none⟩=some (.slice none 0 0):=(zae BK288.out 1).trans rfl; have hcz9_2:w5.cell? ⟨gb288,2,none⟩=some (.slice none 0 0):=(zae BK288.out 2).trans rfl; have hfz9_0:=zaj BK288.out 0; have hfz9_1:=zaj BK288.out 1; have hfz9_2:=zaj BK288.out 2))
 refine bodyPost_ret (results_cell_row rfl _ _ gb288 36 #[.bool (decide (a0 < 0)),.slice Ao8 t289.length co8,.slice Ao7 y292.length co7] (0,0) _ rfl (by (with_reducible repeat (first | refine zah ?_ _ | refine zai ?_ | refine zaf ?_ _)); refine zav (cs:=#[.bool (decide (a0 < 0)),.slice Ao8 t289.length co8,.slice none 0 0]) ?_ 2 _ rfl; (with_reducible repeat (first | refine zah ?_ _ | refine zai ?_ | refine zaf ?_ _)); refine zav (cs:=#[.bool (decide (a0 < 0)),.slice none 0 0,.slice none 0 0]) ?_ 1 _ rfl; (with_reducible repeat (first | refine zah ?_ _ | refine zai ?_ | refine zaf ?_ _)); refine zav (cs:=#[.bool false,.slice none 0 0,.slice none 0 0]) ?_ 0 _ rfl; (with_reducible repeat (first | refine zah ?_ _ | refine zai ?_ | refine zaf ?_ _)); exact BK288.out) Try.underlying36 rfl (by kernel_rfl)) rfl ?_
 exact⟨_,_,by first | rfl | (simp [zam,zan]<;>rfl) | (simp [*,zam,zan]<;>rfl),by (with_reducible repeat (first | apply Kd.R_alloc | apply Kd.R_drewN | apply Kd.R_drew)); exact Kd.R_mono (Kd.R_far (p:=⟨gb288,2,none⟩) (Kd.R_far (p:=⟨gb288,1,none⟩) (Kd.R_far (p:=⟨gb288,0,none⟩) (Kd.R_types HO291.out BK288.out (by decide)) (fun _ hk=>hk.2) (.bool (decide (a0 < 0)))) (fun _ hk=>hk.2) (.slice Ao8 t289.length co8)) (fun _ hk=>hk.2) (.slice Ao7 y292.length co7)) (fun _ hk=>hk.1.2),by (with_reducible repeat (first | apply Kd.R_alloc | apply Kd.R_drewN | apply Kd.R_drew)); exact Kd.R_mono (Kd.R_far (p:=⟨gb288,2,none⟩) (Kd.R_far (p:=⟨gb288,1,none⟩) (Kd.R_far (p:=⟨gb288,0,none⟩) (Kd.R_types HO294.out BK288.out (by decide)) (fun _ hk=>hk.2) (.bool (decide (a0 < 0)))) (fun _ hk=>hk.2) (.slice Ao8 t289.length co8)) (fun _ hk=>hk.2) (.slice Ao7 y292.length co7)) (fun _ hk=>hk.1.2),by repeat (first | (with_reducible first | exact HB.out | apply zab | apply zaa | apply zac | refine zad ?_ GE288.out) | exact HB.out)⟩
end Go.Proofs.Ytehghijlchpeaaa.L
end
section
namespace Go.Proofs.Ytehghijlchpeaaa.L
open Go.RowKit Go.Proofs.YtehghijlchpeaaaW.PrintWords Go.Proofs.YtehghijlchpeaaaW.PrintLast Go.Proofs.YtehghijlchpeaaaW.PrintMore
attribute [local go_sem] zaO zaQ zaU zaV zaJ zaI zaP zaR   -- for this text's walks alone
set_option linter.unusedVariables false
set_option linter.unusedSimpArgs false
def fluxionref01_Mul.l0:Nat→List Int→List Int→List Int→Int→Option (List Int)
 | 0,_,_,_,_=>none
 | k+1,x0,x1,x5,x6=>if x6 ≥ 0 then (if (x5.length:Int) > 0 then ((some (([0]:List Int):List Int)).bind fun y313=>(if y313.length+x5.length < 17592186044416 then (if 0≤x6 then (if x6 < (x1.length:Int) then ((fluxionref01_Times.f k x0 (rd x1 x6)).bind fun t320=>((fluxionref01_Add.f k (y313++x5) t320).bind fun t323=>(fluxionref01_Mul.l0 k x0 x1 t323 (wrap64 (x6-1))))) else (none)) else (none)) else (none))) else (if 0≤x6 then (if x6 < (x1.length:Int) then ((fluxionref01_Times.f k x0 (rd x1 x6)).bind fun t327=>((fluxionref01_Add.f k ([]:List Int) t327).bind fun t330=>(fluxionref01_Mul.l0 k x0 x1 t330 (wrap64 (x6-1))))) else (none)) else (none))) else (some x5)
end Go.Proofs.Ytehghijlchpeaaa.L
end
section
namespace Go.Proofs.Ytehghijlchpeaaa.L
open Go.RowKit Go.Proofs.YtehghijlchpeaaaW.PrintWords Go.Proofs.YtehghijlchpeaaaW.PrintLast Go.Proofs.YtehghijlchpeaaaW.PrintMore
attribute [local go_sem] zaO zaQ zaU zaV zaJ zaI zaP zaR   -- for this text's walks alone
set_option linter.unusedVariables false
set_option linter.unusedSimpArgs false
end Go.Proofs.Ytehghijlchpeaaa.L
end
