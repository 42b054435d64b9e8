/- Part 5 of the proof of ratFracs_holds: what it uses, in build order. -/
import Derived.Test.YtehghijlchpeaaaC13
section
namespace Go.Proofs.Ytehghijlchpeaaa.L
open Go.RowKit Go.Proofs.YtehghijlchpeaaaW.PrintWords Go.Proofs.YtehghijlchpeaaaW.PrintLast Go.Proofs.YtehghijlchpeaaaW.PrintMore
attribute [local go_sem] zaX zaU zbc za9 zaN zaM zaW zaV   -- for this text's walks alone
set_option linter.unusedVariables false
set_option linter.unusedSimpArgs false
def fluxionref03_Of.f (k:Nat) (a0_0:Bool) (l0_1:List Int) (l0_2:List Int):Option (Bool×List Int×List Int):=(fluxionref01_Of.f k l0_1).bind fun t249=>((fluxionref01_Of.f k l0_2).bind fun t252=>((fluxionref03_Make.f k a0_0 t249 t252).bind fun bt255=>(some (bt255.1,bt255.2.1,bt255.2.2))))
theorem fluxionref03_Of.mono:∀ a0 a1 a2 k,LeO (fluxionref03_Of.f k a0 a1 a2) (fluxionref03_Of.f (k+1) a0 a1 a2):=by
 intro a0 a1 a2 k
 unfold fluxionref03_Of.f
 repeat' first
   | (with_reducible exact fluxionref01_Of.mono _ _)
   | (with_reducible exact fluxionref03_Make.mono _ _ _ _)
   | (with_reducible exact LeO.refl _)
   | (with_reducible exact LeO.none _)
   | (with_reducible refine LeO.ite ?_ ?_)
   | (with_reducible refine LeO.bind ?_ (fun _=>?_))
   | exact fluxionref01_Of.mono _ _
   | exact fluxionref03_Make.mono _ _ _ _
   | exact LeO.none _
   | refine LeO.ite ?_ ?_
   | refine LeO.bind ?_ (fun _=>?_)
def fluxionref03_Of.B1:List Nat:=[0,1,0,4,12,0,32,124,255,511]
def fluxionref03_Is.f (k:Nat) (a0_0:Bool) (l0_1:List Int) (l0_2:List Int) (a1_0:Bool) (l1_1:List Int) (l1_2:List Int):Option (Bool):=if (a1_0 == a0_0)=true then ((fluxionref01_Is.f k l0_1 l1_1).bind fun t264=>(if t264=true then ((fluxionref01_Is.f k l0_2 l1_2).bind fun t265=>(some t265)) else (some false))) else (some false)
theorem fluxionref03_Is.mono:∀ a0 a1 a2 a3 a4 a5 k,LeO (fluxionref03_Is.f k a0 a1 a2 a3 a4 a5) (fluxionref03_Is.f (k+1) a0 a1 a2 a3 a4 a5):=by
 intro a0 a1 a2 a3 a4 a5 k
 unfold fluxionref03_Is.f
 repeat' first
   | (with_reducible exact fluxionref01_Is.mono _ _ _)
   | (with_reducible exact LeO.refl _)
   | (with_reducible exact LeO.none _)
   | (with_reducible refine LeO.ite ?_ ?_)
   | (with_reducible refine LeO.bind ?_ (fun _=>?_))
   | exact fluxionref01_Is.mono _ _ _
   | exact LeO.none _
   | refine LeO.ite ?_ ?_
   | refine LeO.bind ?_ (fun _=>?_)
set_option maxHeartbeats 8000000 in
set_option maxRecDepth 100000 in
theorem fluxionref03_Is.calls (k:Nat) (a0_0:Bool) (A0_1:Option Addr) (c0_1:Nat) (l0_1:List Int) (A0_2:Option Addr) (c0_2:Nat) (l0_2:List Int) (a1_0:Bool) (A1_1:Option Addr) (c1_1:Nat) (l1_1:List Int) (A1_2:Option Addr) (c1_2:Nat) (l1_2:List Int) (r:Bool) (w:World) (hr0_1:Kd.C (Kd.int .i64) w A0_1 l0_1.length l0_1) (hc0_1:l0_1.length≤c0_1) (hr0_2:Kd.C (Kd.int .i64) w A0_2 l0_2.length l0_2) (hc0_2:l0_2.length≤c0_2) (hr1_1:Kd.C (Kd.int .u32) w A1_1 l1_1.length l1_1) (hc1_1:l1_1.length≤c1_1) (hr1_2:Kd.C (Kd.int .u32) w A1_2 l1_2.length l1_2) (hc1_2:l1_2.length≤c1_2) (h:fluxionref03_Is.f k a0_0 l0_1 l0_2 a1_0 l1_1 l1_2=some r) :
  Calls Try.prog 20 #[.agg #[.bool a0_0,.slice A0_1 l0_1.length c0_1,.slice A0_2 l0_2.length c0_2],.agg #[.bool a1_0,.slice A1_1 l1_1.length c1_1,.slice A1_2 l1_2.length c1_2]] w fun e w'=>e=.returned (.bool r)∧Below w.heap.size w w':=by
 have hu36:=Try.underlying36
 have hu25:=Try.underlying25
 have HR0_1:=Aside0.mk hr0_1
 have HC0_1:=Aside0.mk hc0_1
 clear hr0_1 hc0_1
 have HR0_2:=Aside0.mk hr0_2
 have HC0_2:=Aside0.mk hc0_2
 clear hr0_2 hc0_2
 have HR1_1:=Aside0.mk hr1_1
 have HC1_1:=Aside0.mk hc1_1
 clear hr1_1 hc1_1
 have HR1_2:=Aside0.mk hr1_2
 have HC1_2:=Aside0.mk hc1_2
 clear hr1_2 hc1_2
 have HB:=Aside0.mk (Below.refl w.heap.size w)
 have H:(if (a1_0 == a0_0)=true then ((fluxionref01_Is.f k l0_1 l1_1).bind fun t264=>(if t264=true then ((fluxionref01_Is.f k l0_2 l1_2).bind fun t265=>(some t265)) else (some false))) else (some false))=some r:=h
 clear h
 by_cases c3:(a1_0 == a0_0)=true
 ·
  rw [if_pos c3] at H
  have c3b0:(a1_0 == a0_0)=true:=c3
  (try (have c3b1:decide (a1_0=a0_0)=true:=by simpa using c3))
  (try (have c3b2:(a1_0 == a0_0)=true:=by simpa using c3))
  clear c3
  replace H:=Option.bind_eq_some_iff.mp H
  obtain⟨t264,A40,H⟩:=H
  replace H:(if t264=true then ((fluxionref01_Is.f k l0_2 l1_2).bind fun t265=>(some t265)) else (some false))=some r:=H
  have A4:=Aside0.mk A40
  clear A40
  by_cases c5:t264=true
  ·
   subst c5
   have H1:((fluxionref01_Is.f k l0_2 l1_2).bind fun t265=>(some t265))=some r:=by rw [if_pos rfl] at H; exact H
   clear H
   have H:=H1
   clear H1
   replace H:=Option.bind_eq_some_iff.mp H
   obtain⟨t265,A60,H⟩:=H
   replace H:(some t265)=some r:=H
   have A6:=Aside0.mk A60
   clear A60
   obtain rfl:=Option.some.inj H
   go_enter Try.func20,Try.ntmps20
   go_wp2_with (first | ((with_reducible refine zav (N:=2) rfl ?_); refine zax ?hg (N:=2) ?hd (cs:=#[.bool a0_0,.slice A0_1 l0_1.length c0_1,.slice A0_2 l0_2.length c0_2]) (t:=36) ?hr ?_; (case hd=>rfl); (case hg=>rfl); (case hr=>first | (go_simp; done) | (go_simp; rfl)); intro gb262 hg w7 hbox hb; have n0_:=Aside0.mk (zag (by repeat (first | (with_reducible first | exact HB.out | apply zab | apply zaa | apply zac) | exact HB.out)) hb); have n1_:=Aside0.mk (hbox); have n2_:=Aside0.mk ((by rw [hg]; exact(zaj (by repeat (first | (with_reducible first | exact HB.out | apply zab | apply zaa | apply zac) | exact HB.out))):w.heap.size≤gb262)); have n3_:=Aside0.mk ((by rw [hg]; exact(zaj (by repeat (first | (with_reducible first | exact HB.out | apply zab | apply zaa | apply zac) | exact HB.out))):w.heap.size≤gb262)); clear HB; have HB:=n0_; have BK262:=n1_; have GW262:=n2_; have GE262:=n3_; clear n0_ n1_ n2_ n3_; clear hb hbox hg) | ((with_reducible refine zav (N:=3) rfl ?_); refine zax ?hg (N:=3) ?hd (cs:=#[.bool a1_0,.slice A1_1 l1_1.length c1_1,.slice A1_2 l1_2.length c1_2]) (t:=25) ?hr ?_; (case hd=>rfl); (case hg=>rfl); (case hr=>first | (go_simp; done) | (go_simp; rfl)); intro gb263 hg w8 hbox hb; have n0_:=Aside0.mk (zal (g:=gb262) (o:=.cells #[.bool a0_0,.slice A0_1 l0_1.length c0_1,.slice A0_2 l0_2.length c0_2] 36 (0,0)) (by (with_reducible repeat (first | refine zaf ?_ _ | refine zah ?_ | refine zae ?_ _)); exact BK262.out) hb); have n1_:=Aside0.mk (zag (by repeat (first | (with_reducible first | exact HB.out | apply zab | apply zaa | apply zac | refine zad ?_ GE262.out) | exact HB.out)) hb); have n2_:=Aside0.mk (hbox); have n3_:=Aside0.mk ((by rw [hg]; exact(zaj (by repeat (first | (with_reducible first | exact HB.out | apply zab | apply zaa | apply zac | refine zad ?_ GE262.out) | exact HB.out))):w.heap.size≤gb263)); have n4_:=Aside0.mk ((by rw [hg]; exact(zaj (by repeat (first | (with_reducible first | exact HB.out | apply zab | apply zaa | apply zac | refine zad ?_ GE262.out) | exact HB.out))):w.heap.size≤gb263)); have n5_:=Aside0.mk ((by rw [hg]; exact Nat.ne_of_lt (zaD (g:=gb262) (o:=.cells #[.bool a0_0,.slice A0_1 l0_1.length c0_1,.slice A0_2 l0_2.length c0_2] 36 (0,0)) (by (with_reducible repeat (first | refine zaf ?_ _ | refine zah ?_ | refine zae ?_ _)); exact BK262.out)):gb262≠gb263)); have n6_:=Aside0.mk ((by rw [hg]; exact Nat.ne_of_gt (zaD (g:=gb262) (o:=.cells #[.bool a0_0,.slice A0_1 l0_1.length c0_1,.slice A0_2 l0_2.length c0_2] 36 (0,0)) (by (with_reducible repeat (first | refine zaf ?_ _ | refine zah ?_ | refine zae ?_ _)); exact BK262.out)):gb263≠gb262)); clear BK262; clear HB; have BK262:=n0_; have HB:=n1_; have BK263:=n2_; have GW263:=n3_; have GE263:=n4_; have NB262_263:=n5_; have NB263_262:=n6_; clear n0_ n1_ n2_ n3_ n4_ n5_ n6_; clear hb hbox hg; have hnb9:=NB263_262.out; have hnc9:=NB262_263.out; have hcz10_0:w8.cell? ⟨gb263,0,none⟩=some (.bool a1_0):=(zai BK263.out 0).trans rfl; have hcz10_1:w8.cell? ⟨gb263,1,none⟩=some (.slice A1_1 l1_1.length c1_1):=(zai BK263.out 1).trans rfl; have hcz10_2:w8.cell? ⟨gb263,2,none⟩=some (.slice A1_2 l1_2.length c1_2):=(zai BK263.out 2).trans rfl; have hfz10_0:=zak BK263.out 0; have hfz10_1:=zak BK263.out 1; have hfz10_2:=zak BK263.out 2; have hcz11_0:w8.cell? ⟨gb262,0,none⟩=some (.bool a0_0):=(zai BK262.out 0).trans rfl; have hcz11_1:w8.cell? ⟨gb262,1,none⟩=some (.slice A0_1 l0_1.length c0_1):=(zai BK262.out 1).trans rfl; have hcz11_2:w8.cell? ⟨gb262,2,none⟩=some (.slice A0_2 l0_2.length c0_2):=(zai BK262.out 2).trans rfl; have hfz11_0:=zak BK262.out 0; have hfz11_1:=zak BK262.out 1; have hfz11_2:=zak BK262.out 2) | (go_at_call 61; (with_reducible refine(fluxionref01_Is.calls k _ _ l0_1 _ _ l1_1 true _ ?side1 ?side2 ?side3 ?side4 A4.out).mono ?_); (case side1=>repeat (first | exact(Kd.C_below HR0_1.out HB.out) | (with_reducible refine Kd.C_alloc ?_ _) | (with_reducible refine Kd.C_drewN ?_ _) | (with_reducible refine Kd.C_drew ?_))); (case side2=>exact HC0_1.out); (case side3=>repeat (first | exact(Kd.C_below HR1_1.out HB.out) | (with_reducible refine Kd.C_alloc ?_ _) | (with_reducible refine Kd.C_drewN ?_ _) | (with_reducible refine Kd.C_drew ?_))); (case side4=>exact HC1_1.out); rintro e w12 ⟨rfl,hb⟩; have n0_:=Aside0.mk (zal (g:=gb262) (o:=.cells #[.bool a0_0,.slice A0_1 l0_1.length c0_1,.slice A0_2 l0_2.length c0_2] 36 (0,0)) (by (with_reducible repeat (first | refine zaf ?_ _ | refine zah ?_ | refine zae ?_ _)); exact BK262.out) hb); have n1_:=Aside0.mk (zal (g:=gb263) (o:=.cells #[.bool a1_0,.slice A1_1 l1_1.length c1_1,.slice A1_2 l1_2.length c1_2] 25 (0,0)) (by (with_reducible repeat (first | refine zaf ?_ _ | refine zah ?_ | refine zae ?_ _)); exact BK263.out) hb); have n2_:=Aside0.mk (zag (by repeat (first | (with_reducible first | exact HB.out | apply zab | apply zaa | apply zac | refine zad ?_ GE262.out | refine zad ?_ GE263.out) | exact HB.out)) hb); clear BK262; clear BK263; clear HB; have BK262:=n0_; have BK263:=n1_; have HB:=n2_; clear n0_ n1_ n2_; (try clear hb); (try clear hb2); (try clear hk); (try clear hi); have hcz13_0:w12.cell? ⟨gb262,0,none⟩=some (.bool a0_0):=(zai BK262.out 0).trans rfl; have hcz13_1:w12.cell? ⟨gb262,1,none⟩=some (.slice A0_1 l0_1.length c0_1):=(zai BK262.out 1).trans rfl; have hcz13_2:w12.cell? ⟨gb262,2,none⟩=some (.slice A0_2 l0_2.length c0_2):=(zai BK262.out 2).trans rfl; have hfz13_0:=zak BK262.out 0; have hfz13_1:=zak BK262.out 1; have hfz13_2:=zak BK262.out 2; have hcz14_0:w12.cell? ⟨gb263,0,none⟩=some (.bool a1_0):=(zai BK263.out 0).trans rfl; have hcz14_1:w12.cell? ⟨gb263,1,none⟩=some (.slice A1_1 l1_1.length c1_1):=(zai BK263.out 1).trans rfl; have hcz14_2:w12.cell? ⟨gb263,2,none⟩=some (.slice A1_2 l1_2.length c1_2):=(zai BK263.out 2).trans rfl; have hfz14_0:=zak BK263.out 0; have hfz14_1:=zak BK263.out 1; have hfz14_2:=zak BK263.out 2) | (go_at_call 61; (with_reducible refine(fluxionref01_Is.calls k _ _ l0_2 _ _ l1_2 t265 _ ?side1 ?side2 ?side3 ?side4 A6.out).mono ?_); (case side1=>repeat (first | exact(Kd.C_below HR0_2.out HB.out) | (with_reducible refine Kd.C_alloc ?_ _) | (with_reducible refine Kd.C_drewN ?_ _) | (with_reducible refine Kd.C_drew ?_))); (case side2=>exact HC0_2.out); (case side3=>repeat (first | exact(Kd.C_below HR1_2.out HB.out) | (with_reducible refine Kd.C_alloc ?_ _) | (with_reducible refine Kd.C_drewN ?_ _) | (with_reducible refine Kd.C_drew ?_))); (case side4=>exact HC1_2.out); rintro e w15 ⟨rfl,hb⟩; have n0_:=Aside0.mk (zal (g:=gb262) (o:=.cells #[.bool a0_0,.slice A0_1 l0_1.length c0_1,.slice A0_2 l0_2.length c0_2] 36 (0,0)) (by (with_reducible repeat (first | refine zaf ?_ _ | refine zah ?_ | refine zae ?_ _)); exact BK262.out) hb); have n1_:=Aside0.mk (zal (g:=gb263) (o:=.cells #[.bool a1_0,.slice A1_1 l1_1.length c1_1,.slice A1_2 l1_2.length c1_2] 25 (0,0)) (by (with_reducible repeat (first | refine zaf ?_ _ | refine zah ?_ | refine zae ?_ _)); exact BK263.out) hb); have n2_:=Aside0.mk (zag (by repeat (first | (with_reducible first | exact HB.out | apply zab | apply zaa | apply zac | refine zad ?_ GE262.out | refine zad ?_ GE263.out) | exact HB.out)) hb); clear BK262; clear BK263; clear HB; have BK262:=n0_; have BK263:=n1_; have HB:=n2_; clear n0_ n1_ n2_; (try clear hb); (try clear hb2); (try clear hk); (try clear hi)))
   go_ret
   exact⟨by first | rfl | (simp [zan,zao]<;>rfl) | (simp [*,zan,zao]<;>rfl),by repeat (first | (with_reducible first | exact HB.out | apply zab | apply zaa | apply zac | refine zad ?_ GE262.out | refine zad ?_ GE263.out) | exact HB.out)⟩
  ·
   replace c5:=Bool.eq_false_iff.mpr c5
   subst c5
   have H1:(some false)=some r:=by rw [if_neg (show ¬ (false=true) by decide)] at H; exact H
   clear H
   have H:=H1
   clear H1
   obtain rfl:=Option.some.inj H
   go_enter Try.func20,Try.ntmps20
   go_wp2_with (first | ((with_reducible refine zav (N:=2) rfl ?_); refine zax ?hg (N:=2) ?hd (cs:=#[.bool a0_0,.slice A0_1 l0_1.length c0_1,.slice A0_2 l0_2.length c0_2]) (t:=36) ?hr ?_; (case hd=>rfl); (case hg=>rfl); (case hr=>first | (go_simp; done) | (go_simp; rfl)); intro gb262 hg w16 hbox hb; have n0_:=Aside0.mk (zag (by repeat (first | (with_reducible first | exact HB.out | apply zab | apply zaa | apply zac) | exact HB.out)) hb); have n1_:=Aside0.mk (hbox); have n2_:=Aside0.mk ((by rw [hg]; exact(zaj (by repeat (first | (with_reducible first | exact HB.out | apply zab | apply zaa | apply zac) | exact HB.out))):w.heap.size≤gb262)); have n3_:=Aside0.mk ((by rw [hg]; exact(zaj (by repeat (first | (with_reducible first | exact HB.out | apply zab | apply zaa | apply zac) | exact HB.out))):w.heap.size≤gb262)); clear HB; have HB:=n0_; have BK262:=n1_; have GW262:=n2_; have GE262:=n3_; clear n0_ n1_ n2_ n3_; clear hb hbox hg) | ((with_reducible refine zav (N:=3) rfl ?_); refine zax ?hg (N:=3) ?hd (cs:=#[.bool a1_0,.slice A1_1 l1_1.length c1_1,.slice A1_2 l1_2.length c1_2]) (t:=25) ?hr ?_; (case hd=>rfl); (case hg=>rfl); (case hr=>first | (go_simp; done) | (go_simp; rfl)); intro gb263 hg w17 hbox hb; have n0_:=Aside0.mk (zal (g:=gb262) (o:=.cells #[.bool a0_0,.slice A0_1 l0_1.length c0_1,.slice A0_2 l0_2.length c0_2] 36 (0,0)) (by (with_reducible repeat (first | refine zaf ?_ _ | refine zah ?_ | refine zae ?_ _)); exact BK262.out) hb); have n1_:=Aside0.mk (zag (by repeat (first | (with_reducible first | exact HB.out | apply zab | apply zaa | apply zac | refine zad ?_ GE262.out) | exact HB.out)) hb); have n2_:=Aside0.mk (hbox); have n3_:=Aside0.mk ((by rw [hg]; exact(zaj (by repeat (first | (with_reducible first | exact HB.out | apply zab | apply zaa | apply zac | refine zad ?_ GE262.out) | exact HB.out))):w.heap.size≤gb263)); have n4_:=Aside0.mk ((by rw [hg]; exact(zaj (by repeat (first | (with_reducible first | exact HB.out | apply zab | apply zaa | apply zac | refine zad ?_ GE262.out) | exact HB.out))):w.heap.size≤gb263)); have n5_:=Aside0.mk ((by rw [hg]; exact Nat.ne_of_lt (zaD (g:=gb262) (o:=.cells #[.bool a0_0,.slice A0_1 l0_1.length c0_1,.slice A0_2 l0_2.length c0_2] 36 (0,0)) (by (with_reducible repeat (first | refine zaf ?_ _ | refine zah ?_ | refine zae ?_ _)); exact BK262.out)):gb262≠gb263)); have n6_:=Aside0.mk ((by rw [hg]; exact Nat.ne_of_gt (zaD (g:=gb262) (o:=.cells #[.bool a0_0,.slice A0_1 l0_1.length c0_1,.slice A0_2 l0_2.length c0_2] 36 (0,0)) (by (with_reducible repeat (first | refine zaf ?_ _ | refine zah ?_ | refine zae ?_ _)); exact BK262.out)):gb263≠gb262)); clear BK262; clear HB; have BK262:=n0_; have HB:=n1_; have BK263:=n2_; have GW263:=n3_; have GE263:=n4_; have NB262_263:=n5_; have NB263_262:=n6_; clear n0_ n1_ n2_ n3_ n4_ n5_ n6_; clear hb hbox hg; have hnb18:=NB263_262.out; have hnc18:=NB262_263.out; have hcz19_0:w17.cell? ⟨gb263,0,none⟩=some (.bool a1_0):=(zai BK263.out 0).trans rfl; have hcz19_1:w17.cell? ⟨gb263,1,none⟩=some (.slice A1_1 l1_1.length c1_1):=(zai BK263.out 1).trans rfl; have hcz19_2:w17.cell? ⟨gb263,2,none⟩=some (.slice A1_2 l1_2.length c1_2):=(zai BK263.out 2).trans rfl; have hfz19_0:=zak BK263.out 0; have hfz19_1:=zak BK263.out 1; have hfz19_2:=zak BK263.out 2; have hcz20_0:w17.cell? ⟨gb262,0,none⟩=some (.bool a0_0):=(zai BK262.out 0).trans rfl; have hcz20_1:w17.cell? ⟨gb262,1,none⟩=some (.slice A0_1 l0_1.length c0_1):=(zai BK262.out 1).trans rfl; have hcz20_2:w17.cell? ⟨gb262,2,none⟩=some (.slice A0_2 l0_2.length c0_2):=(zai BK262.out 2).trans rfl; have hfz20_0:=zak BK262.out 0; have hfz20_1:=zak BK262.out 1; have hfz20_2:=zak BK262.out 2) | (go_at_call 61; (with_reducible refine(fluxionref01_Is.calls k _ _ l0_1 _ _ l1_1 false _ ?side1 ?side2 ?side3 ?side4 A4.out).mono ?_); (case side1=>repeat (first | exact(Kd.C_below HR0_1.out HB.out) | (with_reducible refine Kd.C_alloc ?_ _) | (with_reducible refine Kd.C_drewN ?_ _) | (with_reducible refine Kd.C_drew ?_))); (case side2=>exact HC0_1.out); (case side3=>repeat (first | exact(Kd.C_below HR1_1.out HB.out) | (with_reducible refine Kd.C_alloc ?_ _) | (with_reducible refine Kd.C_drewN ?_ _) | (with_reducible refine Kd.C_drew ?_))); (case side4=>exact HC1_1.out); rintro e w21 ⟨rfl,hb⟩; have n0_:=Aside0.mk (zal (g:=gb262) (o:=.cells #[.bool a0_0,.slice A0_1 l0_1.length c0_1,.slice A0_2 l0_2.length c0_2] 36 (0,0)) (by (with_reducible repeat (first | refine zaf ?_ _ | refine zah ?_ | refine zae ?_ _)); exact BK262.out) hb); have n1_:=Aside0.mk (zal (g:=gb263) (o:=.cells #[.bool a1_0,.slice A1_1 l1_1.length c1_1,.slice A1_2 l1_2.length c1_2] 25 (0,0)) (by (with_reducible repeat (first | refine zaf ?_ _ | refine zah ?_ | refine zae ?_ _)); exact BK263.out) hb); have n2_:=Aside0.mk (zag (by repeat (first | (with_reducible first | exact HB.out | apply zab | apply zaa | apply zac | refine zad ?_ GE262.out | refine zad ?_ GE263.out) | exact HB.out)) hb); clear BK262; clear BK263; clear HB; have BK262:=n0_; have BK263:=n1_; have HB:=n2_; clear n0_ n1_ n2_; (try clear hb); (try clear hb2); (try clear hk); (try clear hi)))
   go_ret
   exact⟨by first | rfl | (simp [zan,zao]<;>rfl) | (simp [*,zan,zao]<;>rfl),by repeat (first | (with_reducible first | exact HB.out | apply zab | apply zaa | apply zac | refine zad ?_ GE262.out | refine zad ?_ GE263.out) | exact HB.out)⟩
 ·
  rw [if_neg c3] at H
  have c3b0:(a1_0 == a0_0)=false:=by simpa using c3
  (try (have c3b1:decide (a1_0=a0_0)=false:=by simpa using c3))
  (try (have c3b2:(a1_0 == a0_0)=false:=by simpa using c3))
  (try (have c3b3:¬ (a1_0=a0_0):=by simpa using c3))
  clear c3
  obtain rfl:=Option.some.inj H
  go_enter Try.func20,Try.ntmps20
  go_wp2_with (first | ((with_reducible refine zav (N:=2) rfl ?_); refine zax ?hg (N:=2) ?hd (cs:=#[.bool a0_0,.slice A0_1 l0_1.length c0_1,.slice A0_2 l0_2.length c0_2]) (t:=36) ?hr ?_; (case hd=>rfl); (case hg=>rfl); (case hr=>first | (go_simp; done) | (go_simp; rfl)); intro gb262 hg w22 hbox hb; have n0_:=Aside0.mk (zag (by repeat (first | (with_reducible first | exact HB.out | apply zab | apply zaa | apply zac) | exact HB.out)) hb); have n1_:=Aside0.mk (hbox); have n2_:=Aside0.mk ((by rw [hg]; exact(zaj (by repeat (first | (with_reducible first | exact HB.out | apply zab | apply zaa | apply zac) | exact HB.out))):w.heap.size≤gb262)); have n3_:=Aside0.mk ((by rw [hg]; exact(zaj (by repeat (first | (with_reducible first | exact HB.out | apply zab | apply zaa | apply zac) | exact HB.out))):w.heap.size≤gb262)); clear HB; have HB:=n0_; have BK262:=n1_; have GW262:=n2_; have GE262:=n3_; clear n0_ n1_ n2_ n3_; clear hb hbox hg) | ((with_reducible refine zav (N:=3) rfl ?_); refine zax ?hg (N:=3) ?hd (cs:=#[.bool a1_0,.slice A1_1 l1_1.length c1_1,.slice A1_2 l1_2.length c1_2]) (t:=25) ?hr ?_; (case hd=>rfl); (case hg=>rfl); (case hr=>first | (go_simp; done) | (go_simp; rfl)); intro gb263 hg w23 hbox hb; have n0_:=Aside0.mk (zal (g:=gb262) (o:=.cells #[.bool a0_0,.slice A0_1 l0_1.length c0_1,.slice A0_2 l0_2.length c0_2] 36 (0,0)) (by (with_reducible repeat (first | refine zaf ?_ _ | refine zah ?_ | refine zae ?_ _)); exact BK262.out) hb); have n1_:=Aside0.mk (zag (by repeat (first | (with_reducible first | exact HB.out | apply zab | apply zaa | apply zac | refine zad ?_ GE262.out) | exact HB.out)) hb); have n2_:=Aside0.mk (hbox); have n3_:=Aside0.mk ((by rw [hg]; exact(zaj (by repeat (first | (with_reducible first | exact HB.out | apply zab | apply zaa | apply zac | refine zad ?_ GE262.out) | exact HB.out))):w.heap.size≤gb263)); have n4_:=Aside0.mk ((by rw [hg]; exact(zaj (by repeat (first | (with_reducible first | exact HB.out | apply zab | apply zaa | apply zac | refine zad ?_ GE262.out) | exact HB.out))):w.heap.size≤gb263)); have n5_:=Aside0.mk ((by rw [hg]; exact Nat.ne_of_lt (zaD (g:=gb262) (o:=.cells #[.bool a0_0,.slice A0_1 l0_1.length c0_1,.slice A0_2 l0_2.length c0_2] 36 (0,0)) (by (with_reducible repeat (first | refine zaf ?_ _ | refine zah ?_ | refine zae ?_ _)); exact BK262.out)):gb262≠gb263)); have n6_:=Aside0.mk ((by rw [hg]; exact Nat.ne_of_gt (zaD (g:=gb262) (o:=.cells #[.bool a0_0,.slice A0_1 l0_1.length c0_1,.slice A0_2 l0_2.length c0_2] 36 (0,0)) (by (with_reducible repeat (first | refine zaf ?_ _ | refine zah ?_ | refine zae ?_ _)); exact BK262.out)):gb263≠gb262)); clear BK262; clear HB; have BK262:=n0_; have HB:=n1_; have BK263:=n2_; have GW263:=n3_; have GE263:=n4_; have NB262_263:=n5_; have NB263_262:=n6_; clear n0_ n1_ n2_ n3_ n4_ n5_ n6_; clear hb hbox hg; have hnb24:=NB263_262.out; have hnc24:=NB262_263.out; have hcz25_0:w23.cell? ⟨gb263,0,none⟩=some (.bool a1_0):=(zai BK263.out 0).trans rfl; have hcz25_1:w23.cell? ⟨gb263,1,none⟩=some (.slice A1_1 l1_1.length c1_1):=(zai BK263.out 1).trans rfl; have hcz25_2:w23.cell? ⟨gb263,2,none⟩=some (.slice A1_2 l1_2.length c1_2):=(zai BK263.out 2).trans rfl; have hfz25_0:=zak BK263.out 0; have hfz25_1:=zak BK263.out 1; have hfz25_2:=zak BK263.out 2; have hcz26_0:w23.cell? ⟨gb262,0,none⟩=some (.bool a0_0):=(zai BK262.out 0).trans rfl; have hcz26_1:w23.cell? ⟨gb262,1,none⟩=some (.slice A0_1 l0_1.length c0_1):=(zai BK262.out 1).trans rfl; have hcz26_2:w23.cell? ⟨gb262,2,none⟩=some (.slice A0_2 l0_2.length c0_2):=(zai BK262.out 2).trans rfl; have hfz26_0:=zak BK262.out 0; have hfz26_1:=zak BK262.out 1; have hfz26_2:=zak BK262.out 2))
  go_ret
  exact⟨by first | rfl | (simp [zan,zao]<;>rfl) | (simp [*,zan,zao]<;>rfl),by repeat (first | (with_reducible first | exact HB.out | apply zab | apply zaa | apply zac | refine zad ?_ GE262.out | refine zad ?_ GE263.out) | exact HB.out)⟩
def fluxionref03_May.f (k:Nat) (a0_0:Bool) (l0_1:List Int) (l0_2:List Int):Option (Int):=(fluxionref03_Of.f k a0_0 l0_1 l0_2).bind fun bt267=>((fluxionref03_Is.f k bt267.1 bt267.2.1 bt267.2.2 a0_0 l0_1 l0_2).bind fun t275=>(if t275=true then (some 0) else (some 6)))
theorem fluxionref03_May.mono:∀ a0 a1 a2 k,LeO (fluxionref03_May.f k a0 a1 a2) (fluxionref03_May.f (k+1) a0 a1 a2):=by
 intro a0 a1 a2 k
 unfold fluxionref03_May.f
 repeat' first
   | (with_reducible exact fluxionref03_Is.mono _ _ _ _ _ _ _)
   | (with_reducible exact fluxionref03_Of.mono _ _ _ _)
   | (with_reducible exact LeO.refl _)
   | (with_reducible exact LeO.none _)
   | (with_reducible refine LeO.ite ?_ ?_)
   | (with_reducible refine LeO.bind ?_ (fun _=>?_))
   | exact fluxionref03_Is.mono _ _ _ _ _ _ _
   | exact fluxionref03_Of.mono _ _ _ _
   | exact LeO.none _
   | refine LeO.ite ?_ ?_
   | refine LeO.bind ?_ (fun _=>?_)
def fluxionref03_size.f (k:Nat) (a0:Int):Option (List Int):=if a0 < 0 then ((fluxionref01_Small.f k (wrap64 (-(wrap64 (a0+1))))).bind fun t276=>((fluxionref01_Add.f k t276 (([1]:List Int))).bind fun t282=>(some t282))) else ((fluxionref01_Small.f k a0).bind fun t285=>(some t285))
theorem fluxionref03_size.mono:∀ a0 k,LeO (fluxionref03_size.f k a0) (fluxionref03_size.f (k+1) a0):=by
 intro a0 k
 unfold fluxionref03_size.f
 repeat' first
   | (with_reducible exact fluxionref01_Add.mono _ _ _)
   | (with_reducible exact fluxionref01_Small.mono _ _)
   | (with_reducible exact LeO.refl _)
   | (with_reducible exact LeO.none _)
   | (with_reducible refine LeO.ite ?_ ?_)
   | (with_reducible refine LeO.bind ?_ (fun _=>?_))
   | exact fluxionref01_Add.mono _ _ _
   | exact fluxionref01_Small.mono _ _
   | exact LeO.none _
   | refine LeO.ite ?_ ?_
   | refine LeO.bind ?_ (fun _=>?_)
set_option maxHeartbeats 8000000 in
set_option maxRecDepth 100000 in
theorem fluxionref03_size.calls (k:Nat) (a0:Int) (r:List Int) (w:World) (h:fluxionref03_size.f k a0=some r) :
  Calls Try.prog 72 #[.int .i64 a0] w fun e w'=>∃ v0_:Value,e=.returned (v0_)∧Kd.R (Kd.int .i64) 3 w' w.heap.size (fun _=>True) v0_ r∧Below w.heap.size w w':=by
 have HB:=Aside0.mk (Below.refl w.heap.size w)
 have H:(if a0 < 0 then ((fluxionref01_Small.f k (wrap64 (-(wrap64 (a0+1))))).bind fun t276=>((fluxionref01_Add.f k t276 (([1]:List Int))).bind fun t282=>(some t282))) else ((fluxionref01_Small.f k a0).bind fun t285=>(some t285)))=some r:=h
 clear h
 by_cases c2:a0 < 0
 ·
  rw [if_pos c2] at H
  have c2b0:decide (a0 < 0)=true:=decide_eq_true c2
  clear c2
  replace H:=Option.bind_eq_some_iff.mp H
  obtain⟨t276,A30,H⟩:=H
  replace H:((fluxionref01_Add.f k t276 (([1]:List Int))).bind fun t282=>(some t282))=some r:=H
  have A3:=Aside0.mk A30
  clear A30
  obtain⟨y279,hy279⟩:∃ y_:List Int,y_=(([1]:List Int)):=⟨_,rfl⟩
  replace H:((fluxionref01_Add.f k t276 y279).bind fun t282=>(some t282))=some r:=by first | (rw [hy279]; with_reducible exact H) | (have H2_:=(Option.bind_some _ _).symm.trans H; rw [hy279]; with_reducible exact H2_) | (have H2_:=(Option.bind_some _ _).symm.trans H; with_reducible exact H2_) | with_reducible exact H | (rw [hy279]; exact H) | exact H
  have Ny279:=Aside0.mk hy279
  clear hy279
  replace H:=Option.bind_eq_some_iff.mp H
  obtain⟨t282,A40,H⟩:=H
  replace H:(some t282)=some r:=H
  have A4:=Aside0.mk A40
  clear A40
  obtain rfl:=Option.some.inj H
  go_enter Try.func72,Try.ntmps72
  go_wp2_with (first | ((with_reducible refine zap (f:=68) rfl ?_); refine zaC (some 8) rfl rfl Try.func68 (by kernel_rfl) rfl #[.int .i64 (wrap64 (-(wrap64 (a0+1))))] rfl (by (try simp only [List.map_toArray,List.map_cons,List.map_nil]); first | done | rfl | (simp only [List.length_drop,List.length_take]; rfl)) ?_; (with_reducible refine(fluxionref01_Small.calls k (wrap64 (-(wrap64 (a0+1)))) t276 _ A3.out).mono ?_); rintro e w5 ⟨v277,rfl,ho0,hb⟩; refine⟨_,rfl,?_⟩; have n0_:=Aside0.mk (Kd.R_lower ho0 (zaj (by repeat (first | (with_reducible first | exact HB.out | apply zab | apply zaa | apply zac) | exact HB.out)))); have n1_:=Aside0.mk (zag (by repeat (first | (with_reducible first | exact HB.out | apply zab | apply zaa | apply zac) | exact HB.out)) hb); clear HB; have HO278:=n0_; have HB:=n1_; clear n0_ n1_; (try clear hb); (try clear hb2); (try clear hk); (try clear hi); (try clear ho0)) | ((with_reducible refine zav (N:=9) rfl ?_); refine Kd.R_lit (Kd.int .i64) _ 3 ?hg (N:=9) ?hd (xs:=([1]:List Int)) (inner:=[.int .i64 1]) (ok:=fun _=>True) (okp:=fun _=>True) ?hr ?hp (fun _ hk=>hk) trivial (Below.refl _ _) (Nat.le_refl _) (by simp) ?_; (case hd=>rfl); (case hg=>rfl); (case hr=>first | (go_simp; done) | (go_simp; rfl)); (case hp=>exact(za2.one (show Kd.M (Kd.int .i64) _ _ _ 1 [.int .i64 1] from rfl) (za2.none _ _))); intro v280 w6 ho7 hb hg_ hnew_; clear hg_ hnew_; (first | rw [← Ny279.out] at ho7 | (simp only [Int.reduceToNat] at ho7; rw [← Ny279.out] at ho7)); have n0_:=Aside0.mk (Kd.R_elder' (by (with_reducible repeat (first | apply Kd.R_alloc | apply Kd.R_drewN | apply Kd.R_drew)); exact HO278.out) (Kd.R_base ho7) hb); have n1_:=Aside0.mk (Kd.R_lower (Kd.R_new' ho7 (Kd.R_lt (by (with_reducible repeat (first | apply Kd.R_alloc | apply Kd.R_drewN | apply Kd.R_drew)); exact HO278.out))) (zaj (by repeat (first | (with_reducible first | exact HB.out | apply zab | apply zaa | apply zac) | exact HB.out)))); have n2_:=Aside0.mk (zag (by repeat (first | (with_reducible first | exact HB.out | apply zab | apply zaa | apply zac) | exact HB.out)) hb); clear HO278; clear HB; have HO278:=n0_; have HO281:=n1_; have HB:=n2_; clear n0_ n1_ n2_; clear hb ho7; obtain⟨Ao8,co8,eo8⟩:=Kd.R_slice HO278.out; subst eo8; obtain⟨Ao9,co9,eo9⟩:=Kd.R_slice HO281.out; subst eo9) | ((with_reducible refine zap (f:=66) rfl ?_); refine zaC (some 10) rfl rfl Try.func66 (by kernel_rfl) rfl #[.slice Ao8 t276.length co8,.slice Ao9 y279.length co9] rfl (by (try simp only [List.map_toArray,List.map_cons,List.map_nil]); first | done | rfl | (simp only [List.length_drop,List.length_take]; rfl)) ?_; (with_reducible refine(fluxionref01_Add.calls k _ _ t276 _ _ y279 t282 _ ?side1 ?side2 ?side3 ?side4 A4.out).mono ?_); (case side1=>repeat (first | exact(Kd.R_reads' HO278.out).2.2 | (with_reducible refine Kd.C_alloc ?_ _) | (with_reducible refine Kd.C_drewN ?_ _) | (with_reducible refine Kd.C_drew ?_))); (case side2=>exact(Kd.R_reads' HO278.out).2.1); (case side3=>repeat (first | exact(Kd.R_reads' HO281.out).2.2 | (with_reducible refine Kd.C_alloc ?_ _) | (with_reducible refine Kd.C_drewN ?_ _) | (with_reducible refine Kd.C_drew ?_))); (case side4=>exact(Kd.R_reads' HO281.out).2.1); rintro e w10 ⟨v283,rfl,ho0,hb⟩; refine⟨_,rfl,?_⟩; have n0_:=Aside0.mk (Kd.R_elder' (by (with_reducible repeat (first | apply Kd.R_alloc | apply Kd.R_drewN | apply Kd.R_drew)); exact HO278.out) (Kd.R_base ho0) hb); have n1_:=Aside0.mk (Kd.R_elder' (by (with_reducible repeat (first | apply Kd.R_alloc | apply Kd.R_drewN | apply Kd.R_drew)); exact HO281.out) (Kd.R_base ho0) hb); have n2_:=Aside0.mk (Kd.R_lower (Kd.R_new' (Kd.R_new' ho0 (Kd.R_lt (by (with_reducible repeat (first | apply Kd.R_alloc | apply Kd.R_drewN | apply Kd.R_drew)); exact HO278.out))) (Kd.R_lt (by (with_reducible repeat (first | apply Kd.R_alloc | apply Kd.R_drewN | apply Kd.R_drew)); exact HO281.out))) (zaj (by repeat (first | (with_reducible first | exact HB.out | apply zab | apply zaa | apply zac) | exact HB.out)))); have n3_:=Aside0.mk (zag (by repeat (first | (with_reducible first | exact HB.out | apply zab | apply zaa | apply zac) | exact HB.out)) hb); clear HO278; clear HO281; clear HB; have HO278:=n0_; have HO281:=n1_; have HO284:=n2_; have HB:=n3_; clear n0_ n1_ n2_ n3_; (try clear hb); (try clear hb2); (try clear hk); (try clear hi); (try clear ho0)))
  go_ret
  exact⟨_,by first | rfl | (simp [zan,zao]<;>rfl) | (simp [*,zan,zao]<;>rfl),by (with_reducible repeat (first | apply Kd.R_alloc | apply Kd.R_drewN | apply Kd.R_drew)); exact Kd.R_mono HO284.out (fun _ hk=>trivial),by repeat (first | (with_reducible first | exact HB.out | apply zab | apply zaa | apply zac) | exact HB.out)⟩
 ·
  rw [if_neg c2] at H
  have c2b0:decide (a0 < 0)=false:=decide_eq_false c2
  clear c2
  replace H:=Option.bind_eq_some_iff.mp H
  obtain⟨t285,A110,H⟩:=H
  replace H:(some t285)=some r:=H
  have A11:=Aside0.mk A110
  clear A110
  obtain rfl:=Option.some.inj H
  go_enter Try.func72,Try.ntmps72
  go_wp2_with (first | ((with_reducible refine zap (f:=68) rfl ?_); refine zaC (some 12) rfl rfl Try.func68 (by kernel_rfl) rfl #[.int .i64 a0] rfl (by (try simp only [List.map_toArray,List.map_cons,List.map_nil]); first | done | rfl | (simp only [List.length_drop,List.length_take]; rfl)) ?_; (with_reducible refine(fluxionref01_Small.calls k a0 t285 _ A11.out).mono ?_); rintro e w12 ⟨v286,rfl,ho0,hb⟩; refine⟨_,rfl,?_⟩; have n0_:=Aside0.mk (Kd.R_lower ho0 (zaj (by repeat (first | (with_reducible first | exact HB.out | apply zab | apply zaa | apply zac) | exact HB.out)))); have n1_:=Aside0.mk (zag (by repeat (first | (with_reducible first | exact HB.out | apply zab | apply zaa | apply zac) | exact HB.out)) hb); clear HB; have HO287:=n0_; have HB:=n1_; clear n0_ n1_; (try clear hb); (try clear hb2); (try clear hk); (try clear hi); (try clear ho0)))
  go_ret
  exact⟨_,by first | rfl | (simp [zan,zao]<;>rfl) | (simp [*,zan,zao]<;>rfl),by (with_reducible repeat (first | apply Kd.R_alloc | apply Kd.R_drewN | apply Kd.R_drew)); exact HO287.out,by repeat (first | (with_reducible first | exact HB.out | apply zab | apply zaa | apply zac) | exact HB.out)⟩
def fluxionref03_Int.f (k:Nat) (a0:Int):Option (Bool×List Int×List Int):=(fluxionref03_size.f k a0).bind fun t289=>(some (decide (a0 < 0),t289,(([1]:List Int))))
theorem fluxionref03_Int.mono:∀ a0 k,LeO (fluxionref03_Int.f k a0) (fluxionref03_Int.f (k+1) a0):=by
 intro a0 k
 unfold fluxionref03_Int.f
 repeat' first
   | (with_reducible exact fluxionref03_size.mono _ _)
   | (with_reducible exact LeO.refl _)
   | (with_reducible exact LeO.none _)
   | (with_reducible refine LeO.ite ?_ ?_)
   | (with_reducible refine LeO.bind ?_ (fun _=>?_))
   | exact fluxionref03_size.mono _ _
   | exact LeO.none _
   | refine LeO.ite ?_ ?_
   | refine LeO.bind ?_ (fun _=>?_)
set_option maxHeartbeats 8000000 in
set_option maxRecDepth 100000 in
theorem fluxionref03_Int.calls (k:Nat) (a0:Int) (r1:Bool) (r2:List Int) (r3:List Int) (w:World) (h:fluxionref03_Int.f k a0=some (r1,r2,r3)) :
  Calls Try.prog 27 #[.int .i64 a0] w fun e w'=>∃ v1_ v2_:Value,e=.returned (.agg #[.bool r1,v1_,v2_])∧Kd.R (Kd.int .i64) 3 w' w.heap.size (fun k_=>some k_≠(v2_:Value).ownBlock) v1_ r2∧Kd.R (Kd.int .i64) 3 w' w.heap.size (fun k_=>some k_≠(v1_:Value).ownBlock) v2_ r3∧Below w.heap.size w w':=by
 have hu36:=Try.underlying36
 have HB:=Aside0.mk (Below.refl w.heap.size w)
 have H:((fluxionref03_size.f k a0).bind fun t289=>(some (decide (a0 < 0),t289,(([1]:List Int)))))=some (r1,r2,r3):=h
 clear h
 replace H:=Option.bind_eq_some_iff.mp H
 obtain⟨t289,A20,H⟩:=H
 replace H:(some (decide (a0 < 0),t289,(([1]:List Int))))=some (r1,r2,r3):=H
 have A2:=Aside0.mk A20
 clear A20
 obtain⟨y292,hy292⟩:∃ y_:List Int,y_=(([1]:List Int)):=⟨_,rfl⟩
 replace H:(some (decide (a0 < 0),t289,y292))=some (r1,r2,r3):=by first | (rw [hy292]; with_reducible exact H) | (have H2_:=(Option.bind_some _ _).symm.trans H; rw [hy292]; with_reducible exact H2_) | (have H2_:=(Option.bind_some _ _).symm.trans H; with_reducible exact H2_) | with_reducible exact H | (rw [hy292]; exact H) | exact H
 have Ny292:=Aside0.mk hy292
 clear hy292
 simp only [Option.some.injEq,Prod.mk.injEq] at H
 obtain⟨rfl,rfl,rfl⟩:=H
 go_enter Try.func27,Try.ntmps27
 go_wp2_with (first | ((with_reducible refine zav (N:=2) rfl ?_); refine zax ?hg (N:=2) ?hd (cs:=#[.bool false,.slice none 0 0,.slice none 0 0]) (t:=36) ?hr ?_; (case hd=>rfl); (case hg=>rfl); (case hr=>first | (go_simp; done) | (go_simp; rfl)); intro gb288 hg w3 hbox hb; have n0_:=Aside0.mk (zag (by repeat (first | (with_reducible first | exact HB.out | apply zab | apply zaa | apply zac) | exact HB.out)) hb); have n1_:=Aside0.mk (hbox); have n2_:=Aside0.mk ((by rw [hg]; exact(zaj (by repeat (first | (with_reducible first | exact HB.out | apply zab | apply zaa | apply zac) | exact HB.out))):w.heap.size≤gb288)); have n3_:=Aside0.mk ((by rw [hg]; exact(zaj (by repeat (first | (with_reducible first | exact HB.out | apply zab | apply zaa | apply zac) | exact HB.out))):w.heap.size≤gb288)); clear HB; have HB:=n0_; have BK288:=n1_; have GW288:=n2_; have GE288:=n3_; clear n0_ n1_ n2_ n3_; clear hb hbox hg) | ((with_reducible refine zap (f:=72) rfl ?_); refine zaC (some 6) rfl rfl Try.func72 (by kernel_rfl) rfl #[.int .i64 a0] rfl (by (try simp only [List.map_toArray,List.map_cons,List.map_nil]); first | done | rfl | (simp only [List.length_drop,List.length_take]; rfl)) ?_; (with_reducible refine(fluxionref03_size.calls k a0 t289 _ A2.out).mono ?_); rintro e w4 ⟨v290,rfl,ho0,hb⟩; refine⟨_,rfl,?_⟩; have n0_:=Aside0.mk (Kd.R_lower ho0 (zaj (by repeat (first | (with_reducible first | exact HB.out | apply zab | apply zaa | apply zac | refine zad ?_ GE288.out) | exact HB.out)))); have n1_:=Aside0.mk (zal (g:=gb288) (o:=.cells #[.bool false,.slice none 0 0,.slice none 0 0] 36 (0,0)) (by (with_reducible repeat (first | refine zaf ?_ _ | refine zah ?_ | refine zae ?_ _)); exact BK288.out) hb); have n2_:=Aside0.mk (zag (by repeat (first | (with_reducible first | exact HB.out | apply zab | apply zaa | apply zac | refine zad ?_ GE288.out) | exact HB.out)) hb); clear BK288; clear HB; have HO291:=n0_; have BK288:=n1_; have HB:=n2_; clear n0_ n1_ n2_; (try clear hb); (try clear hb2); (try clear hk); (try clear hi); (try clear ho0)) | ((with_reducible refine zav (N:=7) rfl ?_); refine Kd.R_lit (Kd.int .i64) _ 3 ?hg (N:=7) ?hd (xs:=([1]:List Int)) (inner:=[.int .i64 1]) (ok:=fun _=>True) (okp:=fun _=>True) ?hr ?hp (fun _ hk=>hk) trivial (Below.refl _ _) (Nat.le_refl _) (by simp) ?_; (case hd=>rfl); (case hg=>rfl); (case hr=>first | (go_simp; done) | (go_simp; rfl)); (case hp=>exact(za2.one (show Kd.M (Kd.int .i64) _ _ _ 1 [.int .i64 1] from rfl) (za2.none _ _))); intro v293 w5 ho6 hb hg_ hnew_; clear hg_ hnew_; (first | rw [← Ny292.out] at ho6 | (simp only [Int.reduceToNat] at ho6; rw [← Ny292.out] at ho6)); have n0_:=Aside0.mk (Kd.R_elder' (by (with_reducible repeat (first | apply Kd.R_alloc | apply Kd.R_drewN | apply Kd.R_drew)); exact HO291.out) (Kd.R_base ho6) hb); have n1_:=Aside0.mk (Kd.R_lower (Kd.R_new' ho6 (Kd.R_lt (by (with_reducible repeat (first | apply Kd.R_alloc | apply Kd.R_drewN | apply Kd.R_drew)); exact HO291.out))) (zaj (by repeat (first | (with_reducible first | exact HB.out | apply zab | apply zaa | apply zac | refine zad ?_ GE288.out) | exact HB.out)))); have n2_:=Aside0.mk (zal (g:=gb288) (o:=.cells #[.bool false,.slice none 0 0,.slice none 0 0] 36 (0,0)) (by (with_reducible repeat (first | refine zaf ?_ _ | refine zah ?_ | refine zae ?_ _)); exact BK288.out) hb); have n3_:=Aside0.mk (zag (by repeat (first | (with_reducible first | exact HB.out | apply zab | apply zaa | apply zac | refine zad ?_ GE288.out) | exact HB.out)) hb); clear HO291; clear BK288; clear HB; have HO291:=n0_; have HO294:=n1_; have BK288:=n2_; have HB:=n3_; clear n0_ n1_ n2_ n3_; clear hb ho6; obtain⟨Ao7,co7,eo7⟩:=Kd.R_slice HO294.out; subst eo7; obtain⟨Ao8,co8,eo8⟩:=Kd.R_slice HO291.out; subst eo8; have hcz9_0:w5.cell? ⟨gb288,0,none⟩=some (.bool false):=(zai BK288.out 0).trans rfl; have hcz9_1:w5.cell? ⟨gb288,1,none⟩=some (.slice none 0 0):=(zai BK288.out 1).trans rfl; have hcz9_2:w5.cell? ⟨gb288,2,none⟩=some (.slice none 0 0):=(zai BK288.out 2).trans rfl; have hfz9_0:=zak BK288.out 0; have hfz9_1:=zak BK288.out 1; have hfz9_2:=zak BK288.out 2))
 refine bodyPost_ret (results_cell_row rfl _ _ gb288 36 #[.bool (decide (a0 < 0)),.slice Ao8 t289.length co8,.slice Ao7 y292.length co7] (0,0) _ rfl (by (with_reducible repeat (first | refine zaf ?_ _ | refine zah ?_ | refine zae ?_ _)); refine zau (cs:=#[.bool (decide (a0 < 0)),.slice Ao8 t289.length co8,.slice none 0 0]) ?_ 2 _ rfl; (with_reducible repeat (first | refine zaf ?_ _ | refine zah ?_ | refine zae ?_ _)); refine zau (cs:=#[.bool (decide (a0 < 0)),.slice none 0 0,.slice none 0 0]) ?_ 1 _ rfl; (with_reducible repeat (first | refine zaf ?_ _ | refine zah ?_ | refine zae ?_ _)); refine zau (cs:=#[.bool false,.slice none 0 0,.slice none 0 0]) ?_ 0 _ rfl; (with_reducible repeat (first | refine zaf ?_ _ | refine zah ?_ | refine zae ?_ _)); exact BK288.out) Try.underlying36 rfl (by kernel_rfl)) rfl ?_
 exact⟨_,_,by first | rfl | (simp [zan,zao]<;>rfl) | (simp [*,zan,zao]<;>rfl),by (with_reducible repeat (first | apply Kd.R_alloc | apply Kd.R_drewN | apply Kd.R_drew)); exact Kd.R_mono (Kd.R_far (p:=⟨gb288,2,none⟩) (Kd.R_far (p:=⟨gb288,1,none⟩) (Kd.R_far (p:=⟨gb288,0,none⟩) (Kd.R_types HO291.out BK288.out (by decide)) (fun _ hk=>hk.2) (.bool (decide (a0 < 0)))) (fun _ hk=>hk.2) (.slice Ao8 t289.length co8)) (fun _ hk=>hk.2) (.slice Ao7 y292.length co7)) (fun _ hk=>hk.1.2),by (with_reducible repeat (first | apply Kd.R_alloc | apply Kd.R_drewN | apply Kd.R_drew)); exact Kd.R_mono (Kd.R_far (p:=⟨gb288,2,none⟩) (Kd.R_far (p:=⟨gb288,1,none⟩) (Kd.R_far (p:=⟨gb288,0,none⟩) (Kd.R_types HO294.out BK288.out (by decide)) (fun _ hk=>hk.2) (.bool (decide (a0 < 0)))) (fun _ hk=>hk.2) (.slice Ao8 t289.length co8)) (fun _ hk=>hk.2) (.slice Ao7 y292.length co7)) (fun _ hk=>hk.1.2),by repeat (first | (with_reducible first | exact HB.out | apply zab | apply zaa | apply zac | refine zad ?_ GE288.out) | exact HB.out)⟩
def fluxionref03_Frac.f (k:Nat) (a0:Int) (a1:Int):Option (Bool×List Int×List Int):=(fluxionref03_size.f k a0).bind fun t296=>((fluxionref03_size.f k a1).bind fun t299=>((fluxionref03_Make.f k ((decide (a0 < 0)) != (decide (a1 < 0))) t296 t299).bind fun bt302=>(some (bt302.1,bt302.2.1,bt302.2.2))))
theorem fluxionref03_Frac.mono:∀ a0 a1 k,LeO (fluxionref03_Frac.f k a0 a1) (fluxionref03_Frac.f (k+1) a0 a1):=by
 intro a0 a1 k
 unfold fluxionref03_Frac.f
 repeat' first
   | (with_reducible exact fluxionref03_Make.mono _ _ _ _)
   | (with_reducible exact fluxionref03_size.mono _ _)
   | (with_reducible exact LeO.refl _)
   | (with_reducible exact LeO.none _)
   | (with_reducible refine LeO.ite ?_ ?_)
   | (with_reducible refine LeO.bind ?_ (fun _=>?_))
   | exact fluxionref03_Make.mono _ _ _ _
   | exact fluxionref03_size.mono _ _
   | exact LeO.none _
   | refine LeO.ite ?_ ?_
   | refine LeO.bind ?_ (fun _=>?_)
set_option maxHeartbeats 8000000 in
set_option maxRecDepth 100000 in
theorem fluxionref03_Frac.calls (k:Nat) (a0:Int) (a1:Int) (r1:Bool) (r2:List Int) (r3:List Int) (w:World) (h:fluxionref03_Frac.f k a0 a1=some (r1,r2,r3)) :
  Calls Try.prog 29 #[.int .i64 a0,.int .i64 a1] w fun e w'=>∃ v1_ v2_:Value,e=.returned (.agg #[.bool r1,v1_,v2_])∧Kd.R (Kd.int .i64) 3 w' w.heap.size (fun k_=>some k_≠(v2_:Value).ownBlock) v1_ r2∧Kd.R (Kd.int .i64) 3 w' w.heap.size (fun k_=>some k_≠(v1_:Value).ownBlock) v2_ r3∧Below w.heap.size w w':=by
 have hu36:=Try.underlying36
 have HB:=Aside0.mk (Below.refl w.heap.size w)
 have H:((fluxionref03_size.f k a0).bind fun t296=>((fluxionref03_size.f k a1).bind fun t299=>((fluxionref03_Make.f k ((decide (a0 < 0)) != (decide (a1 < 0))) t296 t299).bind fun bt302=>(some (bt302.1,bt302.2.1,bt302.2.2)))))=some (r1,r2,r3):=h
 clear h
 replace H:=Option.bind_eq_some_iff.mp H
 obtain⟨t296,A30,H⟩:=H
 replace H:((fluxionref03_size.f k a1).bind fun t299=>((fluxionref03_Make.f k ((decide (a0 < 0)) != (decide (a1 < 0))) t296 t299).bind fun bt302=>(some (bt302.1,bt302.2.1,bt302.2.2))))=some (r1,r2,r3):=H
 have A3:=Aside0.mk A30
 clear A30
 replace H:=Option.bind_eq_some_iff.mp H
 obtain⟨t299,A40,H⟩:=H
 replace H:((fluxionref03_Make.f k ((decide (a0 < 0)) != (decide (a1 < 0))) t296 t299).bind fun bt302=>(some (bt302.1,bt302.2.1,bt302.2.2)))=some (r1,r2,r3):=H
 have A4:=Aside0.mk A40
 clear A40
 replace H:=Option.bind_eq_some_iff.mp H
 obtain⟨⟨t302,t303,t306⟩,A50,H⟩:=H
 replace H:(some (t302,t303,t306))=some (r1,r2,r3):=H
 have A5:=Aside0.mk A50
 clear A50
 simp only [Option.some.injEq,Prod.mk.injEq] at H
 obtain⟨rfl,rfl,rfl⟩:=H
 go_enter Try.func29,Try.ntmps29
 go_wp2_with (first | ((with_reducible refine zav (N:=4) rfl ?_); refine zax ?hg (N:=4) ?hd (cs:=#[.bool false,.slice none 0 0,.slice none 0 0]) (t:=36) ?hr ?_; (case hd=>rfl); (case hg=>rfl); (case hr=>first | (go_simp; done) | (go_simp; rfl)); intro gb295 hg w6 hbox hb; have n0_:=Aside0.mk (zag (by repeat (first | (with_reducible first | exact HB.out | apply zab | apply zaa | apply zac) | exact HB.out)) hb); have n1_:=Aside0.mk (hbox); have n2_:=Aside0.mk ((by rw [hg]; exact(zaj (by repeat (first | (with_reducible first | exact HB.out | apply zab | apply zaa | apply zac) | exact HB.out))):w.heap.size≤gb295)); have n3_:=Aside0.mk ((by rw [hg]; exact(zaj (by repeat (first | (with_reducible first | exact HB.out | apply zab | apply zaa | apply zac) | exact HB.out))):w.heap.size≤gb295)); clear HB; have HB:=n0_; have BK295:=n1_; have GW295:=n2_; have GE295:=n3_; clear n0_ n1_ n2_ n3_; clear hb hbox hg) | ((with_reducible refine zap (f:=72) rfl ?_); refine zaC (some 11) rfl rfl Try.func72 (by kernel_rfl) rfl #[.int .i64 a0] rfl (by (try simp only [List.map_toArray,List.map_cons,List.map_nil]); first | done | rfl | (simp only [List.length_drop,List.length_take]; rfl)) ?_; (with_reducible refine(fluxionref03_size.calls k a0 t296 _ A3.out).mono ?_); rintro e w7 ⟨v297,rfl,ho0,hb⟩; refine⟨_,rfl,?_⟩; have n0_:=Aside0.mk (Kd.R_lower ho0 (zaj (by repeat (first | (with_reducible first | exact HB.out | apply zab | apply zaa | apply zac | refine zad ?_ GE295.out) | exact HB.out)))); have n1_:=Aside0.mk (zal (g:=gb295) (o:=.cells #[.bool false,.slice none 0 0,.slice none 0 0] 36 (0,0)) (by (with_reducible repeat (first | refine zaf ?_ _ | refine zah ?_ | refine zae ?_ _)); exact BK295.out) hb); have n2_:=Aside0.mk (zag (by repeat (first | (with_reducible first | exact HB.out | apply zab | apply zaa | apply zac | refine zad ?_ GE295.out) | exact HB.out)) hb); clear BK295; clear HB; have HO298:=n0_; have BK295:=n1_; have HB:=n2_; clear n0_ n1_ n2_; (try clear hb); (try clear hb2); (try clear hk); (try clear hi); (try clear ho0)) | ((with_reducible refine zap (f:=72) rfl ?_); refine zaC (some 13) rfl rfl Try.func72 (by kernel_rfl) rfl #[.int .i64 a1] rfl (by (try simp only [List.map_toArray,List.map_cons,List.map_nil]); first | done | rfl | (simp only [List.length_drop,List.length_take]; rfl)) ?_; (with_reducible refine(fluxionref03_size.calls k a1 t299 _ A4.out).mono ?_); rintro e w8 ⟨v300,rfl,ho0,hb⟩; refine⟨_,rfl,?_⟩; have n0_:=Aside0.mk (Kd.R_elder' (by (with_reducible repeat (first | apply Kd.R_alloc | apply Kd.R_drewN | apply Kd.R_drew)); exact HO298.out) (Kd.R_base ho0) hb); have n1_:=Aside0.mk (Kd.R_lower (Kd.R_new' ho0 (Kd.R_lt (by (with_reducible repeat (first | apply Kd.R_alloc | apply Kd.R_drewN | apply Kd.R_drew)); exact HO298.out))) (zaj (by repeat (first | (with_reducible first | exact HB.out | apply zab | apply zaa | apply zac | refine zad ?_ GE295.out) | exact HB.out)))); have n2_:=Aside0.mk (zal (g:=gb295) (o:=.cells #[.bool false,.slice none 0 0,.slice none 0 0] 36 (0,0)) (by (with_reducible repeat (first | refine zaf ?_ _ | refine zah ?_ | refine zae ?_ _)); exact BK295.out) hb); have n3_:=Aside0.mk (zag (by repeat (first | (with_reducible first | exact HB.out | apply zab | apply zaa | apply zac | refine zad ?_ GE295.out) | exact HB.out)) hb); clear HO298; clear BK295; clear HB; have HO298:=n0_; have HO301:=n1_; have BK295:=n2_; have HB:=n3_; clear n0_ n1_ n2_ n3_; (try clear hb); (try clear hb2); (try clear hk); (try clear hi); (try clear ho0); obtain⟨Ao9,co9,eo9⟩:=Kd.R_slice HO298.out; subst eo9; obtain⟨Ao10,co10,eo10⟩:=Kd.R_slice HO301.out; subst eo10) | ((with_reducible refine zap (f:=25) rfl ?_); refine zaC (some 14) rfl rfl Try.func25 (by kernel_rfl) rfl #[.bool ((decide (a0 < 0)) != (decide (a1 < 0))),.slice Ao9 t296.length co9,.slice Ao10 t299.length co10] rfl (by (try simp only [List.map_toArray,List.map_cons,List.map_nil]); first | done | rfl | (simp only [List.length_drop,List.length_take]; rfl)) ?_; (with_reducible refine(fluxionref03_Make.calls k ((decide (a0 < 0)) != (decide (a1 < 0))) _ _ t296 _ _ t299 t302 t303 t306 _ ?side1 ?side2 ?side3 ?side4 A5.out).mono ?_); (case side1=>repeat (first | exact(Kd.R_reads' HO298.out).2.2 | (with_reducible refine Kd.C_alloc ?_ _) | (with_reducible refine Kd.C_drewN ?_ _) | (with_reducible refine Kd.C_drew ?_))); (case side2=>exact(Kd.R_reads' HO298.out).2.1); (case side3=>repeat (first | exact(Kd.R_reads' HO301.out).2.2 | (with_reducible refine Kd.C_alloc ?_ _) | (with_reducible refine Kd.C_drewN ?_ _) | (with_reducible refine Kd.C_drew ?_))); (case side4=>exact(Kd.R_reads' HO301.out).2.1); rintro e w11 ⟨v304,v307,rfl,ho0,ho1,hb⟩; refine⟨_,rfl,?_⟩; have n0_:=Aside0.mk (Kd.R_mono (Kd.R_told (Kd.R_told (Kd.R_old (by (with_reducible repeat (first | apply Kd.R_alloc | apply Kd.R_drewN | apply Kd.R_drew)); exact HO298.out) hb) (Kd.R_base ho0)) (Kd.R_base ho1)) (fun _ h_=>h_.1)); have n1_:=Aside0.mk (Kd.R_mono (Kd.R_told (Kd.R_told (Kd.R_old (by (with_reducible repeat (first | apply Kd.R_alloc | apply Kd.R_drewN | apply Kd.R_drew)); exact HO301.out) hb) (Kd.R_base ho0)) (Kd.R_base ho1)) (fun _ h_=>h_.1)); have n2_:=Aside0.mk (Kd.R_lower (Kd.R_new' (Kd.R_new' ho0 (Kd.R_lt (by (with_reducible repeat (first | apply Kd.R_alloc | apply Kd.R_drewN | apply Kd.R_drew)); exact HO298.out))) (Kd.R_lt (by (with_reducible repeat (first | apply Kd.R_alloc | apply Kd.R_drewN | apply Kd.R_drew)); exact HO301.out))) (zaj (by repeat (first | (with_reducible first | exact HB.out | apply zab | apply zaa | apply zac | refine zad ?_ GE295.out) | exact HB.out)))); have n3_:=Aside0.mk (Kd.R_lower (Kd.R_new' (Kd.R_new' ho1 (Kd.R_lt (by (with_reducible repeat (first | apply Kd.R_alloc | apply Kd.R_drewN | apply Kd.R_drew)); exact HO298.out))) (Kd.R_lt (by (with_reducible repeat (first | apply Kd.R_alloc | apply Kd.R_drewN | apply Kd.R_drew)); exact HO301.out))) (zaj (by repeat (first | (with_reducible first | exact HB.out | apply zab | apply zaa | apply zac | refine zad ?_ GE295.out) | exact HB.out)))); have n4_:=Aside0.mk (zal (g:=gb295) (o:=.cells #[.bool false,.slice none 0 0,.slice none 0 0] 36 (0,0)) (by (with_reducible repeat (first | refine zaf ?_ _ | refine zah ?_ | refine zae ?_ _)); exact BK295.out) hb); have n5_:=Aside0.mk (zag (by repeat (first | (with_reducible first | exact HB.out | apply zab | apply zaa | apply zac | refine zad ?_ GE295.out) | exact HB.out)) hb); clear HO298; clear HO301; clear BK295; clear HB; have HO298:=n0_; have HO301:=n1_; have HO305:=n2_; have HO308:=n3_; have BK295:=n4_; have HB:=n5_; clear n0_ n1_ n2_ n3_ n4_ n5_; (try clear hb); (try clear hb2); (try clear hk); (try clear hi); (try clear ho0); (try clear ho1); have hcz12_0:w11.cell? ⟨gb295,0,none⟩=some (.bool false):=(zai BK295.out 0).trans rfl; have hcz12_1:w11.cell? ⟨gb295,1,none⟩=some (.slice none 0 0):=(zai BK295.out 1).trans rfl; have hcz12_2:w11.cell? ⟨gb295,2,none⟩=some (.slice none 0 0):=(zai BK295.out 2).trans rfl; have hfz12_0:=zak BK295.out 0; have hfz12_1:=zak BK295.out 1; have hfz12_2:=zak BK295.out 2; obtain⟨Ao13,co13,eo13⟩:=Kd.R_slice HO305.out; subst eo13; obtain⟨Ao14,co14,eo14⟩:=Kd.R_slice HO308.out; subst eo14))
 refine bodyPost_ret (results_cell_row rfl _ _ gb295 36 #[.bool t302,.slice Ao13 t303.length co13,.slice Ao14 t306.length co14] (0,0) _ rfl (by (with_reducible repeat (first | refine zaf ?_ _ | refine zah ?_ | refine zae ?_ _)); refine zau (cs:=#[.bool t302,.slice Ao13 t303.length co13,.slice none 0 0]) ?_ 2 _ rfl; (with_reducible repeat (first | refine zaf ?_ _ | refine zah ?_ | refine zae ?_ _)); refine zau (cs:=#[.bool t302,.slice none 0 0,.slice none 0 0]) ?_ 1 _ rfl; (with_reducible repeat (first | refine zaf ?_ _ | refine zah ?_ | refine zae ?_ _)); refine zau (cs:=#[.bool false,.slice none 0 0,.slice none 0 0]) ?_ 0 _ rfl; (with_reducible repeat (first | refine zaf ?_ _ | refine zah ?_ | refine zae ?_ _)); exact BK295.out) Try.underlying36 rfl (by kernel_rfl)) rfl ?_
 exact⟨_,_,by first | rfl | (simp [zan,zao]<;>rfl) | (simp [*,zan,zao]<;>rfl),by (with_reducible repeat (first | apply Kd.R_alloc | apply Kd.R_drewN | apply Kd.R_drew)); exact Kd.R_mono (Kd.R_far (p:=⟨gb295,2,none⟩) (Kd.R_far (p:=⟨gb295,1,none⟩) (Kd.R_far (p:=⟨gb295,0,none⟩) (Kd.R_types HO305.out BK295.out (by decide)) (fun _ hk=>hk.2) (.bool t302)) (fun _ hk=>hk.2) (.slice Ao13 t303.length co13)) (fun _ hk=>hk.2) (.slice Ao14 t306.length co14)) (fun _ hk=>hk.1.1.1),by (with_reducible repeat (first | apply Kd.R_alloc | apply Kd.R_drewN | apply Kd.R_drew)); exact Kd.R_mono (Kd.R_far (p:=⟨gb295,2,none⟩) (Kd.R_far (p:=⟨gb295,1,none⟩) (Kd.R_far (p:=⟨gb295,0,none⟩) (Kd.R_types HO308.out BK295.out (by decide)) (fun _ hk=>hk.2) (.bool t302)) (fun _ hk=>hk.2) (.slice Ao13 t303.length co13)) (fun _ hk=>hk.2) (.slice Ao14 t306.length co14)) (fun _ hk=>hk.1.1.1),by repeat (first | (with_reducible first | exact HB.out | apply zab | apply zaa | apply zac | refine zad ?_ GE295.out) | exact HB.out)⟩
def fluxionref03_Zero.f (a0_0:Bool) (l0_1:List Int) (l0_2:List Int):Option (Bool):=some ((l0_1.length:Int) == 0)
def fluxionref03_Neg.f (a0_0:Bool) (l0_1:List Int) (l0_2:List Int):Option (Bool×List Int×List Int):=(fluxionref03_Zero.f a0_0 l0_1 l0_2).bind fun t312=>(if t312=true then (some (a0_0,l0_1,l0_2)) else (some (!a0_0,l0_1,l0_2)))
end Go.Proofs.Ytehghijlchpeaaa.L
end
section
namespace Go.Proofs.Ytehghijlchpeaaa.L
open Go.RowKit Go.Proofs.YtehghijlchpeaaaW.PrintWords Go.Proofs.YtehghijlchpeaaaW.PrintLast Go.Proofs.YtehghijlchpeaaaW.PrintMore
attribute [local go_sem] zaX zaU zbc za9 zaN zaM zaW zaV   -- for this text's walks alone
set_option linter.unusedVariables false
set_option linter.unusedSimpArgs false
def fluxionref01_Mul.l0:Nat→List Int→List Int→List Int→Int→Option (List Int)
 | 0,_,_,_,_=>none
 | k+1,x0,x1,x5,x6=>if x6 ≥ 0 then (if (x5.length:Int) > 0 then ((some (([0]:List Int):List Int)).bind fun y313=>(if y313.length+x5.length < 17592186044416 then (if 0≤x6 then (if x6 < (x1.length:Int) then ((fluxionref01_Times.f k x0 (rd x1 x6)).bind fun t320=>((fluxionref01_Add.f k (y313++x5) t320).bind fun t323=>(fluxionref01_Mul.l0 k x0 x1 t323 (wrap64 (x6-1))))) else (none)) else (none)) else (none))) else (if 0≤x6 then (if x6 < (x1.length:Int) then ((fluxionref01_Times.f k x0 (rd x1 x6)).bind fun t327=>((fluxionref01_Add.f k ([]:List Int) t327).bind fun t330=>(fluxionref01_Mul.l0 k x0 x1 t330 (wrap64 (x6-1))))) else (none)) else (none))) else (some x5)
def fluxionref01_Mul.f (k:Nat) (l0:List Int) (l1:List Int):Option (List Int):=fluxionref01_Mul.l0 k l0 l1 ([]:List Int) (wrap64 ((l1.length:Int)-1))
theorem fluxionref01_Mul.mono_l:∀ k,(∀ y0 y1 y2 y3,LeO (fluxionref01_Mul.l0 k y0 y1 y2 y3) (fluxionref01_Mul.l0 (k+1) y0 y1 y2 y3))
 | 0=>fun _ _ _ _ r h=>by simp [fluxionref01_Mul.l0] at h
 | k+1=>by
  have ih0:=fluxionref01_Mul.mono_l k
  ·
   intro y0 y1 y2 y3
   unfold fluxionref01_Mul.l0
   repeat' first
   | (with_reducible exact ih0 _ _ _ _)
   | (with_reducible exact fluxionref01_Add.mono _ _ _)
   | (with_reducible exact fluxionref01_Times.mono _ _ _)
   | (with_reducible exact LeO.refl _)
   | (with_reducible exact LeO.none _)
   | (with_reducible refine LeO.ite ?_ ?_)
   | (with_reducible refine LeO.bind ?_ (fun _=>?_))
   | exact ih0 _ _ _ _
   | exact fluxionref01_Add.mono _ _ _
   | exact fluxionref01_Times.mono _ _ _
   | exact LeO.none _
   | refine LeO.ite ?_ ?_
   | refine LeO.bind ?_ (fun _=>?_)
theorem fluxionref01_Mul.mono:∀ a0 a1 k,LeO (fluxionref01_Mul.f k a0 a1) (fluxionref01_Mul.f (k+1) a0 a1):=by
 intro a0 a1 k
 have ih0:=fluxionref01_Mul.mono_l k
 unfold fluxionref01_Mul.f
 repeat' first
   | (with_reducible exact ih0 _ _ _ _)
   | (with_reducible exact fluxionref01_Add.mono _ _ _)
   | (with_reducible exact fluxionref01_Times.mono _ _ _)
   | (with_reducible exact LeO.refl _)
   | (with_reducible exact LeO.none _)
   | (with_reducible refine LeO.ite ?_ ?_)
   | (with_reducible refine LeO.bind ?_ (fun _=>?_))
   | exact ih0 _ _ _ _
   | exact fluxionref01_Add.mono _ _ _
   | exact fluxionref01_Times.mono _ _ _
   | exact LeO.none _
   | refine LeO.ite ?_ ?_
   | refine LeO.bind ?_ (fun _=>?_)
def fluxionref03_Mul.f (k:Nat) (a0_0:Bool) (l0_1:List Int) (l0_2:List Int) (a1_0:Bool) (l1_1:List Int) (l1_2:List Int):Option (Bool×List Int×List Int):=(fluxionref01_Mul.f k l0_1 l1_1).bind fun t336=>((fluxionref01_Mul.f k l0_2 l1_2).bind fun t339=>((fluxionref03_Make.f k (a0_0 != a1_0) t336 t339).bind fun bt342=>(some (bt342.1,bt342.2.1,bt342.2.2))))
theorem fluxionref03_Mul.mono:∀ a0 a1 a2 a3 a4 a5 k,LeO (fluxionref03_Mul.f k a0 a1 a2 a3 a4 a5) (fluxionref03_Mul.f (k+1) a0 a1 a2 a3 a4 a5):=by
 intro a0 a1 a2 a3 a4 a5 k
 unfold fluxionref03_Mul.f
 repeat' first
   | (with_reducible exact fluxionref01_Mul.mono _ _ _)
   | (with_reducible exact fluxionref03_Make.mono _ _ _ _)
   | (with_reducible exact LeO.refl _)
   | (with_reducible exact LeO.none _)
   | (with_reducible refine LeO.ite ?_ ?_)
   | (with_reducible refine LeO.bind ?_ (fun _=>?_))
   | exact fluxionref01_Mul.mono _ _ _
   | exact fluxionref03_Make.mono _ _ _ _
   | exact LeO.none _
   | refine LeO.ite ?_ ?_
   | refine LeO.bind ?_ (fun _=>?_)
def fluxionref03_Mul.B1:List Nat:=[0,1,0,4,15,0,32,0,128,480,0,1024,0,4096,16352,32767,65535]
def fluxionref03_Div.f (k:Nat) (a0_0:Bool) (l0_1:List Int) (l0_2:List Int) (a1_0:Bool) (l1_1:List Int) (l1_2:List Int):Option (Bool×List Int×List Int×Bool):=(fluxionref03_Zero.f a1_0 l1_1 l1_2).bind fun t352=>(if t352=true then (some (false,([]:List Int),([]:List Int),false)) else ((fluxionref03_Mul.f k a0_0 l0_1 l0_2 a1_0 l1_2 l1_1).bind fun bt353=>(some (bt353.1,bt353.2.1,bt353.2.2,true))))
theorem fluxionref03_Div.mono:∀ a0 a1 a2 a3 a4 a5 k,LeO (fluxionref03_Div.f k a0 a1 a2 a3 a4 a5) (fluxionref03_Div.f (k+1) a0 a1 a2 a3 a4 a5):=by
 intro a0 a1 a2 a3 a4 a5 k
 unfold fluxionref03_Div.f
 repeat' first
   | (with_reducible exact fluxionref03_Mul.mono _ _ _ _ _ _ _)
   | (with_reducible exact LeO.refl _)
   | (with_reducible exact LeO.none _)
   | (with_reducible refine LeO.ite ?_ ?_)
   | (with_reducible refine LeO.bind ?_ (fun _=>?_))
   | exact fluxionref03_Mul.mono _ _ _ _ _ _ _
   | exact LeO.none _
   | refine LeO.ite ?_ ?_
   | refine LeO.bind ?_ (fun _=>?_)
def fluxionref03_Sign.f (a0_0:Bool) (l0_1:List Int) (l0_2:List Int):Option (Int):=(fluxionref03_Zero.f a0_0 l0_1 l0_2).bind fun t361=>(if t361=true then (some 0) else (if a0_0=true then (some (-1)) else (some 1)))
def fluxionref03_Bits.f (k:Nat) (a0_0:Bool) (l0_1:List Int) (l0_2:List Int):Option (Int):=(fluxionref01_Bits.f k l0_1).bind fun t363=>((fluxionref01_Bits.f k l0_2).bind fun t364=>(some (mx t363 t364)))
theorem fluxionref03_Bits.mono:∀ a0 a1 a2 k,LeO (fluxionref03_Bits.f k a0 a1 a2) (fluxionref03_Bits.f (k+1) a0 a1 a2):=by
 intro a0 a1 a2 k
 unfold fluxionref03_Bits.f
 repeat' first
   | (with_reducible exact fluxionref01_Bits.mono _ _)
   | (with_reducible exact LeO.refl _)
   | (with_reducible exact LeO.none _)
   | (with_reducible refine LeO.ite ?_ ?_)
   | (with_reducible refine LeO.bind ?_ (fun _=>?_))
   | exact fluxionref01_Bits.mono _ _
   | exact LeO.none _
   | refine LeO.ite ?_ ?_
   | refine LeO.bind ?_ (fun _=>?_)
def fluxionref03_Bits.B1:List Nat:=[0,1,3,0,8,31,63,127]
def fluxionlaw03_frac.f (k:Nat) (a0:Int) (a1:Int):Option (Bool×List Int×List Int):=(fluxionref03_Frac.f k a0 a1).bind fun bt366=>(some (bt366.1,bt366.2.1,bt366.2.2))
theorem fluxionlaw03_frac.mono:∀ a0 a1 k,LeO (fluxionlaw03_frac.f k a0 a1) (fluxionlaw03_frac.f (k+1) a0 a1):=by
 intro a0 a1 k
 unfold fluxionlaw03_frac.f
 repeat' first
   | (with_reducible exact fluxionref03_Frac.mono _ _ _)
   | (with_reducible exact LeO.refl _)
   | (with_reducible exact LeO.none _)
   | (with_reducible refine LeO.ite ?_ ?_)
   | (with_reducible refine LeO.bind ?_ (fun _=>?_))
   | exact fluxionref03_Frac.mono _ _ _
   | exact LeO.none _
   | refine LeO.ite ?_ ?_
   | refine LeO.bind ?_ (fun _=>?_)
set_option maxHeartbeats 8000000 in
set_option maxRecDepth 100000 in
theorem fluxionlaw03_frac.calls (k:Nat) (a0:Int) (a1:Int) (r1:Bool) (r2:List Int) (r3:List Int) (w:World) (h:fluxionlaw03_frac.f k a0 a1=some (r1,r2,r3)) :
  Calls Try.prog 58 #[.int .i64 a0,.int .i64 a1] w fun e w'=>∃ v1_ v2_:Value,e=.returned (.agg #[.bool r1,v1_,v2_])∧Kd.R (Kd.int .i64) 3 w' w.heap.size (fun k_=>some k_≠(v2_:Value).ownBlock) v1_ r2∧Kd.R (Kd.int .i64) 3 w' w.heap.size (fun k_=>some k_≠(v1_:Value).ownBlock) v2_ r3∧Below w.heap.size w w':=by
 have hu36:=Try.underlying36
 have HB:=Aside0.mk (Below.refl w.heap.size w)
 have H:((fluxionref03_Frac.f k a0 a1).bind fun bt366=>(some (bt366.1,bt366.2.1,bt366.2.2)))=some (r1,r2,r3):=h
 clear h
 replace H:=Option.bind_eq_some_iff.mp H
 obtain⟨⟨t366,t367,t370⟩,A30,H⟩:=H
 replace H:(some (t366,t367,t370))=some (r1,r2,r3):=H
 have A3:=Aside0.mk A30
 clear A30
 simp only [Option.some.injEq,Prod.mk.injEq] at H
 obtain⟨rfl,rfl,rfl⟩:=H
 go_enter Try.func58,Try.ntmps58
 go_wp2_with (first | ((with_reducible refine zav (N:=4) rfl ?_); refine zax ?hg (N:=4) ?hd (cs:=#[.bool false,.slice none 0 0,.slice none 0 0]) (t:=36) ?hr ?_; (case hd=>rfl); (case hg=>rfl); (case hr=>first | (go_simp; done) | (go_simp; rfl)); intro gb365 hg w4 hbox hb; have n0_:=Aside0.mk (zag (by repeat (first | (with_reducible first | exact HB.out | apply zab | apply zaa | apply zac) | exact HB.out)) hb); have n1_:=Aside0.mk (hbox); have n2_:=Aside0.mk ((by rw [hg]; exact(zaj (by repeat (first | (with_reducible first | exact HB.out | apply zab | apply zaa | apply zac) | exact HB.out))):w.heap.size≤gb365)); have n3_:=Aside0.mk ((by rw [hg]; exact(zaj (by repeat (first | (with_reducible first | exact HB.out | apply zab | apply zaa | apply zac) | exact HB.out))):w.heap.size≤gb365)); clear HB; have HB:=n0_; have BK365:=n1_; have GW365:=n2_; have GE365:=n3_; clear n0_ n1_ n2_ n3_; clear hb hbox hg) | ((with_reducible refine zap (f:=29) rfl ?_); refine zaC (some 7) rfl rfl Try.func29 (by kernel_rfl) rfl #[.int .i64 a0,.int .i64 a1] rfl (by (try simp only [List.map_toArray,List.map_cons,List.map_nil]); first | done | rfl | (simp only [List.length_drop,List.length_take]; rfl)) ?_; (with_reducible refine(fluxionref03_Frac.calls k a0 a1 t366 t367 t370 _ A3.out).mono ?_); rintro e w5 ⟨v368,v371,rfl,ho0,ho1,hb⟩; refine⟨_,rfl,?_⟩; have n0_:=Aside0.mk (Kd.R_lower ho0 (zaj (by repeat (first | (with_reducible first | exact HB.out | apply zab | apply zaa | apply zac | refine zad ?_ GE365.out) | exact HB.out)))); have n1_:=Aside0.mk (Kd.R_lower ho1 (zaj (by repeat (first | (with_reducible first | exact HB.out | apply zab | apply zaa | apply zac | refine zad ?_ GE365.out) | exact HB.out)))); have n2_:=Aside0.mk (zal (g:=gb365) (o:=.cells #[.bool false,.slice none 0 0,.slice none 0 0] 36 (0,0)) (by (with_reducible repeat (first | refine zaf ?_ _ | refine zah ?_ | refine zae ?_ _)); exact BK365.out) hb); have n3_:=Aside0.mk (zag (by repeat (first | (with_reducible first | exact HB.out | apply zab | apply zaa | apply zac | refine zad ?_ GE365.out) | exact HB.out)) hb); clear BK365; clear HB; have HO369:=n0_; have HO372:=n1_; have BK365:=n2_; have HB:=n3_; clear n0_ n1_ n2_ n3_; (try clear hb); (try clear hb2); (try clear hk); (try clear hi); (try clear ho0); (try clear ho1); have hcz6_0:w5.cell? ⟨gb365,0,none⟩=some (.bool false):=(zai BK365.out 0).trans rfl; have hcz6_1:w5.cell? ⟨gb365,1,none⟩=some (.slice none 0 0):=(zai BK365.out 1).trans rfl; have hcz6_2:w5.cell? ⟨gb365,2,none⟩=some (.slice none 0 0):=(zai BK365.out 2).trans rfl; have hfz6_0:=zak BK365.out 0; have hfz6_1:=zak BK365.out 1; have hfz6_2:=zak BK365.out 2; obtain⟨Ao7,co7,eo7⟩:=Kd.R_slice HO369.out; subst eo7; obtain⟨Ao8,co8,eo8⟩:=Kd.R_slice HO372.out; subst eo8))
 refine bodyPost_ret (results_cell_row rfl _ _ gb365 36 #[.bool t366,.slice Ao7 t367.length co7,.slice Ao8 t370.length co8] (0,0) _ rfl (by (with_reducible repeat (first | refine zaf ?_ _ | refine zah ?_ | refine zae ?_ _)); refine zau (cs:=#[.bool t366,.slice Ao7 t367.length co7,.slice none 0 0]) ?_ 2 _ rfl; (with_reducible repeat (first | refine zaf ?_ _ | refine zah ?_ | refine zae ?_ _)); refine zau (cs:=#[.bool t366,.slice none 0 0,.slice none 0 0]) ?_ 1 _ rfl; (with_reducible repeat (first | refine zaf ?_ _ | refine zah ?_ | refine zae ?_ _)); refine zau (cs:=#[.bool false,.slice none 0 0,.slice none 0 0]) ?_ 0 _ rfl; (with_reducible repeat (first | refine zaf ?_ _ | refine zah ?_ | refine zae ?_ _)); exact BK365.out) Try.underlying36 rfl (by kernel_rfl)) rfl ?_
 exact⟨_,_,by first | rfl | (simp [zan,zao]<;>rfl) | (simp [*,zan,zao]<;>rfl),by (with_reducible repeat (first | apply Kd.R_alloc | apply Kd.R_drewN | apply Kd.R_drew)); exact Kd.R_mono (Kd.R_far (p:=⟨gb365,2,none⟩) (Kd.R_far (p:=⟨gb365,1,none⟩) (Kd.R_far (p:=⟨gb365,0,none⟩) (Kd.R_types HO369.out BK365.out (by decide)) (fun _ hk=>hk.2) (.bool t366)) (fun _ hk=>hk.2) (.slice Ao7 t367.length co7)) (fun _ hk=>hk.2) (.slice Ao8 t370.length co8)) (fun _ hk=>hk.1),by (with_reducible repeat (first | apply Kd.R_alloc | apply Kd.R_drewN | apply Kd.R_drew)); exact Kd.R_mono (Kd.R_far (p:=⟨gb365,2,none⟩) (Kd.R_far (p:=⟨gb365,1,none⟩) (Kd.R_far (p:=⟨gb365,0,none⟩) (Kd.R_types HO372.out BK365.out (by decide)) (fun _ hk=>hk.2) (.bool t366)) (fun _ hk=>hk.2) (.slice Ao7 t367.length co7)) (fun _ hk=>hk.2) (.slice Ao8 t370.length co8)) (fun _ hk=>hk.1),by repeat (first | (with_reducible first | exact HB.out | apply zab | apply zaa | apply zac | refine zad ?_ GE365.out) | exact HB.out)⟩
end Go.Proofs.Ytehghijlchpeaaa.L
end
section
namespace Go.Proofs.Ytehghijlchpeaaa.L
open Go.RowKit Go.Proofs.YtehghijlchpeaaaW.PrintWords Go.Proofs.YtehghijlchpeaaaW.PrintLast Go.Proofs.YtehghijlchpeaaaW.PrintMore
attribute [local go_sem] zaX zaU zbc za9 zaN zaM zaW zaV   -- for this text's walks alone
set_option linter.unusedVariables false
set_option linter.unusedSimpArgs false
def fluxionlaw03_few.l0:Nat→List (List Int)→Int→Option (Bool)
 | 0,_,_=>none
 | k+1,x0,x3=>if x3 < (x0.length:Int) then (if 0≤x3 then (if ((rd_L2 x0 x3).length:Int) > 60 then (some false) else (fluxionlaw03_few.l0 k x0 (wrap64 (x3+1)))) else (none)) else (some true)
def fluxionlaw03_few.f (k:Nat) (l0:List (List Int)):Option (Bool):=fluxionlaw03_few.l0 k l0 0
theorem fluxionlaw03_few.mono_l:∀ k,(∀ y0 y1,LeO (fluxionlaw03_few.l0 k y0 y1) (fluxionlaw03_few.l0 (k+1) y0 y1))
 | 0=>fun _ _ r h=>by simp [fluxionlaw03_few.l0] at h
 | k+1=>by
  have ih0:=fluxionlaw03_few.mono_l k
  ·
   intro y0 y1
   unfold fluxionlaw03_few.l0
   repeat' first
   | (with_reducible exact ih0 _ _)
   | (with_reducible exact LeO.refl _)
   | (with_reducible exact LeO.none _)
   | (with_reducible refine LeO.ite ?_ ?_)
   | (with_reducible refine LeO.bind ?_ (fun _=>?_))
   | exact ih0 _ _
   | exact LeO.none _
   | refine LeO.ite ?_ ?_
   | refine LeO.bind ?_ (fun _=>?_)
theorem fluxionlaw03_few.mono:∀ a0 k,LeO (fluxionlaw03_few.f k a0) (fluxionlaw03_few.f (k+1) a0):=by
 intro a0 k
 have ih0:=fluxionlaw03_few.mono_l k
 unfold fluxionlaw03_few.f
 repeat' first
   | (with_reducible exact ih0 _ _)
   | (with_reducible exact LeO.refl _)
   | (with_reducible exact LeO.none _)
   | (with_reducible refine LeO.ite ?_ ?_)
   | (with_reducible refine LeO.bind ?_ (fun _=>?_))
   | exact ih0 _ _
   | exact LeO.none _
   | refine LeO.ite ?_ ?_
   | refine LeO.bind ?_ (fun _=>?_)
def fluxionlaw03_same.f (k:Nat) (a0_0:Bool) (l0_1:List Int) (l0_2:List Int) (a1_0:Bool) (l1_1:List Int) (l1_2:List Int):Option (Bool):=if (a0_0 == a1_0)=true then (if (l0_1.length:Int)=(l1_1.length:Int) then (if (l0_2.length:Int)=(l1_2.length:Int) then (if (l0_2.length:Int) > 0 then ((fluxionref01_Equal.f k l0_1 l1_1).bind fun t376=>(if t376=true then ((fluxionref01_Equal.f k l0_2 l1_2).bind fun t377=>(some t377)) else (some false))) else (some false)) else (some false)) else (some false)) else (some false)
theorem fluxionlaw03_same.mono:∀ a0 a1 a2 a3 a4 a5 k,LeO (fluxionlaw03_same.f k a0 a1 a2 a3 a4 a5) (fluxionlaw03_same.f (k+1) a0 a1 a2 a3 a4 a5):=by
 intro a0 a1 a2 a3 a4 a5 k
 unfold fluxionlaw03_same.f
 repeat' first
   | (with_reducible exact fluxionref01_Equal.mono _ _ _)
   | (with_reducible exact LeO.refl _)
   | (with_reducible exact LeO.none _)
   | (with_reducible refine LeO.ite ?_ ?_)
   | (with_reducible refine LeO.bind ?_ (fun _=>?_))
   | exact fluxionref01_Equal.mono _ _ _
   | exact LeO.none _
   | refine LeO.ite ?_ ?_
   | refine LeO.bind ?_ (fun _=>?_)
end Go.Proofs.Ytehghijlchpeaaa.L
end
