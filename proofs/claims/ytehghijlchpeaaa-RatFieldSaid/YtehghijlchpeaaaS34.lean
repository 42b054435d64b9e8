/- Part 5 of the proof of ratField_holds: what it uses, in build order. -/
import Derived.Test.YtehghijlchpeaaaS33
import Derived.ArgAppend
import Derived.Below
import Derived.BigQuiet
import Derived.Deep.AppendLies
import Derived.Deep.CutBlock
import Derived.Deep.DeepCutAuto
import Derived.Deep.Draws
import Derived.Deep.LoopGhost
import Derived.Deep.OwnRows
import Derived.Deep.QuietTactic
import Derived.Deep.RegionHeld3
import Derived.KernelRfl
import Derived.Laws.BitsLemmas
import Derived.Laws.BytesArg
import Derived.Laws.IdiomCopy
import Derived.Laws.MakeOwn
import Derived.Laws.OwnMore
import Derived.Laws.Rows
import Derived.Laws.Slices
import Derived.Lib.AppendStr
import Derived.Lib.ConvBytes
import Derived.Lib.ItoaNum
import Derived.Maps.AppendAt
import Derived.OrdersHeld
import Derived.OwnWalk
import Derived.RowKit
import Derived.RowKit3
import Derived.Shelf.Small.Bits
import Derived.Tactics
import Derived.Test.YtehghijlchpeaaaProg
import Derived.WalkKit
import Derived.WalkMore
import Derived.WideLaws
section
noncomputable section
namespace Go.Proofs.Ytehghijlchpeaaa.J
open Go.RowKit Ytehghijlchpeaaa.H Ytehghijlchpeaaa.L Ytehghijlchpeaaa.Nat1 Go.Proofs.YtehghijlchpeaaaW.PrintWords Go.Proofs.YtehghijlchpeaaaW.PrintLast Go.Proofs.YtehghijlchpeaaaW.PrintMore
set_option linter.unusedVariables false
set_option linter.unusedSimpArgs false
theorem at_L2 {w:World} {A:Option Addr} {n:Nat} {xs:List (List Int)} (h:Kd.C (Kd.slice 63 (Kd.int .u32)) w A n xs) (i:Int) (h0:0≤i) (h1:i < n):∃ ad A0 c0,A=some ad∧w.cell? (ad.add i.toNat)=some (.slice A0 (rd_L2 xs i).length c0)∧(rd_L2 xs i).length≤c0∧(Kd.int .u32).C w A0 (rd_L2 xs i).length (rd_L2 xs i):=by
 obtain⟨ad,c,e,_,hK,hc0⟩:=Kd.C_get h ([]:List Int) i h0 h1
 have hc:∀ j u,c[j]? = some u→w.cell? (ad.add (i.toNat*1+j))=some u:=hc0
 obtain⟨A0,c0,rfl,l0,g0⟩:=hK
 exact⟨ad,A0,c0,e,by have hq:=hc 0 _ rfl; rwa [Nat.mul_one,Nat.add_zero] at hq,l0,g0⟩
end Go.Proofs.Ytehghijlchpeaaa.J
end
end
section
namespace Go.Proofs.Ytehghijlchpeaaa.Nt
set_option linter.unusedVariables false
set_option linter.unusedSimpArgs false
set_option linter.unusedSectionVars false
def sgnQ (x:QN):Int:=if x.2.1=0 then 0 else if x.1 then -1 else 1
end Go.Proofs.Ytehghijlchpeaaa.Nt
end
section
noncomputable section
namespace Go.Proofs.Ytehghijlchpeaaa.J
open Go.RowKit Ytehghijlchpeaaa.H Ytehghijlchpeaaa.L Ytehghijlchpeaaa.Nat1 Go.Proofs.YtehghijlchpeaaaW.PrintWords Go.Proofs.YtehghijlchpeaaaW.PrintLast Go.Proofs.YtehghijlchpeaaaW.PrintMore
set_option linter.unusedVariables false
set_option linter.unusedSimpArgs false
set_option maxHeartbeats 8000000 in
set_option maxRecDepth 100000 in
theorem rat_Sign.calls (a0_0:Bool) (A0_1:Option Addr) (c0_1:Nat) (l0_1:List Int) (A0_2:Option Addr) (c0_2:Nat) (l0_2:List Int) (r:Int) (w:World) (hr0_1:Kd.C (Kd.int .u32) w A0_1 l0_1.length l0_1) (hc0_1:l0_1.length≤c0_1) (hr0_2:Kd.C (Kd.int .u32) w A0_2 l0_2.length l0_2) (hc0_2:l0_2.length≤c0_2) (h:rat_Sign.f a0_0 l0_1 l0_2=some r) :
  Calls Try.prog 41 #[.agg #[.bool a0_0,.slice A0_1 l0_1.length c0_1,.slice A0_2 l0_2.length c0_2]] w fun e w'=>e=.returned (.int .i64 r)∧Below w.heap.size w w':=by
 have hu25:=Try.underlying25
 have HR0_1:=Aside0.mk hr0_1
 have HC0_1:=Aside0.mk hc0_1
 clear hr0_1 hc0_1
 have HR0_2:=Aside0.mk hr0_2
 have HC0_2:=Aside0.mk hc0_2
 clear hr0_2 hc0_2
 have HB:=Aside0.mk (Below.refl w.heap.size w)
 have H:((rat_Norm.f a0_0 l0_1 l0_2).bind fun bt243=>(if (bt243.2.1.length:Int)=0 then (some 0) else (if bt243.1=true then (some (-1)) else (some 1))))=some r:=h
 clear h
 replace H:=Option.bind_eq_some_iff.mp H
 obtain⟨⟨t243,t244,t247⟩,A20,H⟩:=H
 replace H:(if (t244.length:Int)=0 then (some 0) else (if t243=true then (some (-1)) else (some 1)))=some r:=H
 have A2:=Aside0.mk A20
 clear A20
 by_cases c3:(t244.length:Int)=0
 ·
  rw [if_pos c3] at H
  have c3b0:((t244.length:Int) == 0)=true:=beq_iff_eq.mpr c3
  have c3b1:((t244.length:Int) != 0)=false:=bne_eq_false_iff_eq.mpr c3
  clear c3
  obtain rfl:=Option.some.inj H
  go_enter Try.func41,Try.ntmps41
  go_wp2_with (first | ((with_reducible refine zav (N:=1) rfl ?_); refine zax ?hg (N:=1) ?hd (cs:=#[.bool a0_0,.slice A0_1 l0_1.length c0_1,.slice A0_2 l0_2.length c0_2]) (t:=25) ?hr ?_; (case hd=>rfl); (case hg=>rfl); (case hr=>first | (go_simp; done) | (go_simp; rfl)); intro gb242 hg w4 hbox hb; have n0_:=Aside0.mk (zag (by repeat (first | (with_reducible first | exact HB.out | apply zab | apply zaa | apply zac) | exact HB.out)) hb); have n1_:=Aside0.mk (hbox); have n2_:=Aside0.mk ((by rw [hg]; exact(zaj (by repeat (first | (with_reducible first | exact HB.out | apply zab | apply zaa | apply zac) | exact HB.out))):w.heap.size≤gb242)); have n3_:=Aside0.mk ((by rw [hg]; exact(zaj (by repeat (first | (with_reducible first | exact HB.out | apply zab | apply zaa | apply zac) | exact HB.out))):w.heap.size≤gb242)); clear HB; have HB:=n0_; have BK242:=n1_; have GW242:=n2_; have GE242:=n3_; clear n0_ n1_ n2_ n3_; clear hb hbox hg; have hcz5_0:w4.cell? ⟨gb242,0,none⟩=some (.bool a0_0):=(zai BK242.out 0).trans rfl; have hcz5_1:w4.cell? ⟨gb242,1,none⟩=some (.slice A0_1 l0_1.length c0_1):=(zai BK242.out 1).trans rfl; have hcz5_2:w4.cell? ⟨gb242,2,none⟩=some (.slice A0_2 l0_2.length c0_2):=(zai BK242.out 2).trans rfl; have hfz5_0:=zak BK242.out 0; have hfz5_1:=zak BK242.out 1; have hfz5_2:=zak BK242.out 2) | ((with_reducible refine zap (f:=16) rfl ?_); refine zaC (some 4) rfl rfl Try.func16 (by kernel_rfl) rfl #[.agg #[.bool a0_0,.slice A0_1 l0_1.length c0_1,.slice A0_2 l0_2.length c0_2]] rfl (by (try simp only [List.map_toArray,List.map_cons,List.map_nil]); first | done | rfl | (simp only [List.length_drop,List.length_take]; rfl)) ?_; (with_reducible refine(rat_Norm.calls a0_0 _ _ l0_1 _ _ l0_2 t243 t244 t247 _ ?side1 ?side2 ?side3 ?side4 A2.out).mono ?_); (case side1=>repeat (first | exact(Kd.C_below HR0_1.out HB.out) | (with_reducible refine Kd.C_alloc ?_ _) | (with_reducible refine Kd.C_drewN ?_ _) | (with_reducible refine Kd.C_drew ?_))); (case side2=>exact HC0_1.out); (case side3=>repeat (first | exact(Kd.C_below HR0_2.out HB.out) | (with_reducible refine Kd.C_alloc ?_ _) | (with_reducible refine Kd.C_drewN ?_ _) | (with_reducible refine Kd.C_drew ?_))); (case side4=>exact HC0_2.out); rintro e w6 ⟨v245,v248,rfl,ho0,ho1,hb⟩; refine⟨_,rfl,?_⟩; have n0_:=Aside0.mk (Kd.R_lower ho0 (zaj (by repeat (first | (with_reducible first | exact HB.out | apply zab | apply zaa | apply zac | refine zad ?_ GE242.out) | exact HB.out)))); have n1_:=Aside0.mk (Kd.R_lower ho1 (zaj (by repeat (first | (with_reducible first | exact HB.out | apply zab | apply zaa | apply zac | refine zad ?_ GE242.out) | exact HB.out)))); have n2_:=Aside0.mk (zal (g:=gb242) (o:=.cells #[.bool a0_0,.slice A0_1 l0_1.length c0_1,.slice A0_2 l0_2.length c0_2] 25 (0,0)) (by (with_reducible repeat (first | refine zaf ?_ _ | refine zah ?_ | refine zae ?_ _)); exact BK242.out) hb); have n3_:=Aside0.mk (zag (by repeat (first | (with_reducible first | exact HB.out | apply zab | apply zaa | apply zac | refine zad ?_ GE242.out) | exact HB.out)) hb); clear BK242; clear HB; have HO246:=n0_; have HO249:=n1_; have BK242:=n2_; have HB:=n3_; clear n0_ n1_ n2_ n3_; (try clear hb); (try clear hb2); (try clear hk); (try clear hi); (try clear ho0); (try clear ho1); have hcz7_0:w6.cell? ⟨gb242,0,none⟩=some (.bool a0_0):=(zai BK242.out 0).trans rfl; have hcz7_1:w6.cell? ⟨gb242,1,none⟩=some (.slice A0_1 l0_1.length c0_1):=(zai BK242.out 1).trans rfl; have hcz7_2:w6.cell? ⟨gb242,2,none⟩=some (.slice A0_2 l0_2.length c0_2):=(zai BK242.out 2).trans rfl; have hfz7_0:=zak BK242.out 0; have hfz7_1:=zak BK242.out 1; have hfz7_2:=zak BK242.out 2; obtain⟨Ao8,co8,eo8⟩:=Kd.R_slice HO246.out; subst eo8; obtain⟨Ao9,co9,eo9⟩:=Kd.R_slice HO249.out; subst eo9))
  go_ret
  exact⟨by first | rfl | (simp [zan,zao]<;>rfl) | (simp [*,zan,zao]<;>rfl),by repeat (first | (with_reducible first | exact HB.out | apply zab | apply zaa | apply zac | refine zad ?_ GE242.out) | exact HB.out)⟩
 ·
  rw [if_neg c3] at H
  have c3b0:((t244.length:Int) == 0)=false:=beq_eq_false_iff_ne.mpr c3
  have c3b1:((t244.length:Int) != 0)=true:=bne_iff_ne.mpr c3
  have c3b2:¬ (t244=[]):=fun h_=>c3 (by rw [h_]; rfl)
  by_cases c10:t243=true
  ·
   subst c10
   have H1:(some (-1))=some r:=by rw [if_pos rfl] at H; exact H
   clear H
   have H:=H1
   clear H1
   obtain rfl:=Option.some.inj H
   go_enter Try.func41,Try.ntmps41
   go_wp2_with (first | ((with_reducible refine zav (N:=1) rfl ?_); refine zax ?hg (N:=1) ?hd (cs:=#[.bool a0_0,.slice A0_1 l0_1.length c0_1,.slice A0_2 l0_2.length c0_2]) (t:=25) ?hr ?_; (case hd=>rfl); (case hg=>rfl); (case hr=>first | (go_simp; done) | (go_simp; rfl)); intro gb242 hg w11 hbox hb; have n0_:=Aside0.mk (zag (by repeat (first | (with_reducible first | exact HB.out | apply zab | apply zaa | apply zac) | exact HB.out)) hb); have n1_:=Aside0.mk (hbox); have n2_:=Aside0.mk ((by rw [hg]; exact(zaj (by repeat (first | (with_reducible first | exact HB.out | apply zab | apply zaa | apply zac) | exact HB.out))):w.heap.size≤gb242)); have n3_:=Aside0.mk ((by rw [hg]; exact(zaj (by repeat (first | (with_reducible first | exact HB.out | apply zab | apply zaa | apply zac) | exact HB.out))):w.heap.size≤gb242)); clear HB; have HB:=n0_; have BK242:=n1_; have GW242:=n2_; have GE242:=n3_; clear n0_ n1_ n2_ n3_; clear hb hbox hg; have hcz12_0:w11.cell? ⟨gb242,0,none⟩=some (.bool a0_0):=(zai BK242.out 0).trans rfl; have hcz12_1:w11.cell? ⟨gb242,1,none⟩=some (.slice A0_1 l0_1.length c0_1):=(zai BK242.out 1).trans rfl; have hcz12_2:w11.cell? ⟨gb242,2,none⟩=some (.slice A0_2 l0_2.length c0_2):=(zai BK242.out 2).trans rfl; have hfz12_0:=zak BK242.out 0; have hfz12_1:=zak BK242.out 1; have hfz12_2:=zak BK242.out 2) | ((with_reducible refine zap (f:=16) rfl ?_); refine zaC (some 4) rfl rfl Try.func16 (by kernel_rfl) rfl #[.agg #[.bool a0_0,.slice A0_1 l0_1.length c0_1,.slice A0_2 l0_2.length c0_2]] rfl (by (try simp only [List.map_toArray,List.map_cons,List.map_nil]); first | done | rfl | (simp only [List.length_drop,List.length_take]; rfl)) ?_; (with_reducible refine(rat_Norm.calls a0_0 _ _ l0_1 _ _ l0_2 true t244 t247 _ ?side1 ?side2 ?side3 ?side4 A2.out).mono ?_); (case side1=>repeat (first | exact(Kd.C_below HR0_1.out HB.out) | (with_reducible refine Kd.C_alloc ?_ _) | (with_reducible refine Kd.C_drewN ?_ _) | (with_reducible refine Kd.C_drew ?_))); (case side2=>exact HC0_1.out); (case side3=>repeat (first | exact(Kd.C_below HR0_2.out HB.out) | (with_reducible refine Kd.C_alloc ?_ _) | (with_reducible refine Kd.C_drewN ?_ _) | (with_reducible refine Kd.C_drew ?_))); (case side4=>exact HC0_2.out); rintro e w13 ⟨v245,v248,rfl,ho0,ho1,hb⟩; refine⟨_,rfl,?_⟩; have n0_:=Aside0.mk (Kd.R_lower ho0 (zaj (by repeat (first | (with_reducible first | exact HB.out | apply zab | apply zaa | apply zac | refine zad ?_ GE242.out) | exact HB.out)))); have n1_:=Aside0.mk (Kd.R_lower ho1 (zaj (by repeat (first | (with_reducible first | exact HB.out | apply zab | apply zaa | apply zac | refine zad ?_ GE242.out) | exact HB.out)))); have n2_:=Aside0.mk (zal (g:=gb242) (o:=.cells #[.bool a0_0,.slice A0_1 l0_1.length c0_1,.slice A0_2 l0_2.length c0_2] 25 (0,0)) (by (with_reducible repeat (first | refine zaf ?_ _ | refine zah ?_ | refine zae ?_ _)); exact BK242.out) hb); have n3_:=Aside0.mk (zag (by repeat (first | (with_reducible first | exact HB.out | apply zab | apply zaa | apply zac | refine zad ?_ GE242.out) | exact HB.out)) hb); clear BK242; clear HB; have HO246:=n0_; have HO249:=n1_; have BK242:=n2_; have HB:=n3_; clear n0_ n1_ n2_ n3_; (try clear hb); (try clear hb2); (try clear hk); (try clear hi); (try clear ho0); (try clear ho1); have hcz14_0:w13.cell? ⟨gb242,0,none⟩=some (.bool a0_0):=(zai BK242.out 0).trans rfl; have hcz14_1:w13.cell? ⟨gb242,1,none⟩=some (.slice A0_1 l0_1.length c0_1):=(zai BK242.out 1).trans rfl; have hcz14_2:w13.cell? ⟨gb242,2,none⟩=some (.slice A0_2 l0_2.length c0_2):=(zai BK242.out 2).trans rfl; have hfz14_0:=zak BK242.out 0; have hfz14_1:=zak BK242.out 1; have hfz14_2:=zak BK242.out 2; obtain⟨Ao15,co15,eo15⟩:=Kd.R_slice HO246.out; subst eo15; obtain⟨Ao16,co16,eo16⟩:=Kd.R_slice HO249.out; subst eo16))
   go_ret
   exact⟨by first | rfl | (simp [zan,zao]<;>rfl) | (simp [*,zan,zao]<;>rfl),by repeat (first | (with_reducible first | exact HB.out | apply zab | apply zaa | apply zac | refine zad ?_ GE242.out) | exact HB.out)⟩
  ·
   replace c10:=Bool.eq_false_iff.mpr c10
   subst c10
   have H1:(some 1)=some r:=by rw [if_neg (show ¬ (false=true) by decide)] at H; exact H
   clear H
   have H:=H1
   clear H1
   obtain rfl:=Option.some.inj H
   go_enter Try.func41,Try.ntmps41
   go_wp2_with (first | ((with_reducible refine zav (N:=1) rfl ?_); refine zax ?hg (N:=1) ?hd (cs:=#[.bool a0_0,.slice A0_1 l0_1.length c0_1,.slice A0_2 l0_2.length c0_2]) (t:=25) ?hr ?_; (case hd=>rfl); (case hg=>rfl); (case hr=>first | (go_simp; done) | (go_simp; rfl)); intro gb242 hg w17 hbox hb; have n0_:=Aside0.mk (zag (by repeat (first | (with_reducible first | exact HB.out | apply zab | apply zaa | apply zac) | exact HB.out)) hb); have n1_:=Aside0.mk (hbox); have n2_:=Aside0.mk ((by rw [hg]; exact(zaj (by repeat (first | (with_reducible first | exact HB.out | apply zab | apply zaa | apply zac) | exact HB.out))):w.heap.size≤gb242)); have n3_:=Aside0.mk ((by rw [hg]; exact(zaj (by repeat (first | (with_reducible first | exact HB.out | apply zab | apply zaa | apply zac) | exact HB.out))):w.heap.size≤gb242)); clear HB; have HB:=n0_; have BK242:=n1_; have GW242:=n2_; have GE242:=n3_; clear n0_ n1_ n2_ n3_; clear hb hbox hg; have hcz18_0:w17.cell? ⟨gb242,0,none⟩=some (.bool a0_0):=(zai BK242.out 0).trans rfl; have hcz18_1:w17.cell? ⟨gb242,1,none⟩=some (.slice A0_1 l0_1.length c0_1):=(zai BK242.out 1).trans rfl; have hcz18_2:w17.cell? ⟨gb242,2,none⟩=some (.slice A0_2 l0_2.length c0_2):=(zai BK242.out 2).trans rfl; have hfz18_0:=zak BK242.out 0; have hfz18_1:=zak BK242.out 1; have hfz18_2:=zak BK242.out 2) | ((with_reducible refine zap (f:=16) rfl ?_); refine zaC (some 4) rfl rfl Try.func16 (by kernel_rfl) rfl #[.agg #[.bool a0_0,.slice A0_1 l0_1.length c0_1,.slice A0_2 l0_2.length c0_2]] rfl (by (try simp only [List.map_toArray,List.map_cons,List.map_nil]); first | done | rfl | (simp only [List.length_drop,List.length_take]; rfl)) ?_; (with_reducible refine(rat_Norm.calls a0_0 _ _ l0_1 _ _ l0_2 false t244 t247 _ ?side1 ?side2 ?side3 ?side4 A2.out).mono ?_); (case side1=>repeat (first | exact(Kd.C_below HR0_1.out HB.out) | (with_reducible refine Kd.C_alloc ?_ _) | (with_reducible refine Kd.C_drewN ?_ _) | (with_reducible refine Kd.C_drew ?_))); (case side2=>exact HC0_1.out); (case side3=>repeat (first | exact(Kd.C_below HR0_2.out HB.out) | (with_reducible refine Kd.C_alloc ?_ _) | (with_reducible refine Kd.C_drewN ?_ _) | (with_reducible refine Kd.C_drew ?_))); (case side4=>exact HC0_2.out); rintro e w19 ⟨v245,v248,rfl,ho0,ho1,hb⟩; refine⟨_,rfl,?_⟩; have n0_:=Aside0.mk (Kd.R_lower ho0 (zaj (by repeat (first | (with_reducible first | exact HB.out | apply zab | apply zaa | apply zac | refine zad ?_ GE242.out) | exact HB.out)))); have n1_:=Aside0.mk (Kd.R_lower ho1 (zaj (by repeat (first | (with_reducible first | exact HB.out | apply zab | apply zaa | apply zac | refine zad ?_ GE242.out) | exact HB.out)))); have n2_:=Aside0.mk (zal (g:=gb242) (o:=.cells #[.bool a0_0,.slice A0_1 l0_1.length c0_1,.slice A0_2 l0_2.length c0_2] 25 (0,0)) (by (with_reducible repeat (first | refine zaf ?_ _ | refine zah ?_ | refine zae ?_ _)); exact BK242.out) hb); have n3_:=Aside0.mk (zag (by repeat (first | (with_reducible first | exact HB.out | apply zab | apply zaa | apply zac | refine zad ?_ GE242.out) | exact HB.out)) hb); clear BK242; clear HB; have HO246:=n0_; have HO249:=n1_; have BK242:=n2_; have HB:=n3_; clear n0_ n1_ n2_ n3_; (try clear hb); (try clear hb2); (try clear hk); (try clear hi); (try clear ho0); (try clear ho1); have hcz20_0:w19.cell? ⟨gb242,0,none⟩=some (.bool a0_0):=(zai BK242.out 0).trans rfl; have hcz20_1:w19.cell? ⟨gb242,1,none⟩=some (.slice A0_1 l0_1.length c0_1):=(zai BK242.out 1).trans rfl; have hcz20_2:w19.cell? ⟨gb242,2,none⟩=some (.slice A0_2 l0_2.length c0_2):=(zai BK242.out 2).trans rfl; have hfz20_0:=zak BK242.out 0; have hfz20_1:=zak BK242.out 1; have hfz20_2:=zak BK242.out 2; obtain⟨Ao21,co21,eo21⟩:=Kd.R_slice HO246.out; subst eo21; obtain⟨Ao22,co22,eo22⟩:=Kd.R_slice HO249.out; subst eo22))
   go_ret
   exact⟨by first | rfl | (simp [zan,zao]<;>rfl) | (simp [*,zan,zao]<;>rfl),by repeat (first | (with_reducible first | exact HB.out | apply zab | apply zaa | apply zac | refine zad ?_ GE242.out) | exact HB.out)⟩
end Go.Proofs.Ytehghijlchpeaaa.J
end
end
