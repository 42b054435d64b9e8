/- Part 3 of the proof of ratField_holds: what it uses, in build order. -/
import Derived.Test.YtehghijlchpeaaaS31
import Derived.ArgAppend
import Derived.Below
import Derived.BigQuiet
import Derived.Deep.AppendLies
import Derived.Deep.CutBlock
import Derived.Deep.DeepCutAuto
import Derived.Deep.Draws
import Derived.Deep.LoopGhost
import Derived.Deep.OwnRows
import Derived.Deep.QuietTactic
import Derived.Deep.RegionHeld3
import Derived.KernelRfl
import Derived.Laws.BitsLemmas
import Derived.Laws.BytesArg
import Derived.Laws.IdiomCopy
import Derived.Laws.MakeOwn
import Derived.Laws.OwnMore
import Derived.Laws.Rows
import Derived.Laws.Slices
import Derived.Laws.StructEq
import Derived.Lib.AppendStr
import Derived.Lib.ConvBytes
import Derived.Maps.AppendAt
import Derived.OrdersHeld
import Derived.OwnWalk
import Derived.RowKit
import Derived.RowKit3
import Derived.Tactics
import Derived.Test.YtehghijlchpeaaaProg
import Derived.WalkKit
import Derived.WideLaws
section
namespace Go.Proofs.Ytehghijlchpeaaa.L
open Go.RowKit Go.Proofs.YtehghijlchpeaaaW.PrintWords Go.Proofs.YtehghijlchpeaaaW.PrintLast Go.Proofs.YtehghijlchpeaaaW.PrintMore
set_option linter.unusedVariables false
set_option linter.unusedSimpArgs false
theorem at_L2 {w:World} {A:Option Addr} {n:Nat} {xs:List (List Int)} (h:Kd.C (Kd.slice 63 (Kd.int .u32)) w A n xs) (i:Int) (h0:0≤i) (h1:i < n):∃ ad A0 c0,A=some ad∧w.cell? (ad.add i.toNat)=some (.slice A0 (rd_L2 xs i).length c0)∧(rd_L2 xs i).length≤c0∧(Kd.int .u32).C w A0 (rd_L2 xs i).length (rd_L2 xs i):=by
 obtain⟨ad,c,e,_,hK,hc0⟩:=Kd.C_get h ([]:List Int) i h0 h1
 have hc:∀ j u,c[j]? = some u→w.cell? (ad.add (i.toNat*1+j))=some u:=hc0
 obtain⟨A0,c0,rfl,l0,g0⟩:=hK
 exact⟨ad,A0,c0,e,by have hq:=hc 0 _ rfl; rwa [Nat.mul_one,Nat.add_zero] at hq,l0,g0⟩
end Go.Proofs.Ytehghijlchpeaaa.L
end
section
namespace Go.Proofs.Ytehghijlchpeaaa.L
open Go.RowKit Go.Proofs.YtehghijlchpeaaaW.PrintWords Go.Proofs.YtehghijlchpeaaaW.PrintLast Go.Proofs.YtehghijlchpeaaaW.PrintMore
set_option linter.unusedVariables false
set_option linter.unusedSimpArgs false
set_option maxHeartbeats 8000000 in
set_option maxRecDepth 100000 in
theorem fluxionref01_Equal.calls (k:Nat) (A0:Option Addr) (c0:Nat) (l0:List Int) (A1:Option Addr) (c1:Nat) (l1:List Int) (r:Bool) (w:World) (hr0:Kd.C (Kd.int .u32) w A0 l0.length l0) (hc0:l0.length≤c0) (hr1:Kd.C (Kd.int .u32) w A1 l1.length l1) (hc1:l1.length≤c1) (h:fluxionref01_Equal.f k l0 l1=some r) :
  Calls Try.prog 49 #[.slice A0 l0.length c0,.slice A1 l1.length c1] w fun e w'=>e=.returned (.bool r)∧Drawn0 w w':=by
 have HR0:=Aside0.mk hr0
 have HC0:=Aside0.mk hc0
 clear hr0 hc0
 have HR1:=Aside0.mk hr1
 have HC1:=Aside0.mk hc1
 clear hr1 hc1
 have H:(fluxionref01_Equal.l0 k l0 l1 0)=some r:=h
 clear h
 have H':=Aside0.mk H
 clear H
 go_enter Try.func49,Try.ntmps49
 go_wp2
 go_loopg [5] k (fun kq v5 w'=>∃ (x5_1:Int),v5=.int .i64 x5_1∧Aside0 (fluxionref01_Equal.l0 kq l0 l1 x5_1=some r)∧Aside0 (kq≤k)∧Drawn0 w w')
 case atStart=>exact⟨(0),(by first | rfl | (simp; done) | (simp [*]; done)),H',⟨Nat.le_refl _⟩,by repeat (first | exact Drawn0.refl _ | apply Drawn0.step)⟩
 case round =>
  clear H'
  try clear c1
  try clear p2
  obtain⟨x5_1,rfl,HA,HK1,⟨m1,rfl⟩⟩:=hrel
  cases gk with
  | zero=>exact absurd HA.out (by simp [fluxionref01_Equal.l0])
  | succ k1 =>
   have H:=HA.out
   clear HA
   simp only [fluxionref01_Equal.l0] at H
   have HC3:=Aside0.mk H
   clear H
   go_upto_region 2 with (fail)
   go_cut [17] (fun v17 wc=>∃ (kq:Nat) (x17_2:Bool),v17=.bool x17_2∧Aside0 (fluxionref01_Equal.j1 kq l0 l1 x5_1 x17_2=some r)∧Aside0 (kq≤k1)∧Drawn0 w wc)
   case first =>
    have H:=HC3.out
    clear HC3
    by_cases c4:x5_1 < (l0.length:Int)
    ·
     rw [if_pos c4] at H
     have c4b0:decide (x5_1 < (l0.length:Int))=true:=decide_eq_true c4
     clear c4
     (first | rw [c4b0] | (simp only [zaq,zar]; rw [c4b0]) | skip)
     have H':=Aside0.mk H
     clear H
     go_wp2
     go_meet
     case rel=>exact⟨_,(true),(by first | rfl | (simp; done) | (simp [*]; done)),H',⟨by have:=HK1.out; first | omega | exact Nat.le_refl _⟩,by repeat (first | exact Drawn0.refl _ | apply Drawn0.step)⟩
    ·
     rw [if_neg c4] at H
     have c4b0:decide (x5_1 < (l0.length:Int))=false:=decide_eq_false c4
     clear c4
     (first | rw [c4b0] | (simp only [zaq,zar]; rw [c4b0]) | skip)
     have H':=Aside0.mk H
     clear H
     go_wp2
     go_meet
     case rel=>exact⟨_,(decide (x5_1 < (l1.length:Int))),(by first | rfl | (simp; done) | (simp [*]; done)),H',⟨by have:=HK1.out; first | omega | exact Nat.le_refl _⟩,by repeat (first | exact Drawn0.refl _ | apply Drawn0.step)⟩
   case rest =>
    clear HC3
    try clear c1
    try clear p2
    try clear c4
    try clear c4b0
    try clear p2
    obtain⟨kq,x17_2,rfl,HA,HJ2,⟨mc2,rfl⟩⟩:=hcut
    cases kq with
    | zero=>exact absurd HA.out (by simp [fluxionref01_Equal.j1])
    | succ kj2 =>
     have H:=HA.out
     clear HA
     simp only [fluxionref01_Equal.j1] at H
     by_cases c5:x17_2=true
     ·
      subst c5
      have H1:(if x5_1 < (l0.length:Int) then (if 0≤x5_1 then (fluxionref01_Equal.j2 kj2 l0 l1 x5_1 (rd l0 x5_1) 0) else (none)) else (fluxionref01_Equal.j2 kj2 l0 l1 x5_1 0 0))=some r:=by rw [if_pos rfl] at H; exact H
      clear H
      have H:=H1
      clear H1
      have HC6:=Aside0.mk H
      clear H
      go_upto_if 23 with (fail)
      go_cut [6] (fun v6 wc=>∃ (kq:Nat) (x6_5:Int),v6=.int .u32 x6_5∧Aside0 (fluxionref01_Equal.j2 kq l0 l1 x5_1 x6_5 0=some r)∧Aside0 (kq≤kj2)∧Drawn0 w wc)
      case first =>
       have H:=HC6.out
       clear HC6
       by_cases c7:x5_1 < (l0.length:Int)
       ·
        rw [if_pos c7] at H
        have c7b0:decide (x5_1 < (l0.length:Int))=true:=decide_eq_true c7
        clear c7
        (first | rw [c7b0] | (simp only [zaq,zar]; rw [c7b0]) | skip)
        by_cases c8:0≤x5_1
        ·
         rw [if_pos c8] at H
         have c8b0:decide (0≤x5_1)=true:=decide_eq_true c8
         clear c8
         have H':=Aside0.mk H
         clear H
         have p153:0≤(x5_1:Int):=of_decide_eq_true (by first | (with_reducible assumption) | assumption)
         have q153:x5_1 < (l0.length:Int):=of_decide_eq_true (by first | (with_reducible assumption) | assumption)
         obtain⟨ad153,e153,hx153_0⟩:=Kd.at_int HR0.out x5_1 p153 q153
         cases e153
         replace p153:=eq_true p153
         replace q153:=eq_true q153
         go_wp2
         go_meet
         case rel=>exact⟨_,(rd l0 x5_1),(by first | rfl | (simp; done) | (simp [*]; done)),H',⟨by have:=HK1.out; have:=HJ2.out; first | omega | exact Nat.le_refl _⟩,by repeat (first | exact Drawn0.refl _ | apply Drawn0.step)⟩
        ·
         rw [if_neg c8] at H
         exact absurd H (by simp)
       ·
        rw [if_neg c7] at H
        have c7b0:decide (x5_1 < (l0.length:Int))=false:=decide_eq_false c7
        clear c7
        (first | rw [c7b0] | (simp only [zaq,zar]; rw [c7b0]) | skip)
        have H':=Aside0.mk H
        clear H
        go_wp2
        go_meet
        case rel=>exact⟨_,(0),(by first | rfl | (simp; done) | (simp [*]; done)),H',⟨by have:=HK1.out; have:=HJ2.out; first | omega | exact Nat.le_refl _⟩,by repeat (first | exact Drawn0.refl _ | apply Drawn0.step)⟩
      case rest =>
       clear HC6
       try clear c1
       try clear p1
       try clear q1
       try clear hx1
       try clear c2
       try clear p2
       try clear c4
       try clear c4b0
       try clear c5
       try clear c7
       try clear c7b0
       try clear c8
       try clear c8b0
       try clear hx153_0
       try clear p153
       try clear p2
       try clear q153
       obtain⟨kq,x6_5,rfl,HA,HJ5,⟨mc5,rfl⟩⟩:=hcut
       cases kq with
       | zero=>exact absurd HA.out (by simp [fluxionref01_Equal.j2])
       | succ kj5 =>
        have H:=HA.out
        clear HA
        simp only [fluxionref01_Equal.j2] at H
        by_cases c9:x5_1 < (l1.length:Int)
        ·
         rw [if_pos c9] at H
         have c9b0:decide (x5_1 < (l1.length:Int))=true:=decide_eq_true c9
         clear c9
         by_cases c10:0≤x5_1
         ·
          rw [if_pos c10] at H
          have c10b0:decide (0≤x5_1)=true:=decide_eq_true c10
          clear c10
          by_cases c11:x6_5=(rd l1 x5_1)
          ·
           rw [if_pos c11] at H
           have c11b0:(x6_5 == (rd l1 x5_1))=true:=beq_iff_eq.mpr c11
           have c11b1:(x6_5 != (rd l1 x5_1))=false:=bne_eq_false_iff_eq.mpr c11
           clear c11
           have H':=Aside0.mk H
           clear H
           have p154:0≤(x5_1:Int):=of_decide_eq_true (by first | (with_reducible assumption) | assumption)
           have q154:x5_1 < (l1.length:Int):=of_decide_eq_true (by first | (with_reducible assumption) | assumption)
           obtain⟨ad154,e154,hx154_0⟩:=Kd.at_int HR1.out x5_1 p154 q154
           cases e154
           replace p154:=eq_true p154
           replace q154:=eq_true q154
           go_wp2
           go_roundg kj5
           case measure=>have:=HK1.out; have:=HJ2.out; have:=HJ5.out; omega
           case rel=>exact⟨(wrap64 (x5_1+1)),(by first | rfl | (simp; done) | (simp [*]; done)),H',⟨by have:=HK1.out; have:=HJ2.out; have:=HJ5.out; omega⟩,by repeat (first | exact Drawn0.refl _ | apply Drawn0.step)⟩
          ·
           rw [if_neg c11] at H
           have c11b0:(x6_5 == (rd l1 x5_1))=false:=beq_eq_false_iff_ne.mpr c11
           have c11b1:(x6_5 != (rd l1 x5_1))=true:=bne_iff_ne.mpr c11
           obtain rfl:=Option.some.inj H
           have p154:0≤(x5_1:Int):=of_decide_eq_true (by first | (with_reducible assumption) | assumption)
           have q154:x5_1 < (l1.length:Int):=of_decide_eq_true (by first | (with_reducible assumption) | assumption)
           obtain⟨ad154,e154,hx154_0⟩:=Kd.at_int HR1.out x5_1 p154 q154
           cases e154
           replace p154:=eq_true p154
           replace q154:=eq_true q154
           go_wp2
           go_ret
           exact⟨by first | rfl | (simp; done) | (simp [*]; done),by repeat (first | exact Drawn0.refl _ | apply Drawn0.step)⟩
         ·
          rw [if_neg c10] at H
          exact absurd H (by simp)
        ·
         rw [if_neg c9] at H
         have c9b0:decide (x5_1 < (l1.length:Int))=false:=decide_eq_false c9
         clear c9
         by_cases c12:x6_5=0
         ·
          rw [if_pos c12] at H
          have c12b0:(x6_5 == 0)=true:=beq_iff_eq.mpr c12
          have c12b1:(x6_5 != 0)=false:=bne_eq_false_iff_eq.mpr c12
          clear c12
          have H':=Aside0.mk H
          clear H
          go_wp2
          go_roundg kj5
          case measure=>have:=HK1.out; have:=HJ2.out; have:=HJ5.out; omega
          case rel=>exact⟨(wrap64 (x5_1+1)),(by first | rfl | (simp; done) | (simp [*]; done)),H',⟨by have:=HK1.out; have:=HJ2.out; have:=HJ5.out; omega⟩,by repeat (first | exact Drawn0.refl _ | apply Drawn0.step)⟩
         ·
          rw [if_neg c12] at H
          have c12b0:(x6_5 == 0)=false:=beq_eq_false_iff_ne.mpr c12
          have c12b1:(x6_5 != 0)=true:=bne_iff_ne.mpr c12
          obtain rfl:=Option.some.inj H
          go_wp2
          go_ret
          exact⟨by first | rfl | (simp; done) | (simp [*]; done),by repeat (first | exact Drawn0.refl _ | apply Drawn0.step)⟩
     ·
      replace c5:=Bool.eq_false_iff.mpr c5
      subst c5
      have H1:(some true)=some r:=by rw [if_neg (show ¬ (false=true) by decide)] at H; exact H
      clear H
      have H:=H1
      clear H1
      obtain rfl:=Option.some.inj H
      go_wp2
      go_ret
      exact⟨by first | rfl | (simp; done) | (simp [*]; done),by repeat (first | exact Drawn0.refl _ | apply Drawn0.step)⟩
end Go.Proofs.Ytehghijlchpeaaa.L
end
section
namespace Go.Proofs.Ytehghijlchpeaaa.L
open Go.RowKit Go.Proofs.YtehghijlchpeaaaW.PrintWords Go.Proofs.YtehghijlchpeaaaW.PrintLast Go.Proofs.YtehghijlchpeaaaW.PrintMore
set_option linter.unusedVariables false
set_option linter.unusedSimpArgs false
set_option maxHeartbeats 8000000 in
set_option maxRecDepth 100000 in
theorem fluxionlaw03_few.calls (k:Nat) (A0:Option Addr) (c0:Nat) (l0:List (List Int)) (r:Bool) (w:World) (hr0:Kd.C (Kd.slice 63 (Kd.int .u32)) w A0 l0.length l0) (hc0:l0.length≤c0) (h:fluxionlaw03_few.f k l0=some r) :
  Calls Try.prog 14 #[.slice A0 l0.length c0] w fun e w'=>e=.returned (.bool r)∧Drawn0 w w':=by
 have HR0:=Aside0.mk hr0
 have HC0:=Aside0.mk hc0
 clear hr0 hc0
 have H:(fluxionlaw03_few.l0 k l0 0)=some r:=h
 clear h
 have H':=Aside0.mk H
 clear H
 go_enter Try.func14,Try.ntmps14
 go_wp2
 go_loopg [3] k (fun kq v3 w'=>∃ (x3_1:Int),v3=.int .i64 x3_1∧Aside0 (fluxionlaw03_few.l0 kq l0 x3_1=some r)∧Aside0 (kq≤k)∧Drawn0 w w')
 case atStart=>exact⟨(0),(by first | rfl | (simp; done) | (simp [*]; done)),H',⟨Nat.le_refl _⟩,by repeat (first | exact Drawn0.refl _ | apply Drawn0.step)⟩
 case round =>
  clear H'
  try clear c1
  obtain⟨x3_1,rfl,HA,HK1,⟨m1,rfl⟩⟩:=hrel
  cases gk with
  | zero=>exact absurd HA.out (by simp [fluxionlaw03_few.l0])
  | succ k1 =>
   have H:=HA.out
   clear HA
   simp only [fluxionlaw03_few.l0] at H
   by_cases c2:x3_1 < (l0.length:Int)
   ·
    rw [if_pos c2] at H
    have c2b0:decide (x3_1 < (l0.length:Int))=true:=decide_eq_true c2
    clear c2
    by_cases c3:0≤x3_1
    ·
     rw [if_pos c3] at H
     have c3b0:decide (0≤x3_1)=true:=decide_eq_true c3
     clear c3
     by_cases c4:((rd_L2 l0 x3_1).length:Int) > 60
     ·
      rw [if_pos c4] at H
      have c4b0:decide (60 < ((rd_L2 l0 x3_1).length:Int))=true:=decide_eq_true c4
      have c4b1:decide (60 < (rd_L2 l0 x3_1).length)=true:=decide_eq_true (by omega)
      clear c4
      obtain rfl:=Option.some.inj H
      have p373:0≤(x3_1:Int):=of_decide_eq_true (by first | (with_reducible assumption) | assumption)
      have q373:x3_1 < (l0.length:Int):=of_decide_eq_true (by first | (with_reducible assumption) | assumption)
      obtain⟨ad373,A373_0,c373_0,e373,hx373_0,hl373_0,hi373_0⟩:=at_L2 HR0.out x3_1 p373 q373
      cases e373
      have HR373_0:=Aside0.mk hi373_0
      have HC373_0:=Aside0.mk hl373_0
      clear hi373_0 hl373_0
      replace p373:=eq_true p373
      replace q373:=eq_true q373
      go_wp2
      go_ret
      exact⟨by first | rfl | (simp; done) | (simp [*]; done),by repeat (first | exact Drawn0.refl _ | apply Drawn0.step)⟩
     ·
      rw [if_neg c4] at H
      have c4b0:decide (60 < ((rd_L2 l0 x3_1).length:Int))=false:=decide_eq_false c4
      have c4b1:decide (60 < (rd_L2 l0 x3_1).length)=false:=decide_eq_false (by omega)
      clear c4
      have H':=Aside0.mk H
      clear H
      have p373:0≤(x3_1:Int):=of_decide_eq_true (by first | (with_reducible assumption) | assumption)
      have q373:x3_1 < (l0.length:Int):=of_decide_eq_true (by first | (with_reducible assumption) | assumption)
      obtain⟨ad373,A373_0,c373_0,e373,hx373_0,hl373_0,hi373_0⟩:=at_L2 HR0.out x3_1 p373 q373
      cases e373
      have HR373_0:=Aside0.mk hi373_0
      have HC373_0:=Aside0.mk hl373_0
      clear hi373_0 hl373_0
      replace p373:=eq_true p373
      replace q373:=eq_true q373
      go_wp2
      go_roundg k1
      case measure=>have:=HK1.out; omega
      case rel=>exact⟨(wrap64 (x3_1+1)),(by first | rfl | (simp; done) | (simp [*]; done)),H',⟨by have:=HK1.out; omega⟩,by repeat (first | exact Drawn0.refl _ | apply Drawn0.step)⟩
    ·
     rw [if_neg c3] at H
     exact absurd H (by simp)
   ·
    rw [if_neg c2] at H
    have c2b0:decide (x3_1 < (l0.length:Int))=false:=decide_eq_false c2
    clear c2
    obtain rfl:=Option.some.inj H
    go_wp2
    go_ret
    exact⟨by first | rfl | (simp; done) | (simp [*]; done),by repeat (first | exact Drawn0.refl _ | apply Drawn0.step)⟩
set_option maxHeartbeats 8000000 in
set_option maxRecDepth 100000 in
theorem fluxionlaw03_same.calls (k:Nat) (a0_0:Bool) (A0_1:Option Addr) (c0_1:Nat) (l0_1:List Int) (A0_2:Option Addr) (c0_2:Nat) (l0_2:List Int) (a1_0:Bool) (A1_1:Option Addr) (c1_1:Nat) (l1_1:List Int) (A1_2:Option Addr) (c1_2:Nat) (l1_2:List Int) (r:Bool) (w:World) (hr0_1:Kd.C (Kd.int .u32) w A0_1 l0_1.length l0_1) (hc0_1:l0_1.length≤c0_1) (hr0_2:Kd.C (Kd.int .u32) w A0_2 l0_2.length l0_2) (hc0_2:l0_2.length≤c0_2) (hr1_1:Kd.C (Kd.int .u32) w A1_1 l1_1.length l1_1) (hc1_1:l1_1.length≤c1_1) (hr1_2:Kd.C (Kd.int .u32) w A1_2 l1_2.length l1_2) (hc1_2:l1_2.length≤c1_2) (h:fluxionlaw03_same.f k a0_0 l0_1 l0_2 a1_0 l1_1 l1_2=some r) :
  Calls Try.prog 40 #[.agg #[.bool a0_0,.slice A0_1 l0_1.length c0_1,.slice A0_2 l0_2.length c0_2],.agg #[.bool a1_0,.slice A1_1 l1_1.length c1_1,.slice A1_2 l1_2.length c1_2]] w fun e w'=>e=.returned (.bool r)∧Below w.heap.size w w':=by
 have hu25:=Try.underlying25
 have HR0_1:=Aside0.mk hr0_1
 have HC0_1:=Aside0.mk hc0_1
 clear hr0_1 hc0_1
 have HR0_2:=Aside0.mk hr0_2
 have HC0_2:=Aside0.mk hc0_2
 clear hr0_2 hc0_2
 have HR1_1:=Aside0.mk hr1_1
 have HC1_1:=Aside0.mk hc1_1
 clear hr1_1 hc1_1
 have HR1_2:=Aside0.mk hr1_2
 have HC1_2:=Aside0.mk hc1_2
 clear hr1_2 hc1_2
 have HB:=Aside0.mk (Below.refl w.heap.size w)
 have H:(if (a0_0 == a1_0)=true then (if (l0_1.length:Int)=(l1_1.length:Int) then (if (l0_2.length:Int)=(l1_2.length:Int) then (if (l0_2.length:Int) > 0 then ((fluxionref01_Equal.f k l0_1 l1_1).bind fun t376=>(if t376=true then ((fluxionref01_Equal.f k l0_2 l1_2).bind fun t377=>(some t377)) else (some false))) else (some false)) else (some false)) else (some false)) else (some false))=some r:=h
 clear h
 by_cases c3:(a0_0 == a1_0)=true
 ·
  rw [if_pos c3] at H
  have c3b0:(a0_0 == a1_0)=true:=c3
  (try (have c3b1:decide (a0_0=a1_0)=true:=by simpa using c3))
  (try (have c3b2:(a0_0 == a1_0)=true:=by simpa using c3))
  clear c3
  by_cases c4:(l0_1.length:Int)=(l1_1.length:Int)
  ·
   rw [if_pos c4] at H
   have c4b0:((l0_1.length:Int) == (l1_1.length:Int))=true:=beq_iff_eq.mpr c4
   have c4b1:((l0_1.length:Int) != (l1_1.length:Int))=false:=bne_eq_false_iff_eq.mpr c4
   have c4b2:(l0_1.length == l1_1.length)=true:=by first | simpa using c4 | (simp at c4 ⊢; omega)
   clear c4
   by_cases c5:(l0_2.length:Int)=(l1_2.length:Int)
   ·
    rw [if_pos c5] at H
    have c5b0:((l0_2.length:Int) == (l1_2.length:Int))=true:=beq_iff_eq.mpr c5
    have c5b1:((l0_2.length:Int) != (l1_2.length:Int))=false:=bne_eq_false_iff_eq.mpr c5
    have c5b2:(l0_2.length == l1_2.length)=true:=by first | simpa using c5 | (simp at c5 ⊢; omega)
    clear c5
    by_cases c6:(l0_2.length:Int) > 0
    ·
     rw [if_pos c6] at H
     have c6b0:decide (0 < (l0_2.length:Int))=true:=decide_eq_true c6
     have c6b1:decide (0 < l0_2.length)=true:=decide_eq_true (by omega)
     clear c6
     replace H:=Option.bind_eq_some_iff.mp H
     obtain⟨t376,A70,H⟩:=H
     replace H:(if t376=true then ((fluxionref01_Equal.f k l0_2 l1_2).bind fun t377=>(some t377)) else (some false))=some r:=H
     have A7:=Aside0.mk A70
     clear A70
     by_cases c8:t376=true
     ·
      subst c8
      have H1:((fluxionref01_Equal.f k l0_2 l1_2).bind fun t377=>(some t377))=some r:=by rw [if_pos rfl] at H; exact H
      clear H
      have H:=H1
      clear H1
      replace H:=Option.bind_eq_some_iff.mp H
      obtain⟨t377,A90,H⟩:=H
      replace H:(some t377)=some r:=H
      have A9:=Aside0.mk A90
      clear A90
      obtain rfl:=Option.some.inj H
      go_enter Try.func40,Try.ntmps40
      go_wp2_with (first | ((with_reducible refine zav (N:=2) rfl ?_); (try (refine gate_guard (by rfl) ?_; dsimp only)); refine zax ?hg (N:=2) ?hd (cs:=#[.bool a0_0,.slice A0_1 l0_1.length c0_1,.slice A0_2 l0_2.length c0_2]) (t:=25) ?hr ?_; (case hd=>rfl); (case hg=>rfl); (case hr=>first | (go_simp; done) | (go_simp; rfl)); intro gb374 hg w10 hbox hb; have n0_:=Aside0.mk (zag (by repeat (first | (with_reducible first | exact HB.out | apply zab | apply zaa | apply zac) | exact HB.out)) hb); have n1_:=Aside0.mk (hbox); have n2_:=Aside0.mk ((by rw [hg]; exact(zaj (by repeat (first | (with_reducible first | exact HB.out | apply zab | apply zaa | apply zac) | exact HB.out))):w.heap.size≤gb374)); have n3_:=Aside0.mk ((by rw [hg]; exact(zaj (by repeat (first | (with_reducible first | exact HB.out | apply zab | apply zaa | apply zac) | exact HB.out))):w.heap.size≤gb374)); clear HB; have HB:=n0_; have BK374:=n1_; have GW374:=n2_; have GE374:=n3_; clear n0_ n1_ n2_ n3_; clear hb hbox hg) | ((with_reducible refine zav (N:=3) rfl ?_); (try (refine gate_guard (by rfl) ?_; dsimp only)); refine zax ?hg (N:=3) ?hd (cs:=#[.bool a1_0,.slice A1_1 l1_1.length c1_1,.slice A1_2 l1_2.length c1_2]) (t:=25) ?hr ?_; (case hd=>rfl); (case hg=>rfl); (case hr=>first | (go_simp; done) | (go_simp; rfl)); intro gb375 hg w11 hbox hb; have n0_:=Aside0.mk (zal (g:=gb374) (o:=.cells #[.bool a0_0,.slice A0_1 l0_1.length c0_1,.slice A0_2 l0_2.length c0_2] 25 (0,0)) (by (with_reducible repeat (first | refine zaf ?_ _ | refine zah ?_ | refine zae ?_ _)); exact BK374.out) hb); have n1_:=Aside0.mk (zag (by repeat (first | (with_reducible first | exact HB.out | apply zab | apply zaa | apply zac | refine zad ?_ GE374.out) | exact HB.out)) hb); have n2_:=Aside0.mk (hbox); have n3_:=Aside0.mk ((by rw [hg]; exact(zaj (by repeat (first | (with_reducible first | exact HB.out | apply zab | apply zaa | apply zac | refine zad ?_ GE374.out) | exact HB.out))):w.heap.size≤gb375)); have n4_:=Aside0.mk ((by rw [hg]; exact(zaj (by repeat (first | (with_reducible first | exact HB.out | apply zab | apply zaa | apply zac | refine zad ?_ GE374.out) | exact HB.out))):w.heap.size≤gb375)); have n5_:=Aside0.mk ((by rw [hg]; exact Nat.ne_of_lt (zaD (g:=gb374) (o:=.cells #[.bool a0_0,.slice A0_1 l0_1.length c0_1,.slice A0_2 l0_2.length c0_2] 25 (0,0)) (by (with_reducible repeat (first | refine zaf ?_ _ | refine zah ?_ | refine zae ?_ _)); exact BK374.out)):gb374≠gb375)); have n6_:=Aside0.mk ((by rw [hg]; exact Nat.ne_of_gt (zaD (g:=gb374) (o:=.cells #[.bool a0_0,.slice A0_1 l0_1.length c0_1,.slice A0_2 l0_2.length c0_2] 25 (0,0)) (by (with_reducible repeat (first | refine zaf ?_ _ | refine zah ?_ | refine zae ?_ _)); exact BK374.out)):gb375≠gb374)); clear BK374; clear HB; have BK374:=n0_; have HB:=n1_; have BK375:=n2_; have GW375:=n3_; have GE375:=n4_; have NB374_375:=n5_; have NB375_374:=n6_; clear n0_ n1_ n2_ n3_ n4_ n5_ n6_; clear hb hbox hg; have hnb12:=NB374_375.out; have hnc12:=NB375_374.out; have hcz13_0:w11.cell? ⟨gb374,0,none⟩=some (.bool a0_0):=(zai BK374.out 0).trans rfl; have hcz13_1:w11.cell? ⟨gb374,1,none⟩=some (.slice A0_1 l0_1.length c0_1):=(zai BK374.out 1).trans rfl; have hcz13_2:w11.cell? ⟨gb374,2,none⟩=some (.slice A0_2 l0_2.length c0_2):=(zai BK374.out 2).trans rfl; have hfz13_0:=zak BK374.out 0; have hfz13_1:=zak BK374.out 1; have hfz13_2:=zak BK374.out 2; have hcz14_0:w11.cell? ⟨gb375,0,none⟩=some (.bool a1_0):=(zai BK375.out 0).trans rfl; have hcz14_1:w11.cell? ⟨gb375,1,none⟩=some (.slice A1_1 l1_1.length c1_1):=(zai BK375.out 1).trans rfl; have hcz14_2:w11.cell? ⟨gb375,2,none⟩=some (.slice A1_2 l1_2.length c1_2):=(zai BK375.out 2).trans rfl; have hfz14_0:=zak BK375.out 0; have hfz14_1:=zak BK375.out 1; have hfz14_2:=zak BK375.out 2) | (go_at_call 49; (with_reducible refine(fluxionref01_Equal.calls k _ _ l0_1 _ _ l1_1 true _ ?side1 ?side2 ?side3 ?side4 A7.out).mono ?_); (case side1=>repeat (first | exact(Kd.C_below HR0_1.out HB.out) | (with_reducible refine Kd.C_alloc ?_ _) | (with_reducible refine Kd.C_drewN ?_ _) | (with_reducible refine Kd.C_drew ?_))); (case side2=>exact HC0_1.out); (case side3=>repeat (first | exact(Kd.C_below HR1_1.out HB.out) | (with_reducible refine Kd.C_alloc ?_ _) | (with_reducible refine Kd.C_drewN ?_ _) | (with_reducible refine Kd.C_drew ?_))); (case side4=>exact HC1_1.out); rintro e w' ⟨rfl,⟨nd,rfl⟩⟩) | (go_at_call 49; (with_reducible refine(fluxionref01_Equal.calls k _ _ l0_2 _ _ l1_2 t377 _ ?side1 ?side2 ?side3 ?side4 A9.out).mono ?_); (case side1=>repeat (first | exact(Kd.C_below HR0_2.out (by repeat (first | (with_reducible first | exact HB.out | apply zab | apply zaa | apply zac | refine zad ?_ GE374.out | refine zad ?_ GE375.out) | exact HB.out))) | (with_reducible refine Kd.C_alloc ?_ _) | (with_reducible refine Kd.C_drewN ?_ _) | (with_reducible refine Kd.C_drew ?_))); (case side2=>exact HC0_2.out); (case side3=>repeat (first | exact(Kd.C_below HR1_2.out (by repeat (first | (with_reducible first | exact HB.out | apply zab | apply zaa | apply zac | refine zad ?_ GE374.out | refine zad ?_ GE375.out) | exact HB.out))) | (with_reducible refine Kd.C_alloc ?_ _) | (with_reducible refine Kd.C_drewN ?_ _) | (with_reducible refine Kd.C_drew ?_))); (case side4=>exact HC1_2.out); rintro e w' ⟨rfl,⟨nd,rfl⟩⟩))
      go_ret
      exact⟨by first | rfl | (simp [zan,zao]<;>rfl) | (simp [*,zan,zao]<;>rfl),by repeat (first | (with_reducible first | exact HB.out | apply zab | apply zaa | apply zac | refine zad ?_ GE374.out | refine zad ?_ GE375.out) | exact HB.out)⟩
     ·
      replace c8:=Bool.eq_false_iff.mpr c8
      subst c8
      have H1:(some false)=some r:=by rw [if_neg (show ¬ (false=true) by decide)] at H; exact H
      clear H
      have H:=H1
      clear H1
      obtain rfl:=Option.some.inj H
      go_enter Try.func40,Try.ntmps40
      go_wp2_with (first | ((with_reducible refine zav (N:=2) rfl ?_); (try (refine gate_guard (by rfl) ?_; dsimp only)); refine zax ?hg (N:=2) ?hd (cs:=#[.bool a0_0,.slice A0_1 l0_1.length c0_1,.slice A0_2 l0_2.length c0_2]) (t:=25) ?hr ?_; (case hd=>rfl); (case hg=>rfl); (case hr=>first | (go_simp; done) | (go_simp; rfl)); intro gb374 hg w15 hbox hb; have n0_:=Aside0.mk (zag (by repeat (first | (with_reducible first | exact HB.out | apply zab | apply zaa | apply zac) | exact HB.out)) hb); have n1_:=Aside0.mk (hbox); have n2_:=Aside0.mk ((by rw [hg]; exact(zaj (by repeat (first | (with_reducible first | exact HB.out | apply zab | apply zaa | apply zac) | exact HB.out))):w.heap.size≤gb374)); have n3_:=Aside0.mk ((by rw [hg]; exact(zaj (by repeat (first | (with_reducible first | exact HB.out | apply zab | apply zaa | apply zac) | exact HB.out))):w.heap.size≤gb374)); clear HB; have HB:=n0_; have BK374:=n1_; have GW374:=n2_; have GE374:=n3_; clear n0_ n1_ n2_ n3_; clear hb hbox hg) | ((with_reducible refine zav (N:=3) rfl ?_); (try (refine gate_guard (by rfl) ?_; dsimp only)); refine zax ?hg (N:=3) ?hd (cs:=#[.bool a1_0,.slice A1_1 l1_1.length c1_1,.slice A1_2 l1_2.length c1_2]) (t:=25) ?hr ?_; (case hd=>rfl); (case hg=>rfl); (case hr=>first | (go_simp; done) | (go_simp; rfl)); intro gb375 hg w16 hbox hb; have n0_:=Aside0.mk (zal (g:=gb374) (o:=.cells #[.bool a0_0,.slice A0_1 l0_1.length c0_1,.slice A0_2 l0_2.length c0_2] 25 (0,0)) (by (with_reducible repeat (first | refine zaf ?_ _ | refine zah ?_ | refine zae ?_ _)); exact BK374.out) hb); have n1_:=Aside0.mk (zag (by repeat (first | (with_reducible first | exact HB.out | apply zab | apply zaa | apply zac | refine zad ?_ GE374.out) | exact HB.out)) hb); have n2_:=Aside0.mk (hbox); have n3_:=Aside0.mk ((by rw [hg]; exact(zaj (by repeat (first | (with_reducible first | exact HB.out | apply zab | apply zaa | apply zac | refine zad ?_ GE374.out) | exact HB.out))):w.heap.size≤gb375)); have n4_:=Aside0.mk ((by rw [hg]; exact(zaj (by repeat (first | (with_reducible first | exact HB.out | apply zab | apply zaa | apply zac | refine zad ?_ GE374.out) | exact HB.out))):w.heap.size≤gb375)); have n5_:=Aside0.mk ((by rw [hg]; exact Nat.ne_of_lt (zaD (g:=gb374) (o:=.cells #[.bool a0_0,.slice A0_1 l0_1.length c0_1,.slice A0_2 l0_2.length c0_2] 25 (0,0)) (by (with_reducible repeat (first | refine zaf ?_ _ | refine zah ?_ | refine zae ?_ _)); exact BK374.out)):gb374≠gb375)); have n6_:=Aside0.mk ((by rw [hg]; exact Nat.ne_of_gt (zaD (g:=gb374) (o:=.cells #[.bool a0_0,.slice A0_1 l0_1.length c0_1,.slice A0_2 l0_2.length c0_2] 25 (0,0)) (by (with_reducible repeat (first | refine zaf ?_ _ | refine zah ?_ | refine zae ?_ _)); exact BK374.out)):gb375≠gb374)); clear BK374; clear HB; have BK374:=n0_; have HB:=n1_; have BK375:=n2_; have GW375:=n3_; have GE375:=n4_; have NB374_375:=n5_; have NB375_374:=n6_; clear n0_ n1_ n2_ n3_ n4_ n5_ n6_; clear hb hbox hg; have hnb17:=NB374_375.out; have hnc17:=NB375_374.out; have hcz18_0:w16.cell? ⟨gb374,0,none⟩=some (.bool a0_0):=(zai BK374.out 0).trans rfl; have hcz18_1:w16.cell? ⟨gb374,1,none⟩=some (.slice A0_1 l0_1.length c0_1):=(zai BK374.out 1).trans rfl; have hcz18_2:w16.cell? ⟨gb374,2,none⟩=some (.slice A0_2 l0_2.length c0_2):=(zai BK374.out 2).trans rfl; have hfz18_0:=zak BK374.out 0; have hfz18_1:=zak BK374.out 1; have hfz18_2:=zak BK374.out 2; have hcz19_0:w16.cell? ⟨gb375,0,none⟩=some (.bool a1_0):=(zai BK375.out 0).trans rfl; have hcz19_1:w16.cell? ⟨gb375,1,none⟩=some (.slice A1_1 l1_1.length c1_1):=(zai BK375.out 1).trans rfl; have hcz19_2:w16.cell? ⟨gb375,2,none⟩=some (.slice A1_2 l1_2.length c1_2):=(zai BK375.out 2).trans rfl; have hfz19_0:=zak BK375.out 0; have hfz19_1:=zak BK375.out 1; have hfz19_2:=zak BK375.out 2) | (go_at_call 49; (with_reducible refine(fluxionref01_Equal.calls k _ _ l0_1 _ _ l1_1 false _ ?side1 ?side2 ?side3 ?side4 A7.out).mono ?_); (case side1=>repeat (first | exact(Kd.C_below HR0_1.out HB.out) | (with_reducible refine Kd.C_alloc ?_ _) | (with_reducible refine Kd.C_drewN ?_ _) | (with_reducible refine Kd.C_drew ?_))); (case side2=>exact HC0_1.out); (case side3=>repeat (first | exact(Kd.C_below HR1_1.out HB.out) | (with_reducible refine Kd.C_alloc ?_ _) | (with_reducible refine Kd.C_drewN ?_ _) | (with_reducible refine Kd.C_drew ?_))); (case side4=>exact HC1_1.out); rintro e w' ⟨rfl,⟨nd,rfl⟩⟩))
      go_ret
      exact⟨by first | rfl | (simp [zan,zao]<;>rfl) | (simp [*,zan,zao]<;>rfl),by repeat (first | (with_reducible first | exact HB.out | apply zab | apply zaa | apply zac | refine zad ?_ GE374.out | refine zad ?_ GE375.out) | exact HB.out)⟩
    ·
     rw [if_neg c6] at H
     have c6b0:decide (0 < (l0_2.length:Int))=false:=decide_eq_false c6
     have c6b1:decide (0 < l0_2.length)=false:=decide_eq_false (by omega)
     clear c6
     obtain rfl:=Option.some.inj H
     go_enter Try.func40,Try.ntmps40
     go_wp2_with (first | ((with_reducible refine zav (N:=2) rfl ?_); (try (refine gate_guard (by rfl) ?_; dsimp only)); refine zax ?hg (N:=2) ?hd (cs:=#[.bool a0_0,.slice A0_1 l0_1.length c0_1,.slice A0_2 l0_2.length c0_2]) (t:=25) ?hr ?_; (case hd=>rfl); (case hg=>rfl); (case hr=>first | (go_simp; done) | (go_simp; rfl)); intro gb374 hg w20 hbox hb; have n0_:=Aside0.mk (zag (by repeat (first | (with_reducible first | exact HB.out | apply zab | apply zaa | apply zac) | exact HB.out)) hb); have n1_:=Aside0.mk (hbox); have n2_:=Aside0.mk ((by rw [hg]; exact(zaj (by repeat (first | (with_reducible first | exact HB.out | apply zab | apply zaa | apply zac) | exact HB.out))):w.heap.size≤gb374)); have n3_:=Aside0.mk ((by rw [hg]; exact(zaj (by repeat (first | (with_reducible first | exact HB.out | apply zab | apply zaa | apply zac) | exact HB.out))):w.heap.size≤gb374)); clear HB; have HB:=n0_; have BK374:=n1_; have GW374:=n2_; have GE374:=n3_; clear n0_ n1_ n2_ n3_; clear hb hbox hg) | ((with_reducible refine zav (N:=3) rfl ?_); (try (refine gate_guard (by rfl) ?_; dsimp only)); refine zax ?hg (N:=3) ?hd (cs:=#[.bool a1_0,.slice A1_1 l1_1.length c1_1,.slice A1_2 l1_2.length c1_2]) (t:=25) ?hr ?_; (case hd=>rfl); (case hg=>rfl); (case hr=>first | (go_simp; done) | (go_simp; rfl)); intro gb375 hg w21 hbox hb; have n0_:=Aside0.mk (zal (g:=gb374) (o:=.cells #[.bool a0_0,.slice A0_1 l0_1.length c0_1,.slice A0_2 l0_2.length c0_2] 25 (0,0)) (by (with_reducible repeat (first | refine zaf ?_ _ | refine zah ?_ | refine zae ?_ _)); exact BK374.out) hb); have n1_:=Aside0.mk (zag (by repeat (first | (with_reducible first | exact HB.out | apply zab | apply zaa | apply zac | refine zad ?_ GE374.out) | exact HB.out)) hb); have n2_:=Aside0.mk (hbox); have n3_:=Aside0.mk ((by rw [hg]; exact(zaj (by repeat (first | (with_reducible first | exact HB.out | apply zab | apply zaa | apply zac | refine zad ?_ GE374.out) | exact HB.out))):w.heap.size≤gb375)); have n4_:=Aside0.mk ((by rw [hg]; exact(zaj (by repeat (first | (with_reducible first | exact HB.out | apply zab | apply zaa | apply zac | refine zad ?_ GE374.out) | exact HB.out))):w.heap.size≤gb375)); have n5_:=Aside0.mk ((by rw [hg]; exact Nat.ne_of_lt (zaD (g:=gb374) (o:=.cells #[.bool a0_0,.slice A0_1 l0_1.length c0_1,.slice A0_2 l0_2.length c0_2] 25 (0,0)) (by (with_reducible repeat (first | refine zaf ?_ _ | refine zah ?_ | refine zae ?_ _)); exact BK374.out)):gb374≠gb375)); have n6_:=Aside0.mk ((by rw [hg]; exact Nat.ne_of_gt (zaD (g:=gb374) (o:=.cells #[.bool a0_0,.slice A0_1 l0_1.length c0_1,.slice A0_2 l0_2.length c0_2] 25 (0,0)) (by (with_reducible repeat (first | refine zaf ?_ _ | refine zah ?_ | refine zae ?_ _)); exact BK374.out)):gb375≠gb374)); clear BK374; clear HB; have BK374:=n0_; have HB:=n1_; have BK375:=n2_; have GW375:=n3_; have GE375:=n4_; have NB374_375:=n5_; have NB375_374:=n6_; clear n0_ n1_ n2_ n3_ n4_ n5_ n6_; clear hb hbox hg; have hnb22:=NB374_375.out; have hnc22:=NB375_374.out; have hcz23_0:w21.cell? ⟨gb374,0,none⟩=some (.bool a0_0):=(zai BK374.out 0).trans rfl; have hcz23_1:w21.cell? ⟨gb374,1,none⟩=some (.slice A0_1 l0_1.length c0_1):=(zai BK374.out 1).trans rfl; have hcz23_2:w21.cell? ⟨gb374,2,none⟩=some (.slice A0_2 l0_2.length c0_2):=(zai BK374.out 2).trans rfl; have hfz23_0:=zak BK374.out 0; have hfz23_1:=zak BK374.out 1; have hfz23_2:=zak BK374.out 2; have hcz24_0:w21.cell? ⟨gb375,0,none⟩=some (.bool a1_0):=(zai BK375.out 0).trans rfl; have hcz24_1:w21.cell? ⟨gb375,1,none⟩=some (.slice A1_1 l1_1.length c1_1):=(zai BK375.out 1).trans rfl; have hcz24_2:w21.cell? ⟨gb375,2,none⟩=some (.slice A1_2 l1_2.length c1_2):=(zai BK375.out 2).trans rfl; have hfz24_0:=zak BK375.out 0; have hfz24_1:=zak BK375.out 1; have hfz24_2:=zak BK375.out 2))
     go_ret
     exact⟨by first | rfl | (simp [zan,zao]<;>rfl) | (simp [*,zan,zao]<;>rfl),by repeat (first | (with_reducible first | exact HB.out | apply zab | apply zaa | apply zac | refine zad ?_ GE374.out | refine zad ?_ GE375.out) | exact HB.out)⟩
   ·
    rw [if_neg c5] at H
    have c5b0:((l0_2.length:Int) == (l1_2.length:Int))=false:=beq_eq_false_iff_ne.mpr c5
    have c5b1:((l0_2.length:Int) != (l1_2.length:Int))=true:=bne_iff_ne.mpr c5
    have c5b2:(l0_2.length == l1_2.length)=false:=by first | simpa using c5 | (simp at c5 ⊢; omega)
    obtain rfl:=Option.some.inj H
    go_enter Try.func40,Try.ntmps40
    go_wp2_with (first | ((with_reducible refine zav (N:=2) rfl ?_); (try (refine gate_guard (by rfl) ?_; dsimp only)); refine zax ?hg (N:=2) ?hd (cs:=#[.bool a0_0,.slice A0_1 l0_1.length c0_1,.slice A0_2 l0_2.length c0_2]) (t:=25) ?hr ?_; (case hd=>rfl); (case hg=>rfl); (case hr=>first | (go_simp; done) | (go_simp; rfl)); intro gb374 hg w25 hbox hb; have n0_:=Aside0.mk (zag (by repeat (first | (with_reducible first | exact HB.out | apply zab | apply zaa | apply zac) | exact HB.out)) hb); have n1_:=Aside0.mk (hbox); have n2_:=Aside0.mk ((by rw [hg]; exact(zaj (by repeat (first | (with_reducible first | exact HB.out | apply zab | apply zaa | apply zac) | exact HB.out))):w.heap.size≤gb374)); have n3_:=Aside0.mk ((by rw [hg]; exact(zaj (by repeat (first | (with_reducible first | exact HB.out | apply zab | apply zaa | apply zac) | exact HB.out))):w.heap.size≤gb374)); clear HB; have HB:=n0_; have BK374:=n1_; have GW374:=n2_; have GE374:=n3_; clear n0_ n1_ n2_ n3_; clear hb hbox hg) | ((with_reducible refine zav (N:=3) rfl ?_); (try (refine gate_guard (by rfl) ?_; dsimp only)); refine zax ?hg (N:=3) ?hd (cs:=#[.bool a1_0,.slice A1_1 l1_1.length c1_1,.slice A1_2 l1_2.length c1_2]) (t:=25) ?hr ?_; (case hd=>rfl); (case hg=>rfl); (case hr=>first | (go_simp; done) | (go_simp; rfl)); intro gb375 hg w26 hbox hb; have n0_:=Aside0.mk (zal (g:=gb374) (o:=.cells #[.bool a0_0,.slice A0_1 l0_1.length c0_1,.slice A0_2 l0_2.length c0_2] 25 (0,0)) (by (with_reducible repeat (first | refine zaf ?_ _ | refine zah ?_ | refine zae ?_ _)); exact BK374.out) hb); have n1_:=Aside0.mk (zag (by repeat (first | (with_reducible first | exact HB.out | apply zab | apply zaa | apply zac | refine zad ?_ GE374.out) | exact HB.out)) hb); have n2_:=Aside0.mk (hbox); have n3_:=Aside0.mk ((by rw [hg]; exact(zaj (by repeat (first | (with_reducible first | exact HB.out | apply zab | apply zaa | apply zac | refine zad ?_ GE374.out) | exact HB.out))):w.heap.size≤gb375)); have n4_:=Aside0.mk ((by rw [hg]; exact(zaj (by repeat (first | (with_reducible first | exact HB.out | apply zab | apply zaa | apply zac | refine zad ?_ GE374.out) | exact HB.out))):w.heap.size≤gb375)); have n5_:=Aside0.mk ((by rw [hg]; exact Nat.ne_of_lt (zaD (g:=gb374) (o:=.cells #[.bool a0_0,.slice A0_1 l0_1.length c0_1,.slice A0_2 l0_2.length c0_2] 25 (0,0)) (by (with_reducible repeat (first | refine zaf ?_ _ | refine zah ?_ | refine zae ?_ _)); exact BK374.out)):gb374≠gb375)); have n6_:=Aside0.mk ((by rw [hg]; exact Nat.ne_of_gt (zaD (g:=gb374) (o:=.cells #[.bool a0_0,.slice A0_1 l0_1.length c0_1,.slice A0_2 l0_2.length c0_2] 25 (0,0)) (by (with_reducible repeat (first | refine zaf ?_ _ | refine zah ?_ | refine zae ?_ _)); exact BK374.out)):gb375≠gb374)); clear BK374; clear HB; have BK374:=n0_; have HB:=n1_; have BK375:=n2_; have GW375:=n3_; have GE375:=n4_; have NB374_375:=n5_; have NB375_374:=n6_; clear n0_ n1_ n2_ n3_ n4_ n5_ n6_; clear hb hbox hg; have hnb27:=NB374_375.out; have hnc27:=NB375_374.out; have hcz28_0:w26.cell? ⟨gb374,0,none⟩=some (.bool a0_0):=(zai BK374.out 0).trans rfl; have hcz28_1:w26.cell? ⟨gb374,1,none⟩=some (.slice A0_1 l0_1.length c0_1):=(zai BK374.out 1).trans rfl; have hcz28_2:w26.cell? ⟨gb374,2,none⟩=some (.slice A0_2 l0_2.length c0_2):=(zai BK374.out 2).trans rfl; have hfz28_0:=zak BK374.out 0; have hfz28_1:=zak BK374.out 1; have hfz28_2:=zak BK374.out 2; have hcz29_0:w26.cell? ⟨gb375,0,none⟩=some (.bool a1_0):=(zai BK375.out 0).trans rfl; have hcz29_1:w26.cell? ⟨gb375,1,none⟩=some (.slice A1_1 l1_1.length c1_1):=(zai BK375.out 1).trans rfl; have hcz29_2:w26.cell? ⟨gb375,2,none⟩=some (.slice A1_2 l1_2.length c1_2):=(zai BK375.out 2).trans rfl; have hfz29_0:=zak BK375.out 0; have hfz29_1:=zak BK375.out 1; have hfz29_2:=zak BK375.out 2))
    go_ret
    exact⟨by first | rfl | (simp [zan,zao]<;>rfl) | (simp [*,zan,zao]<;>rfl),by repeat (first | (with_reducible first | exact HB.out | apply zab | apply zaa | apply zac | refine zad ?_ GE374.out | refine zad ?_ GE375.out) | exact HB.out)⟩
  ·
   rw [if_neg c4] at H
   have c4b0:((l0_1.length:Int) == (l1_1.length:Int))=false:=beq_eq_false_iff_ne.mpr c4
   have c4b1:((l0_1.length:Int) != (l1_1.length:Int))=true:=bne_iff_ne.mpr c4
   have c4b2:(l0_1.length == l1_1.length)=false:=by first | simpa using c4 | (simp at c4 ⊢; omega)
   obtain rfl:=Option.some.inj H
   go_enter Try.func40,Try.ntmps40
   go_wp2_with (first | ((with_reducible refine zav (N:=2) rfl ?_); (try (refine gate_guard (by rfl) ?_; dsimp only)); refine zax ?hg (N:=2) ?hd (cs:=#[.bool a0_0,.slice A0_1 l0_1.length c0_1,.slice A0_2 l0_2.length c0_2]) (t:=25) ?hr ?_; (case hd=>rfl); (case hg=>rfl); (case hr=>first | (go_simp; done) | (go_simp; rfl)); intro gb374 hg w30 hbox hb; have n0_:=Aside0.mk (zag (by repeat (first | (with_reducible first | exact HB.out | apply zab | apply zaa | apply zac) | exact HB.out)) hb); have n1_:=Aside0.mk (hbox); have n2_:=Aside0.mk ((by rw [hg]; exact(zaj (by repeat (first | (with_reducible first | exact HB.out | apply zab | apply zaa | apply zac) | exact HB.out))):w.heap.size≤gb374)); have n3_:=Aside0.mk ((by rw [hg]; exact(zaj (by repeat (first | (with_reducible first | exact HB.out | apply zab | apply zaa | apply zac) | exact HB.out))):w.heap.size≤gb374)); clear HB; have HB:=n0_; have BK374:=n1_; have GW374:=n2_; have GE374:=n3_; clear n0_ n1_ n2_ n3_; clear hb hbox hg) | ((with_reducible refine zav (N:=3) rfl ?_); (try (refine gate_guard (by rfl) ?_; dsimp only)); refine zax ?hg (N:=3) ?hd (cs:=#[.bool a1_0,.slice A1_1 l1_1.length c1_1,.slice A1_2 l1_2.length c1_2]) (t:=25) ?hr ?_; (case hd=>rfl); (case hg=>rfl); (case hr=>first | (go_simp; done) | (go_simp; rfl)); intro gb375 hg w31 hbox hb; have n0_:=Aside0.mk (zal (g:=gb374) (o:=.cells #[.bool a0_0,.slice A0_1 l0_1.length c0_1,.slice A0_2 l0_2.length c0_2] 25 (0,0)) (by (with_reducible repeat (first | refine zaf ?_ _ | refine zah ?_ | refine zae ?_ _)); exact BK374.out) hb); have n1_:=Aside0.mk (zag (by repeat (first | (with_reducible first | exact HB.out | apply zab | apply zaa | apply zac | refine zad ?_ GE374.out) | exact HB.out)) hb); have n2_:=Aside0.mk (hbox); have n3_:=Aside0.mk ((by rw [hg]; exact(zaj (by repeat (first | (with_reducible first | exact HB.out | apply zab | apply zaa | apply zac | refine zad ?_ GE374.out) | exact HB.out))):w.heap.size≤gb375)); have n4_:=Aside0.mk ((by rw [hg]; exact(zaj (by repeat (first | (with_reducible first | exact HB.out | apply zab | apply zaa | apply zac | refine zad ?_ GE374.out) | exact HB.out))):w.heap.size≤gb375)); have n5_:=Aside0.mk ((by rw [hg]; exact Nat.ne_of_lt (zaD (g:=gb374) (o:=.cells #[.bool a0_0,.slice A0_1 l0_1.length c0_1,.slice A0_2 l0_2.length c0_2] 25 (0,0)) (by (with_reducible repeat (first | refine zaf ?_ _ | refine zah ?_ | refine zae ?_ _)); exact BK374.out)):gb374≠gb375)); have n6_:=Aside0.mk ((by rw [hg]; exact Nat.ne_of_gt (zaD (g:=gb374) (o:=.cells #[.bool a0_0,.slice A0_1 l0_1.length c0_1,.slice A0_2 l0_2.length c0_2] 25 (0,0)) (by (with_reducible repeat (first | refine zaf ?_ _ | refine zah ?_ | refine zae ?_ _)); exact BK374.out)):gb375≠gb374)); clear BK374; clear HB; have BK374:=n0_; have HB:=n1_; have BK375:=n2_; have GW375:=n3_; have GE375:=n4_; have NB374_375:=n5_; have NB375_374:=n6_; clear n0_ n1_ n2_ n3_ n4_ n5_ n6_; clear hb hbox hg; have hnb32:=NB374_375.out; have hnc32:=NB375_374.out; have hcz33_0:w31.cell? ⟨gb374,0,none⟩=some (.bool a0_0):=(zai BK374.out 0).trans rfl; have hcz33_1:w31.cell? ⟨gb374,1,none⟩=some (.slice A0_1 l0_1.length c0_1):=(zai BK374.out 1).trans rfl; have hcz33_2:w31.cell? ⟨gb374,2,none⟩=some (.slice A0_2 l0_2.length c0_2):=(zai BK374.out 2).trans rfl; have hfz33_0:=zak BK374.out 0; have hfz33_1:=zak BK374.out 1; have hfz33_2:=zak BK374.out 2; have hcz34_0:w31.cell? ⟨gb375,0,none⟩=some (.bool a1_0):=(zai BK375.out 0).trans rfl; have hcz34_1:w31.cell? ⟨gb375,1,none⟩=some (.slice A1_1 l1_1.length c1_1):=(zai BK375.out 1).trans rfl; have hcz34_2:w31.cell? ⟨gb375,2,none⟩=some (.slice A1_2 l1_2.length c1_2):=(zai BK375.out 2).trans rfl; have hfz34_0:=zak BK375.out 0; have hfz34_1:=zak BK375.out 1; have hfz34_2:=zak BK375.out 2))
   go_ret
   exact⟨by first | rfl | (simp [zan,zao]<;>rfl) | (simp [*,zan,zao]<;>rfl),by repeat (first | (with_reducible first | exact HB.out | apply zab | apply zaa | apply zac | refine zad ?_ GE374.out | refine zad ?_ GE375.out) | exact HB.out)⟩
 ·
  rw [if_neg c3] at H
  have c3b0:(a0_0 == a1_0)=false:=by simpa using c3
  (try (have c3b1:decide (a0_0=a1_0)=false:=by simpa using c3))
  (try (have c3b2:(a0_0 == a1_0)=false:=by simpa using c3))
  (try (have c3b3:¬ (a0_0=a1_0):=by simpa using c3))
  clear c3
  obtain rfl:=Option.some.inj H
  go_enter Try.func40,Try.ntmps40
  go_wp2_with (first | ((with_reducible refine zav (N:=2) rfl ?_); (try (refine gate_guard (by rfl) ?_; dsimp only)); refine zax ?hg (N:=2) ?hd (cs:=#[.bool a0_0,.slice A0_1 l0_1.length c0_1,.slice A0_2 l0_2.length c0_2]) (t:=25) ?hr ?_; (case hd=>rfl); (case hg=>rfl); (case hr=>first | (go_simp; done) | (go_simp; rfl)); intro gb374 hg w35 hbox hb; have n0_:=Aside0.mk (zag (by repeat (first | (with_reducible first | exact HB.out | apply zab | apply zaa | apply zac) | exact HB.out)) hb); have n1_:=Aside0.mk (hbox); have n2_:=Aside0.mk ((by rw [hg]; exact(zaj (by repeat (first | (with_reducible first | exact HB.out | apply zab | apply zaa | apply zac) | exact HB.out))):w.heap.size≤gb374)); have n3_:=Aside0.mk ((by rw [hg]; exact(zaj (by repeat (first | (with_reducible first | exact HB.out | apply zab | apply zaa | apply zac) | exact HB.out))):w.heap.size≤gb374)); clear HB; have HB:=n0_; have BK374:=n1_; have GW374:=n2_; have GE374:=n3_; clear n0_ n1_ n2_ n3_; clear hb hbox hg) | ((with_reducible refine zav (N:=3) rfl ?_); (try (refine gate_guard (by rfl) ?_; dsimp only)); refine zax ?hg (N:=3) ?hd (cs:=#[.bool a1_0,.slice A1_1 l1_1.length c1_1,.slice A1_2 l1_2.length c1_2]) (t:=25) ?hr ?_; (case hd=>rfl); (case hg=>rfl); (case hr=>first | (go_simp; done) | (go_simp; rfl)); intro gb375 hg w36 hbox hb; have n0_:=Aside0.mk (zal (g:=gb374) (o:=.cells #[.bool a0_0,.slice A0_1 l0_1.length c0_1,.slice A0_2 l0_2.length c0_2] 25 (0,0)) (by (with_reducible repeat (first | refine zaf ?_ _ | refine zah ?_ | refine zae ?_ _)); exact BK374.out) hb); have n1_:=Aside0.mk (zag (by repeat (first | (with_reducible first | exact HB.out | apply zab | apply zaa | apply zac | refine zad ?_ GE374.out) | exact HB.out)) hb); have n2_:=Aside0.mk (hbox); have n3_:=Aside0.mk ((by rw [hg]; exact(zaj (by repeat (first | (with_reducible first | exact HB.out | apply zab | apply zaa | apply zac | refine zad ?_ GE374.out) | exact HB.out))):w.heap.size≤gb375)); have n4_:=Aside0.mk ((by rw [hg]; exact(zaj (by repeat (first | (with_reducible first | exact HB.out | apply zab | apply zaa | apply zac | refine zad ?_ GE374.out) | exact HB.out))):w.heap.size≤gb375)); have n5_:=Aside0.mk ((by rw [hg]; exact Nat.ne_of_lt (zaD (g:=gb374) (o:=.cells #[.bool a0_0,.slice A0_1 l0_1.length c0_1,.slice A0_2 l0_2.length c0_2] 25 (0,0)) (by (with_reducible repeat (first | refine zaf ?_ _ | refine zah ?_ | refine zae ?_ _)); exact BK374.out)):gb374≠gb375)); have n6_:=Aside0.mk ((by rw [hg]; exact Nat.ne_of_gt (zaD (g:=gb374) (o:=.cells #[.bool a0_0,.slice A0_1 l0_1.length c0_1,.slice A0_2 l0_2.length c0_2] 25 (0,0)) (by (with_reducible repeat (first | refine zaf ?_ _ | refine zah ?_ | refine zae ?_ _)); exact BK374.out)):gb375≠gb374)); clear BK374; clear HB; have BK374:=n0_; have HB:=n1_; have BK375:=n2_; have GW375:=n3_; have GE375:=n4_; have NB374_375:=n5_; have NB375_374:=n6_; clear n0_ n1_ n2_ n3_ n4_ n5_ n6_; clear hb hbox hg; have hnb37:=NB374_375.out; have hnc37:=NB375_374.out; have hcz38_0:w36.cell? ⟨gb374,0,none⟩=some (.bool a0_0):=(zai BK374.out 0).trans rfl; have hcz38_1:w36.cell? ⟨gb374,1,none⟩=some (.slice A0_1 l0_1.length c0_1):=(zai BK374.out 1).trans rfl; have hcz38_2:w36.cell? ⟨gb374,2,none⟩=some (.slice A0_2 l0_2.length c0_2):=(zai BK374.out 2).trans rfl; have hfz38_0:=zak BK374.out 0; have hfz38_1:=zak BK374.out 1; have hfz38_2:=zak BK374.out 2; have hcz39_0:w36.cell? ⟨gb375,0,none⟩=some (.bool a1_0):=(zai BK375.out 0).trans rfl; have hcz39_1:w36.cell? ⟨gb375,1,none⟩=some (.slice A1_1 l1_1.length c1_1):=(zai BK375.out 1).trans rfl; have hcz39_2:w36.cell? ⟨gb375,2,none⟩=some (.slice A1_2 l1_2.length c1_2):=(zai BK375.out 2).trans rfl; have hfz39_0:=zak BK375.out 0; have hfz39_1:=zak BK375.out 1; have hfz39_2:=zak BK375.out 2))
  go_ret
  exact⟨by first | rfl | (simp [zan,zao]<;>rfl) | (simp [*,zan,zao]<;>rfl),by repeat (first | (with_reducible first | exact HB.out | apply zab | apply zaa | apply zac | refine zad ?_ GE374.out | refine zad ?_ GE375.out) | exact HB.out)⟩
end Go.Proofs.Ytehghijlchpeaaa.L
end
