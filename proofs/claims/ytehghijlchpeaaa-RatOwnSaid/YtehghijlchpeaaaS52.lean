/- Part 3 of the proof of ratOwn_holds: what it uses, in build order. -/
import Derived.Test.YtehghijlchpeaaaS51
import Derived.ArgAppend
import Derived.Below
import Derived.BigQuiet
import Derived.Deep.AppendLies
import Derived.Deep.CutBlock
import Derived.Deep.DeepCutAuto
import Derived.Deep.Draws
import Derived.Deep.LoopGhost
import Derived.Deep.OwnRows
import Derived.Deep.QuietTactic
import Derived.Deep.RegionHeld3
import Derived.KernelRfl
import Derived.Laws.BitsLemmas
import Derived.Laws.BytesArg
import Derived.Laws.IdiomCopy
import Derived.Laws.MakeOwn
import Derived.Laws.OwnMore
import Derived.Laws.Rows
import Derived.Laws.Slices
import Derived.Laws.StructEq
import Derived.Lib.AppendStr
import Derived.Lib.ConvBytes
import Derived.Maps.AppendAt
import Derived.OrdersHeld
import Derived.OwnWalk
import Derived.RowKit
import Derived.RowKit3
import Derived.Tactics
import Derived.Test.YtehghijlchpeaaaProg
import Derived.WalkKit
import Derived.WideLaws
section
namespace Go.Proofs.Ytehghijlchpeaaa.L
open Go.RowKit Go.Proofs.YtehghijlchpeaaaW.PrintWords Go.Proofs.YtehghijlchpeaaaW.PrintLast Go.Proofs.YtehghijlchpeaaaW.PrintMore
set_option linter.unusedVariables false
set_option linter.unusedSimpArgs false
theorem at_L2 {w:World} {A:Option Addr} {n:Nat} {xs:List (List Int)} (h:Kd.C (Kd.slice 63 (Kd.int .u32)) w A n xs) (i:Int) (h0:0≤i) (h1:i < n):∃ ad A0 c0,A=some ad∧w.cell? (ad.add i.toNat)=some (.slice A0 (rd_L2 xs i).length c0)∧(rd_L2 xs i).length≤c0∧(Kd.int .u32).C w A0 (rd_L2 xs i).length (rd_L2 xs i):=by
 obtain⟨ad,c,e,_,hK,hc0⟩:=Kd.C_get h ([]:List Int) i h0 h1
 have hc:∀ j u,c[j]? = some u→w.cell? (ad.add (i.toNat*1+j))=some u:=hc0
 obtain⟨A0,c0,rfl,l0,g0⟩:=hK
 exact⟨ad,A0,c0,e,by have hq:=hc 0 _ rfl; rwa [Nat.mul_one,Nat.add_zero] at hq,l0,g0⟩
end Go.Proofs.Ytehghijlchpeaaa.L
end
section
namespace Go.Proofs.Ytehghijlchpeaaa.L
open Go.RowKit Go.Proofs.YtehghijlchpeaaaW.PrintWords Go.Proofs.YtehghijlchpeaaaW.PrintLast Go.Proofs.YtehghijlchpeaaaW.PrintMore
set_option linter.unusedVariables false
set_option linter.unusedSimpArgs false
set_option maxHeartbeats 8000000 in
set_option maxRecDepth 100000 in
theorem fluxionref01_Equal.calls (k:Nat) (A0:Option Addr) (c0:Nat) (l0:List Int) (A1:Option Addr) (c1:Nat) (l1:List Int) (r:Bool) (w:World) (hr0:Kd.C (Kd.int .u32) w A0 l0.length l0) (hc0:l0.length≤c0) (hr1:Kd.C (Kd.int .u32) w A1 l1.length l1) (hc1:l1.length≤c1) (h:fluxionref01_Equal.f k l0 l1=some r) :
  Calls Try.prog 49 #[.slice A0 l0.length c0,.slice A1 l1.length c1] w fun e w'=>e=.returned (.bool r)∧Drawn0 w w':=by
 have HR0:=Aside0.mk hr0
 have HC0:=Aside0.mk hc0
 clear hr0 hc0
 have HR1:=Aside0.mk hr1
 have HC1:=Aside0.mk hc1
 clear hr1 hc1
 have H:(fluxionref01_Equal.l0 k l0 l1 0)=some r:=h
 clear h
 have H':=Aside0.mk H
 clear H
 go_enter Try.func49,Try.ntmps49
 go_wp2
 go_loopg [5] k (fun kq v5 w'=>∃ (x5_1:Int),v5=.int .i64 x5_1∧Aside0 (fluxionref01_Equal.l0 kq l0 l1 x5_1=some r)∧Aside0 (kq≤k)∧Drawn0 w w')
 case atStart=>exact⟨(0),(by first | rfl | (simp; done) | (simp [*]; done)),H',⟨Nat.le_refl _⟩,by repeat (first | exact Drawn0.refl _ | apply Drawn0.step)⟩
 case round =>
  clear H'
  try clear c1
  try clear p2
  obtain⟨x5_1,rfl,HA,HK1,⟨m1,rfl⟩⟩:=hrel
  cases gk with
  | zero=>exact absurd HA.out (by simp [fluxionref01_Equal.l0])
  | succ k1 =>
   have H:=HA.out
   clear HA
   simp only [fluxionref01_Equal.l0] at H
   have HC3:=Aside0.mk H
   clear H
   go_upto_region 2 with (fail)
   go_cut [17] (fun v17 wc=>∃ (kq:Nat) (x17_2:Bool),v17=.bool x17_2∧Aside0 (fluxionref01_Equal.j1 kq l0 l1 x5_1 x17_2=some r)∧Aside0 (kq≤k1)∧Drawn0 w wc)
   case first =>
    have H:=HC3.out
    clear HC3
    by_cases c4:x5_1 < (l0.length:Int)
    ·
     rw [if_pos c4] at H
     have c4b0:decide (x5_1 < (l0.length:Int))=true:=decide_eq_true c4
     clear c4
     (first | rw [c4b0] | (simp only [zaq,zar]; rw [c4b0]) | skip)
     have H':=Aside0.mk H
     clear H
     go_wp2
     go_meet
     case rel=>exact⟨_,(true),(by first | rfl | (simp; done) | (simp [*]; done)),H',⟨by have:=HK1.out; first | omega | exact Nat.le_refl _⟩,by repeat (first | exact Drawn0.refl _ | apply Drawn0.step)⟩
    ·
     rw [if_neg c4] at H
     have c4b0:decide (x5_1 < (l0.length:Int))=false:=decide_eq_false c4
     clear c4
     (first | rw [c4b0] | (simp only [zaq,zar]; rw [c4b0]) | skip)
     have H':=Aside0.mk H
     clear H
     go_wp2
     go_meet
     case rel=>exact⟨_,(decide (x5_1 < (l1.length:Int))),(by first | rfl | (simp; done) | (simp [*]; done)),H',⟨by have:=HK1.out; first | omega | exact Nat.le_refl _⟩,by repeat (first | exact Drawn0.refl _ | apply Drawn0.step)⟩
   case rest =>
    clear HC3
    try clear c1
    try clear p2
    try clear c4
    try clear c4b0
    try clear p2
    obtain⟨kq,x17_2,rfl,HA,HJ2,⟨mc2,rfl⟩⟩:=hcut
    cases kq with
    | zero=>exact absurd HA.out (by simp [fluxionref01_Equal.j1])
    | succ kj2 =>
     have H:=HA.out
     clear HA
     simp only [fluxionref01_Equal.j1] at H
     by_cases c5:x17_2=true
     ·
      subst c5
      have H1:(if x5_1 < (l0.length:Int) then (if 0≤x5_1 then (fluxionref01_Equal.j2 kj2 l0 l1 x5_1 (rd l0 x5_1) 0) else (none)) else (fluxionref01_Equal.j2 kj2 l0 l1 x5_1 0 0))=some r:=by rw [if_pos rfl] at H; exact H
      clear H
      have H:=H1
      clear H1
      have HC6:=Aside0.mk H
      clear H
      go_upto_if 23 with (fail)
      go_cut [6] (fun v6 wc=>∃ (kq:Nat) (x6_5:Int),v6=.int .u32 x6_5∧Aside0 (fluxionref01_Equal.j2 kq l0 l1 x5_1 x6_5 0=some r)∧Aside0 (kq≤kj2)∧Drawn0 w wc)
      case first =>
       have H:=HC6.out
       clear HC6
       by_cases c7:x5_1 < (l0.length:Int)
       ·
        rw [if_pos c7] at H
        have c7b0:decide (x5_1 < (l0.length:Int))=true:=decide_eq_true c7
        clear c7
        (first | rw [c7b0] | (simp only [zaq,zar]; rw [c7b0]) | skip)
        by_cases c8:0≤x5_1
        ·
         rw [if_pos c8] at H
         have c8b0:decide (0≤x5_1)=true:=decide_eq_true c8
         clear c8
         have H':=Aside0.mk H
         clear H
         have p153:0≤(x5_1:Int):=of_decide_eq_true (by first | (with_reducible assumption) | assumption)
         have q153:x5_1 < (l0.length:Int):=of_decide_eq_true (by first | (with_reducible assumption) | assumption)
         obtain⟨ad153,e153,hx153_0⟩:=Kd.at_int HR0.out x5_1 p153 q153
         cases e153
         replace p153:=eq_true p153
         replace q153:=eq_true q153
         go_wp2
         go_meet
         case rel=>exact⟨_,(rd l0 x5_1),(by first | rfl | (simp; done) | (simp [*]; done)),H',⟨by have:=HK1.out; have:=HJ2.out; first | omega | exact Nat.le_refl _⟩,by repeat (first | exact Drawn0.refl _ | apply Drawn0.step)⟩
        ·
         rw [if_neg c8] at H
         exact absurd H (by simp)
       ·
        rw [if_neg c7] at H
        have c7b0:decide (x5_1 < (l0.length:Int))=false:=decide_eq_false c7
        clear c7
        (first | rw [c7b0] | (simp only [zaq,zar]; rw [c7b0]) | skip)
        have H':=Aside0.mk H
        clear H
        go_wp2
        go_meet
        case rel=>exact⟨_,(0),(by first | rfl | (simp; done) | (simp [*]; done)),H',⟨by have:=HK1.out; have:=HJ2.out; first | omega | exact Nat.le_refl _⟩,by repeat (first | exact Drawn0.refl _ | apply Drawn0.step)⟩
      case rest =>
       clear HC6
       try clear c1
       try clear p1
       try clear q1
       try clear hx1
       try clear c2
       try clear p2
       try clear c4
       try clear c4b0
       try clear c5
       try clear c7
       try clear c7b0
       try clear c8
       try clear c8b0
       try clear hx153_0
       try clear p153
       try clear p2
       try clear q153
       obtain⟨kq,x6_5,rfl,HA,HJ5,⟨mc5,rfl⟩⟩:=hcut
       cases kq with
       | zero=>exact absurd HA.out (by simp [fluxionref01_Equal.j2])
       | succ kj5 =>
        have H:=HA.out
        clear HA
        simp only [fluxionref01_Equal.j2] at H
        by_cases c9:x5_1 < (l1.length:Int)
        ·
         rw [if_pos c9] at H
         have c9b0:decide (x5_1 < (l1.length:Int))=true:=decide_eq_true c9
         clear c9
         by_cases c10:0≤x5_1
         ·
          rw [if_pos c10] at H
          have c10b0:decide (0≤x5_1)=true:=decide_eq_true c10
          clear c10
          by_cases c11:x6_5=(rd l1 x5_1)
          ·
           rw [if_pos c11] at H
           have c11b0:(x6_5 == (rd l1 x5_1))=true:=beq_iff_eq.mpr c11
           have c11b1:(x6_5 != (rd l1 x5_1))=false:=bne_eq_false_iff_eq.mpr c11
           clear c11
           have H':=Aside0.mk H
           clear H
           have p154:0≤(x5_1:Int):=of_decide_eq_true (by first | (with_reducible assumption) | assumption)
           have q154:x5_1 < (l1.length:Int):=of_decide_eq_true (by first | (with_reducible assumption) | assumption)
           obtain⟨ad154,e154,hx154_0⟩:=Kd.at_int HR1.out x5_1 p154 q154
           cases e154
           replace p154:=eq_true p154
           replace q154:=eq_true q154
           go_wp2
           go_roundg kj5
           case measure=>have:=HK1.out; have:=HJ2.out; have:=HJ5.out; omega
           case rel=>exact⟨(wrap64 (x5_1+1)),(by first | rfl | (simp; done) | (simp [*]; done)),H',⟨by have:=HK1.out; have:=HJ2.out; have:=HJ5.out; omega⟩,by repeat (first | exact Drawn0.refl _ | apply Drawn0.step)⟩
          ·
           rw [if_neg c11] at H
           have c11b0:(x6_5 == (rd l1 x5_1))=false:=beq_eq_false_iff_ne.mpr c11
           have c11b1:(x6_5 != (rd l1 x5_1))=true:=bne_iff_ne.mpr c11
           obtain rfl:=Option.some.inj H
           have p154:0≤(x5_1:Int):=of_decide_eq_true (by first | (with_reducible assumption) | assumption)
           have q154:x5_1 < (l1.length:Int):=of_decide_eq_true (by first | (with_reducible assumption) | assumption)
           obtain⟨ad154,e154,hx154_0⟩:=Kd.at_int HR1.out x5_1 p154 q154
           cases e154
           replace p154:=eq_true p154
           replace q154:=eq_true q154
           go_wp2
           go_ret
           exact⟨by first | rfl | (simp; done) | (simp [*]; done),by repeat (first | exact Drawn0.refl _ | apply Drawn0.step)⟩
         ·
          rw [if_neg c10] at H
          exact absurd H (by simp)
        ·
         rw [if_neg c9] at H
         have c9b0:decide (x5_1 < (l1.length:Int))=false:=decide_eq_false c9
         clear c9
         by_cases c12:x6_5=0
         ·
          rw [if_pos c12] at H
          have c12b0:(x6_5 == 0)=true:=beq_iff_eq.mpr c12
          have c12b1:(x6_5 != 0)=false:=bne_eq_false_iff_eq.mpr c12
          clear c12
          have H':=Aside0.mk H
          clear H
          go_wp2
          go_roundg kj5
          case measure=>have:=HK1.out; have:=HJ2.out; have:=HJ5.out; omega
          case rel=>exact⟨(wrap64 (x5_1+1)),(by first | rfl | (simp; done) | (simp [*]; done)),H',⟨by have:=HK1.out; have:=HJ2.out; have:=HJ5.out; omega⟩,by repeat (first | exact Drawn0.refl _ | apply Drawn0.step)⟩
         ·
          rw [if_neg c12] at H
          have c12b0:(x6_5 == 0)=false:=beq_eq_false_iff_ne.mpr c12
          have c12b1:(x6_5 != 0)=true:=bne_iff_ne.mpr c12
          obtain rfl:=Option.some.inj H
          go_wp2
          go_ret
          exact⟨by first | rfl | (simp; done) | (simp [*]; done),by repeat (first | exact Drawn0.refl _ | apply Drawn0.step)⟩
     ·
      replace c5:=Bool.eq_false_iff.mpr c5
      subst c5
      have H1:(some true)=some r:=by rw [if_neg (show ¬ (false=true) by decide)] at H; exact H
      clear H
      have H:=H1
      clear H1
      obtain rfl:=Option.some.inj H
      go_wp2
      go_ret
      exact⟨by first | rfl | (simp; done) | (simp [*]; done),by repeat (first | exact Drawn0.refl _ | apply Drawn0.step)⟩
end Go.Proofs.Ytehghijlchpeaaa.L
end
section
namespace Go.Proofs.Ytehghijlchpeaaa.L
open Go.RowKit Go.Proofs.YtehghijlchpeaaaW.PrintWords Go.Proofs.YtehghijlchpeaaaW.PrintLast Go.Proofs.YtehghijlchpeaaaW.PrintMore
set_option linter.unusedVariables false
set_option linter.unusedSimpArgs false
set_option maxHeartbeats 8000000 in
set_option maxRecDepth 100000 in
theorem fluxionlaw03_few.calls (k:Nat) (A0:Option Addr) (c0:Nat) (l0:List (List Int)) (r:Bool) (w:World) (hr0:Kd.C (Kd.slice 63 (Kd.int .u32)) w A0 l0.length l0) (hc0:l0.length≤c0) (h:fluxionlaw03_few.f k l0=some r) :
  Calls Try.prog 14 #[.slice A0 l0.length c0] w fun e w'=>e=.returned (.bool r)∧Drawn0 w w':=by
 have HR0:=Aside0.mk hr0
 have HC0:=Aside0.mk hc0
 clear hr0 hc0
 have H:(fluxionlaw03_few.l0 k l0 0)=some r:=h
 clear h
 have H':=Aside0.mk H
 clear H
 go_enter Try.func14,Try.ntmps14
 go_wp2
 go_loopg [3] k (fun kq v3 w'=>∃ (x3_1:Int),v3=.int .i64 x3_1∧Aside0 (fluxionlaw03_few.l0 kq l0 x3_1=some r)∧Aside0 (kq≤k)∧Drawn0 w w')
 case atStart=>exact⟨(0),(by first | rfl | (simp; done) | (simp [*]; done)),H',⟨Nat.le_refl _⟩,by repeat (first | exact Drawn0.refl _ | apply Drawn0.step)⟩
 case round =>
  clear H'
  try clear c1
  obtain⟨x3_1,rfl,HA,HK1,⟨m1,rfl⟩⟩:=hrel
  cases gk with
  | zero=>exact absurd HA.out (by simp [fluxionlaw03_few.l0])
  | succ k1 =>
   have H:=HA.out
   clear HA
   simp only [fluxionlaw03_few.l0] at H
   by_cases c2:x3_1 < (l0.length:Int)
   ·
    rw [if_pos c2] at H
    have c2b0:decide (x3_1 < (l0.length:Int))=true:=decide_eq_true c2
    clear c2
    by_cases c3:0≤x3_1
    ·
     rw [if_pos c3] at H
     have c3b0:decide (0≤x3_1)=true:=decide_eq_true c3
     clear c3
     by_cases c4:((rd_L2 l0 x3_1).length:Int) > 60
     ·
      rw [if_pos c4] at H
      have c4b0:decide (60 < ((rd_L2 l0 x3_1).length:Int))=true:=decide_eq_true c4
      have c4b1:decide (60 < (rd_L2 l0 x3_1).length)=true:=decide_eq_true (by omega)
      clear c4
      obtain rfl:=Option.some.inj H
      have p373:0≤(x3_1:Int):=of_decide_eq_true (by first | (with_reducible assumption) | assumption)
      have q373:x3_1 < (l0.length:Int):=of_decide_eq_true (by first | (with_reducible assumption) | assumption)
      obtain⟨ad373,A373_0,c373_0,e373,hx373_0,hl373_0,hi373_0⟩:=at_L2 HR0.out x3_1 p373 q373
      cases e373
      have HR373_0:=Aside0.mk hi373_0
      have HC373_0:=Aside0.mk hl373_0
      clear hi373_0 hl373_0
      replace p373:=eq_true p373
      replace q373:=eq_true q373
      go_wp2
      go_ret
      exact⟨by first | rfl | (simp; done) | (simp [*]; done),by repeat (first | exact Drawn0.refl _ | apply Drawn0.step)⟩
     ·
      rw [if_neg c4] at H
      have c4b0:decide (60 < ((rd_L2 l0 x3_1).length:Int))=false:=decide_eq_false c4
      have c4b1:decide (60 < (rd_L2 l0 x3_1).length)=false:=decide_eq_false (by omega)
      clear c4
      have H':=Aside0.mk H
      clear H
      have p373:0≤(x3_1:Int):=of_decide_eq_true (by first | (with_reducible assumption) | assumption)
      have q373:x3_1 < (l0.length:Int):=of_decide_eq_true (by first | (with_reducible assumption) | assumption)
      obtain⟨ad373,A373_0,c373_0,e373,hx373_0,hl373_0,hi373_0⟩:=at_L2 HR0.out x3_1 p373 q373
      cases e373
      have HR373_0:=Aside0.mk hi373_0
      have HC373_0:=Aside0.mk hl373_0
      clear hi373_0 hl373_0
      replace p373:=eq_true p373
      replace q373:=eq_true q373
      go_wp2
      go_roundg k1
      case measure=>have:=HK1.out; omega
      case rel=>exact⟨(wrap64 (x3_1+1)),(by first | rfl | (simp; done) | (simp [*]; done)),H',⟨by have:=HK1.out; omega⟩,by repeat (first | exact Drawn0.refl _ | apply Drawn0.step)⟩
    ·
     rw [if_neg c3] at H
     exact absurd H (by simp)
   ·
    rw [if_neg c2] at H
    have c2b0:decide (x3_1 < (l0.length:Int))=false:=decide_eq_false c2
    clear c2
    obtain rfl:=Option.some.inj H
    go_wp2
    go_ret
    exact⟨by first | rfl | (simp; done) | (simp [*]; done),by repeat (first | exact Drawn0.refl _ | apply Drawn0.step)⟩
end Go.Proofs.Ytehghijlchpeaaa.L
end
