/- Part 5 of the proof of tensorLinearUpto_holds: what it uses, in build order. -/
import Derived.Test.YtehghijlchpeaaaT13
import Derived.ArgAppend
import Derived.Below
import Derived.BigQuiet
import Derived.Deep.AppendLies
import Derived.Deep.CutBlock
import Derived.Deep.DeepCutAuto
import Derived.Deep.Draws
import Derived.Deep.LoopGhost
import Derived.Deep.OwnRows
import Derived.Deep.QuietTactic
import Derived.Deep.RegionHeld3
import Derived.KernelRfl
import Derived.Laws.BitsLemmas
import Derived.Laws.BytesArg
import Derived.Laws.IdiomCopy
import Derived.Laws.MakeOwn
import Derived.Laws.OwnMore
import Derived.Laws.Rows
import Derived.Laws.Slices
import Derived.Lib.AppendStr
import Derived.Lib.ConvBytes
import Derived.Maps.AppendAt
import Derived.OrdersHeld
import Derived.OwnWalk
import Derived.RowKit
import Derived.RowKit3
import Derived.Tactics
import Derived.Test.YtehghijlchpeaaaProg
import Derived.WalkKit
import Derived.WideLaws
set_option maxHeartbeats 8000000
set_option maxRecDepth 100000
set_option linter.unusedVariables false
set_option linter.unusedSimpArgs false
set_option linter.unusedSectionVars false
section
namespace Go.Proofs.Ytehghijlchpeaaa.L
open Go.RowKit YtehghijlchpeaaaW.PrintWords YtehghijlchpeaaaW.PrintLast YtehghijlchpeaaaW.PrintMore
attribute [local go_sem] zb6 zb4 zca zcb zbY zbX zb5 zb7   -- for this text's walks alone
def errW:Option Int→Value
 | none=>.nilIface
 | some c=>.iface 0 (.int .i64 c)
theorem zbz:errW none=.nilIface:=rfl
theorem zbA (c:Int):errW (some c)=.iface 0 (.int .i64 c):=rfl
theorem info3:(Try.prog.info? 3).map (fun i=>(i.zero,i.size,i.bytes))=some (some (.int .i64 0),1,8):=by kernel_rfl
end Go.Proofs.Ytehghijlchpeaaa.L
end
section
namespace Go.Proofs.Ytehghijlchpeaaa.L
open Go.RowKit YtehghijlchpeaaaW.PrintWords YtehghijlchpeaaaW.PrintLast YtehghijlchpeaaaW.PrintMore
attribute [local go_sem] zb6 zb4 zca zcb zbY zbX zb5 zb7   -- for this text's walks alone
def nat_top.l0:Nat→List Int→Int→Option (Int)
 | 0,_,_=>none
 | k+1,x0,x3=>if x3 > 0 then (if 0≤(wrap64 (x3-1)) then (if (wrap64 (x3-1)) < (x0.length:Int) then (if (rd x0 (wrap64 (x3-1)))=0 then (nat_top.l0 k x0 (wrap64 (x3-1))) else (some x3)) else (none)) else (none)) else (some x3)
def nat_top.f (k:Nat) (l0:List Int):Option (Int):=nat_top.l0 k l0 (l0.length:Int)
theorem nat_top.mono_l:∀ k,(∀ y0 y1,LeO (nat_top.l0 k y0 y1) (nat_top.l0 (k+1) y0 y1))
 | 0=>fun _ _ r h=>by simp [nat_top.l0] at h
 | k+1=>by
  have ih0:=nat_top.mono_l k
  ·
   intro y0 y1
   unfold nat_top.l0
   repeat' first
   | (with_reducible exact ih0 _ _)
   | (with_reducible exact LeO.refl _)
   | (with_reducible exact LeO.none _)
   | (with_reducible refine LeO.ite ?_ ?_)
   | (with_reducible refine LeO.bind ?_ (fun _=>?_))
   | exact ih0 _ _
   | exact LeO.none _
   | refine LeO.ite ?_ ?_
   | refine LeO.bind ?_ (fun _=>?_)
theorem nat_top.mono:∀ a0 k,LeO (nat_top.f k a0) (nat_top.f (k+1) a0):=by
 intro a0 k
 have ih0:=nat_top.mono_l k
 unfold nat_top.f
 repeat' first
   | (with_reducible exact ih0 _ _)
   | (with_reducible exact LeO.refl _)
   | (with_reducible exact LeO.none _)
   | (with_reducible refine LeO.ite ?_ ?_)
   | (with_reducible refine LeO.bind ?_ (fun _=>?_))
   | exact ih0 _ _
   | exact LeO.none _
   | refine LeO.ite ?_ ?_
   | refine LeO.bind ?_ (fun _=>?_)
theorem nat_top.calls (k:Nat) (A0:Option Addr) (c0:Nat) (l0:List Int) (r:Int) (w:World) (hr0:Kd.C (Kd.int .u32) w A0 l0.length l0) (hc0:l0.length≤c0) (h:nat_top.f k l0=some r) :
  Calls Try.prog 95 #[.slice A0 l0.length c0] w fun e w'=>e=.returned (.int .i64 r)∧Drawn0 w w':=by
 have HR0:=Aside0.mk hr0
 have HC0:=Aside0.mk hc0
 clear hr0 hc0
 have H:(nat_top.l0 k l0 (l0.length:Int))=some r:=h
 clear h
 have H':=Aside0.mk H
 clear H
 go_enter Try.func95,Try.ntmps95
 go_wp2
 go_loopg [3] k (fun kq v3 w'=>∃ (x3_1:Int),v3=.int .i64 x3_1∧Aside0 (nat_top.l0 kq l0 x3_1=some r)∧Aside0 (kq≤k)∧Drawn0 w w')
 case atStart=>exact⟨((l0.length:Int)),(by first | rfl | (simp; done) | (simp [*]; done)),H',⟨Nat.le_refl _⟩,by repeat (first | exact Drawn0.refl _ | apply Drawn0.step)⟩
 case round =>
  clear H'
  obtain⟨x3_1,rfl,HA,HK1,⟨m1,rfl⟩⟩:=hrel
  cases gk with
  | zero=>exact absurd HA.out (by simp [nat_top.l0])
  | succ k1 =>
   have H:=HA.out
   clear HA
   simp only [nat_top.l0] at H
   by_cases c2:x3_1 > 0
   ·
    rw [if_pos c2] at H
    have c2b0:decide (0 < x3_1)=true:=decide_eq_true c2
    clear c2
    obtain⟨ji3,hji3⟩:∃ j_:Int,(wrap64 (x3_1-1))=j_:=⟨_,rfl⟩
    replace H:(if 0≤(ji3) then (if (ji3) < (l0.length:Int) then (if (rd l0 (ji3))=0 then (nat_top.l0 k1 l0 ji3) else (some x3_1)) else (none)) else (none))=some r:=by first | (rw [hji3] at H; exact H) | (simp only [hji3] at H ⊢; exact H)
    have hji3w:(IntKind.i64.wrap (x3_1-1))=ji3:=(zcj _).trans hji3
    by_cases c4:0≤(ji3)
    ·
     rw [if_pos c4] at H
     have c4b0:decide (0≤(ji3))=true:=decide_eq_true c4
     clear c4
     by_cases c5:(ji3) < (l0.length:Int)
     ·
      rw [if_pos c5] at H
      have c5b0:decide ((ji3) < (l0.length:Int))=true:=decide_eq_true c5
      clear c5
      by_cases c6:(rd l0 (ji3))=0
      ·
       rw [if_pos c6] at H
       have c6b0:((rd l0 (ji3)) == 0)=true:=beq_iff_eq.mpr c6
       have c6b1:((rd l0 (ji3)) != 0)=false:=bne_eq_false_iff_eq.mpr c6
       clear c6
       have H':=Aside0.mk H
       clear H
       have p101:0≤((ji3):Int):=of_decide_eq_true qs
       have q101:(ji3) < (l0.length:Int):=of_decide_eq_true qs
       obtain⟨ad101,e101,hx101_0⟩:=Kd.at_int HR0.out (ji3) p101 q101
       cases e101
       replace p101:=eq_true p101
       replace q101:=eq_true q101
       go_wp2
       go_roundg k1
       case measure=>have:=HK1.out; omega
       case rel=>exact⟨(ji3),(by first | rfl | (simp; done) | (simp only [← hji3]<;>(first | rfl | simp)) | (simp [*]; done)),H',⟨by have:=HK1.out; omega⟩,by repeat (first | exact Drawn0.refl _ | apply Drawn0.step)⟩
      ·
       rw [if_neg c6] at H
       have c6b0:((rd l0 (ji3)) == 0)=false:=beq_eq_false_iff_ne.mpr c6
       have c6b1:((rd l0 (ji3)) != 0)=true:=bne_iff_ne.mpr c6
       obtain rfl:=Option.some.inj H
       have p101:0≤((ji3):Int):=of_decide_eq_true qs
       have q101:(ji3) < (l0.length:Int):=of_decide_eq_true qs
       obtain⟨ad101,e101,hx101_0⟩:=Kd.at_int HR0.out (ji3) p101 q101
       cases e101
       replace p101:=eq_true p101
       replace q101:=eq_true q101
       go_wp2
       go_ret
       exact⟨by first | rfl | (simp; done) | (simp only [← hji3]<;>(first | rfl | simp)) | (simp [*]; done),by repeat (first | exact Drawn0.refl _ | apply Drawn0.step)⟩
     ·
      rw [if_neg c5] at H
      exact absurd H (by simp)
    ·
     rw [if_neg c4] at H
     exact absurd H (by simp)
   ·
    rw [if_neg c2] at H
    have c2b0:decide (0 < x3_1)=false:=decide_eq_false c2
    clear c2
    obtain rfl:=Option.some.inj H
    go_wp2
    go_ret
    exact⟨by first | rfl | (simp; done) | (simp [*]; done),by repeat (first | exact Drawn0.refl _ | apply Drawn0.step)⟩
def nat_limb.f (l0:List Int) (a1:Int):Option (Int):=if a1 < 0 then (some 0) else (if a1 ≥ (l0.length:Int) then (some 0) else (if 0≤a1 then (if a1 < (l0.length:Int) then (some (IntKind.u64.wrap (rd l0 a1))) else (none)) else (none)))
theorem nat_limb.calls (A0:Option Addr) (c0:Nat) (l0:List Int) (a1:Int) (r:Int) (w:World) (hr0:Kd.C (Kd.int .u32) w A0 l0.length l0) (hc0:l0.length≤c0) (h:nat_limb.f l0 a1=some r) :
  Calls Try.prog 118 #[.slice A0 l0.length c0,.int .i64 a1] w fun e w'=>e=.returned (.int .u64 r)∧Drawn0 w w':=by
 have HR0:=Aside0.mk hr0
 have HC0:=Aside0.mk hc0
 clear hr0 hc0
 have H:(if a1 < 0 then (some 0) else (if a1 ≥ (l0.length:Int) then (some 0) else (if 0≤a1 then (if a1 < (l0.length:Int) then (some (IntKind.u64.wrap (rd l0 a1))) else (none)) else (none))))=some r:=h
 clear h
 by_cases c3:a1 < 0
 ·
  rw [if_pos c3] at H
  have c3b0:decide (a1 < 0)=true:=decide_eq_true c3
  clear c3
  obtain rfl:=Option.some.inj H
  go_enter Try.func118,Try.ntmps118
  go_wp2
  go_ret
  exact⟨by first | rfl | (simp; done) | (simp [*]; done),by repeat (first | exact Drawn0.refl _ | apply Drawn0.step)⟩
 ·
  rw [if_neg c3] at H
  have c3b0:decide (a1 < 0)=false:=decide_eq_false c3
  clear c3
  by_cases c4:a1 ≥ (l0.length:Int)
  ·
   rw [if_pos c4] at H
   have c4b0:decide ((l0.length:Int)≤a1)=true:=decide_eq_true c4
   clear c4
   obtain rfl:=Option.some.inj H
   go_enter Try.func118,Try.ntmps118
   go_wp2
   go_ret
   exact⟨by first | rfl | (simp; done) | (simp [*]; done),by repeat (first | exact Drawn0.refl _ | apply Drawn0.step)⟩
  ·
   rw [if_neg c4] at H
   have c4b0:decide ((l0.length:Int)≤a1)=false:=decide_eq_false c4
   clear c4
   by_cases c5:0≤a1
   ·
    rw [if_pos c5] at H
    have c5b0:decide (0≤a1)=true:=decide_eq_true c5
    clear c5
    by_cases c6:a1 < (l0.length:Int)
    ·
     rw [if_pos c6] at H
     have c6b0:decide (a1 < (l0.length:Int))=true:=decide_eq_true c6
     clear c6
     obtain rfl:=Option.some.inj H
     have p102:0≤(a1:Int):=of_decide_eq_true qs
     have q102:a1 < (l0.length:Int):=of_decide_eq_true qs
     obtain⟨ad102,e102,hx102_0⟩:=Kd.at_int HR0.out a1 p102 q102
     cases e102
     replace p102:=eq_true p102
     replace q102:=eq_true q102
     go_enter Try.func118,Try.ntmps118
     go_wp2
     go_ret
     exact⟨by first | rfl | (simp; done) | (simp [*]; done),by repeat (first | exact Drawn0.refl _ | apply Drawn0.step)⟩
    ·
     rw [if_neg c6] at H
     exact absurd H (by simp)
   ·
    rw [if_neg c5] at H
    exact absurd H (by simp)
def fluxionref01_digit.f (l0:List Int) (a1:Int):Option (Int):=if a1 < (l0.length:Int) then (if 0≤a1 then (some (rd l0 a1)) else (none)) else (some 0)
theorem fluxionref01_digit.calls (A0:Option Addr) (c0:Nat) (l0:List Int) (a1:Int) (r:Int) (w:World) (hr0:Kd.C (Kd.int .i64) w A0 l0.length l0) (hc0:l0.length≤c0) (h:fluxionref01_digit.f l0 a1=some r) :
  Calls Try.prog 99 #[.slice A0 l0.length c0,.int .i64 a1] w fun e w'=>e=.returned (.int .i64 r)∧Drawn0 w w':=by
 have HR0:=Aside0.mk hr0
 have HC0:=Aside0.mk hc0
 clear hr0 hc0
 have H:(if a1 < (l0.length:Int) then (if 0≤a1 then (some (rd l0 a1)) else (none)) else (some 0))=some r:=h
 clear h
 by_cases c3:a1 < (l0.length:Int)
 ·
  rw [if_pos c3] at H
  have c3b0:decide (a1 < (l0.length:Int))=true:=decide_eq_true c3
  clear c3
  by_cases c4:0≤a1
  ·
   rw [if_pos c4] at H
   have c4b0:decide (0≤a1)=true:=decide_eq_true c4
   clear c4
   obtain rfl:=Option.some.inj H
   have p103:0≤(a1:Int):=of_decide_eq_true qs
   have q103:a1 < (l0.length:Int):=of_decide_eq_true qs
   obtain⟨ad103,e103,hx103_0⟩:=Kd.at_int HR0.out a1 p103 q103
   cases e103
   replace p103:=eq_true p103
   replace q103:=eq_true q103
   go_enter Try.func99,Try.ntmps99
   go_wp2
   go_ret
   exact⟨by first | rfl | (simp; done) | (simp [*]; done),by repeat (first | exact Drawn0.refl _ | apply Drawn0.step)⟩
  ·
   rw [if_neg c4] at H
   exact absurd H (by simp)
 ·
  rw [if_neg c3] at H
  have c3b0:decide (a1 < (l0.length:Int))=false:=decide_eq_false c3
  clear c3
  obtain rfl:=Option.some.inj H
  go_enter Try.func99,Try.ntmps99
  go_wp2
  go_ret
  exact⟨by first | rfl | (simp; done) | (simp [*]; done),by repeat (first | exact Drawn0.refl _ | apply Drawn0.step)⟩
mutual
def fluxionref01_Add.l0:Nat→List Int→List Int→List Int→Int→Int→Option (List Int)
 | 0,_,_,_,_,_=>none
 | k+1,x0,x1,x5,x6,x7=>if x7 < (x0.length:Int) then (fluxionref01_Add.j1 k x0 x1 x5 x6 x7 true) else (if x7 < (x1.length:Int) then (fluxionref01_Add.j1 k x0 x1 x5 x6 x7 true) else (fluxionref01_Add.j1 k x0 x1 x5 x6 x7 (decide (x6 > 0))))
def fluxionref01_Add.j1:Nat→List Int→List Int→List Int→Int→Int→Bool→Option (List Int)
 | 0,_,_,_,_,_,_=>none
 | k+1,x0,x1,x5,x6,x7,x22=>if x22=true then ((fluxionref01_digit.f x0 x7).bind fun t104=>((fluxionref01_digit.f x1 x7).bind fun t105=>(if x5.length < 17592186044416 then (fluxionref01_Add.l0 k x0 x1 (x5++[Int.tmod (wrap64 ((wrap64 (t104+t105))+x6)) 10000]) (wrap64 (Int.tdiv (wrap64 ((wrap64 (t104+t105))+x6)) 10000)) (wrap64 (x7+1))) else (none)))) else (some x5)
end
def fluxionref01_Add.f (k:Nat) (l0:List Int) (l1:List Int):Option (List Int):=fluxionref01_Add.l0 k l0 l1 ([]:List Int) 0 0
theorem fluxionref01_Add.calls (k:Nat) (A0:Option Addr) (c0:Nat) (l0:List Int) (A1:Option Addr) (c1:Nat) (l1:List Int) (r:List Int) (w:World) (hr0:Kd.C (Kd.int .i64) w A0 l0.length l0) (hc0:l0.length≤c0) (hr1:Kd.C (Kd.int .i64) w A1 l1.length l1) (hc1:l1.length≤c1) (h:fluxionref01_Add.f k l0 l1=some r) :
  Calls Try.prog 66 #[.slice A0 l0.length c0,.slice A1 l1.length c1] w fun e w'=>∃ v0_:Value,e=.returned (v0_)∧Kd.R (Kd.int .i64) 3 w' w.heap.size (fun _=>True) v0_ r∧Below w.heap.size w w':=by
 have HR0:=Aside0.mk hr0
 have HC0:=Aside0.mk hc0
 clear hr0 hc0
 have HR1:=Aside0.mk hr1
 have HC1:=Aside0.mk hc1
 clear hr1 hc1
 have HB:=Aside0.mk (Below.refl w.heap.size w)
 have H:(fluxionref01_Add.l0 k l0 l1 ([]:List Int) 0 0)=some r:=h
 clear h
 have H':=Aside0.mk H
 clear H
 go_enter Try.func66,Try.ntmps66
 go_wp2
 go_loopg [5,6,7] k (fun kq v5 v6 v7 w'=>∃ (x5_1:List Int) (x6_1:Int) (x7_1:Int),v6=.int .i64 x6_1∧v7=.int .i64 x7_1∧Aside0 (fluxionref01_Add.l0 kq l0 l1 x5_1 x6_1 x7_1=some r)∧Aside0 (kq≤k)∧Aside0 (Kd.R (Kd.int .i64) 3 w' w.heap.size (fun _=>True) v5 x5_1)∧Aside0 (Below w.heap.size w w'))
 case atStart=>exact⟨(([]:List Int)),(0),(0),(by first | rfl | (simp; done) | (simp [*]; done)),(by first | rfl | (simp; done) | (simp [*]; done)),H',⟨Nat.le_refl _⟩,⟨by first | exact Kd.R_nil _ _ _ _ _ | exact Kd.N_nil _ _ _ _ _ | exact Kd.V_nil _ _ _ _ _ | exact Kd.Q_nil _ _ _ _ _ | exact Kd.S_nil _ _ _ _ _⟩,⟨by repeat (first | (with_reducible first | exact HB.out | apply zbq | apply zbr | apply zbv) | exact HB.out)⟩⟩
 case round =>
  clear H'
  try clear c1
  try clear p2
  obtain⟨x5_1,x6_1,x7_1,rfl,rfl,HA,HK1,HO_5,HB⟩:=hrel
  cases gk with
  | zero=>exact absurd HA.out (by simp [fluxionref01_Add.l0])
  | succ k1 =>
   have H:=HA.out
   clear HA
   simp only [fluxionref01_Add.l0] at H
   have HC3:=Aside0.mk H
   clear H
   go_upto_region 4 with (fail)
   go_cut [22] (fun v22 wc=>∃ (kq:Nat) (x22_2:Bool),v22=.bool x22_2∧Aside0 (fluxionref01_Add.j1 kq l0 l1 x5_1 x6_1 x7_1 x22_2=some r)∧Aside0 (kq≤k1)∧Aside0 (Kd.R (Kd.int .i64) 3 wc w.heap.size (fun _=>True) u5 x5_1)∧Aside0 (Below w.heap.size w wc))
   case first =>
    have H:=HC3.out
    clear HC3
    by_cases c4:x7_1 < (l0.length:Int)
    ·
     rw [if_pos c4] at H
     have c4b0:decide (x7_1 < (l0.length:Int))=true:=decide_eq_true c4
     clear c4
     (first | rw [c4b0] | (simp only [zcj,zcz]; rw [c4b0]) | skip)
     have H':=Aside0.mk H
     clear H
     go_wp2
     go_meet
     case rel=>exact⟨_,(true),(by first | rfl | (simp; done) | (simp [*]; done)),H',⟨by have:=HK1.out; first | omega | exact Nat.le_refl _⟩,⟨by (with_reducible repeat (first | apply Kd.R_alloc | apply Kd.R_drewN | apply Kd.R_drew)); exact HO_5.out⟩,⟨by repeat (first | (with_reducible first | exact HB.out | apply zbq | apply zbr | apply zbv) | exact HB.out)⟩⟩
    ·
     rw [if_neg c4] at H
     have c4b0:decide (x7_1 < (l0.length:Int))=false:=decide_eq_false c4
     clear c4
     (first | rw [c4b0] | (simp only [zcj,zcz]; rw [c4b0]) | skip)
     by_cases c5:x7_1 < (l1.length:Int)
     ·
      rw [if_pos c5] at H
      have c5b0:decide (x7_1 < (l1.length:Int))=true:=decide_eq_true c5
      clear c5
      have H':=Aside0.mk H
      clear H
      go_wp2
      go_meet
      case rel=>exact⟨_,(true),(by first | rfl | (simp; done) | (simp [*]; done)),H',⟨by have:=HK1.out; first | omega | exact Nat.le_refl _⟩,⟨by (with_reducible repeat (first | apply Kd.R_alloc | apply Kd.R_drewN | apply Kd.R_drew)); exact HO_5.out⟩,⟨by repeat (first | (with_reducible first | exact HB.out | apply zbq | apply zbr | apply zbv) | exact HB.out)⟩⟩
     ·
      rw [if_neg c5] at H
      have c5b0:decide (x7_1 < (l1.length:Int))=false:=decide_eq_false c5
      clear c5
      have H':=Aside0.mk H
      clear H
      go_wp2
      go_meet
      case rel=>exact⟨_,(decide (x6_1 > 0)),(by first | rfl | (simp; done) | (simp [*]; done)),H',⟨by have:=HK1.out; first | omega | exact Nat.le_refl _⟩,⟨by (with_reducible repeat (first | apply Kd.R_alloc | apply Kd.R_drewN | apply Kd.R_drew)); exact HO_5.out⟩,⟨by repeat (first | (with_reducible first | exact HB.out | apply zbq | apply zbr | apply zbv) | exact HB.out)⟩⟩
   case rest =>
    clear HC3
    try clear c1
    try clear p2
    try clear c4
    try clear c4b0
    try clear c5
    try clear c5b0
    try clear p2
    obtain⟨kq,x22_2,rfl,HA,HJ2,HO_5,HB⟩:=hcut
    cases kq with
    | zero=>exact absurd HA.out (by simp [fluxionref01_Add.j1])
    | succ kj2 =>
     have H:=HA.out
     clear HA
     simp only [fluxionref01_Add.j1] at H
     by_cases c6:x22_2=true
     ·
      subst c6
      have H1:((fluxionref01_digit.f l0 x7_1).bind fun t104=>((fluxionref01_digit.f l1 x7_1).bind fun t105=>(if x5_1.length < 17592186044416 then (fluxionref01_Add.l0 kj2 l0 l1 (x5_1++[Int.tmod (wrap64 ((wrap64 (t104+t105))+x6_1)) 10000]) (wrap64 (Int.tdiv (wrap64 ((wrap64 (t104+t105))+x6_1)) 10000)) (wrap64 (x7_1+1))) else (none))))=some r:=by rw [if_pos rfl] at H; exact H
      clear H
      have H:=H1
      clear H1
      replace H:=Option.bind_eq_some_iff.mp H
      obtain⟨t104,A70,H⟩:=H
      replace H:((fluxionref01_digit.f l1 x7_1).bind fun t105=>(if x5_1.length < 17592186044416 then (fluxionref01_Add.l0 kj2 l0 l1 (x5_1++[Int.tmod (wrap64 ((wrap64 (t104+t105))+x6_1)) 10000]) (wrap64 (Int.tdiv (wrap64 ((wrap64 (t104+t105))+x6_1)) 10000)) (wrap64 (x7_1+1))) else (none)))=some r:=H
      have A7:=Aside0.mk A70
      clear A70
      replace H:=Option.bind_eq_some_iff.mp H
      obtain⟨t105,A80,H⟩:=H
      replace H:(if x5_1.length < 17592186044416 then (fluxionref01_Add.l0 kj2 l0 l1 (x5_1++[Int.tmod (wrap64 ((wrap64 (t104+t105))+x6_1)) 10000]) (wrap64 (Int.tdiv (wrap64 ((wrap64 (t104+t105))+x6_1)) 10000)) (wrap64 (x7_1+1))) else (none))=some r:=H
      have A8:=Aside0.mk A80
      clear A80
      by_cases c9:x5_1.length < 17592186044416
      ·
       rw [if_pos c9] at H
       have LMc9:=Aside0.mk c9
       clear c9
       obtain⟨y106,hy106⟩:∃ y_:List Int,y_=(x5_1++[Int.tmod (wrap64 ((wrap64 (t104+t105))+x6_1)) 10000]):=⟨_,rfl⟩
       replace H:(fluxionref01_Add.l0 kj2 l0 l1 y106 (wrap64 (Int.tdiv (wrap64 ((wrap64 (t104+t105))+x6_1)) 10000)) (wrap64 (x7_1+1)))=some r:=by first | (rw [hy106]; with_reducible exact H) | (have H2_:=(Option.bind_some _ _).symm.trans H; rw [hy106]; with_reducible exact H2_) | (have H2_:=(Option.bind_some _ _).symm.trans H; with_reducible exact H2_) | with_reducible exact H | (rw [hy106]; exact H) | exact H
       have Ny106:=Aside0.mk hy106
       clear hy106
       have H':=Aside0.mk H
       clear H
       go_wp2_with (first | ((with_reducible refine zbC (f:=99) rfl ?_); refine zbO (some 27) rfl rfl Try.func99 (by kernel_rfl) rfl #[.slice A0 l0.length c0,.int .i64 x7_1] rfl (by (try simp only [List.map_toArray,List.map_cons,List.map_nil]); first | done | rfl | (simp only [List.length_drop,List.length_take]; rfl)) ?_; (with_reducible refine(fluxionref01_digit.calls _ _ l0 x7_1 t104 _ ?side1 ?side2 A7.out).mono ?_); (case side1=>exact qc (Kd.C_below HR0.out HB.out)); (case side2=>exact HC0.out); rintro e w' ⟨rfl,⟨nd,rfl⟩⟩; refine⟨_,rfl,?_⟩) | ((with_reducible refine zbC (f:=99) rfl ?_); refine zbO (some 30) rfl rfl Try.func99 (by kernel_rfl) rfl #[.slice A1 l1.length c1,.int .i64 x7_1] rfl (by (try simp only [List.map_toArray,List.map_cons,List.map_nil]); first | done | rfl | (simp only [List.length_drop,List.length_take]; rfl)) ?_; (with_reducible refine(fluxionref01_digit.calls _ _ l1 x7_1 t105 _ ?side1 ?side2 A8.out).mono ?_); (case side1=>repeat (first | exact(Kd.C_below HR1.out (qb HB.out)) | (with_reducible refine Kd.C_alloc ?_ _) | (with_reducible refine Kd.C_drewN ?_ _) | (with_reducible refine Kd.C_drew ?_))); (case side2=>exact HC1.out); rintro e w' ⟨rfl,⟨nd,rfl⟩⟩; refine⟨_,rfl,?_⟩) | ((with_reducible refine zbV (b:=.append) (xs:=#[.tmp 34,.tmp 37]) rfl ?_); (try (refine gate_guard (by rfl) ?_; dsimp only)); at_builtin; refine Kd.R_append (Kd.int .i64) (w0:=w) w.heap.size rfl (.tmp 34) (.tmp 37) 34 3 (.int .i64 0) 8 rfl Try.underlying34 info3 rfl (by decide) (by omega) u5 x5_1 (Int.tmod (wrap64 ((wrap64 (t104+t105))+x6_1)) 10000) [.int .i64 (Int.tmod (wrap64 ((wrap64 (t104+t105))+x6_1)) 10000)] (fun _=>True) (fun _=>False) rfl rfl ?aP (fun _ hk=>hk.elim) ?aF ?aO ?aB ?aS ?aL ?_; (case aP=>exact rfl); (case aB=>exact(qb HB.out)); (case aF=>exact(fun _ _=>trivial)); (case aO=>exact(qr HO_5.out)); (case aS=>exact(zbs (qb HB.out))); (case aL=>have:=LMc9.out; omega); intro v107 w10 ho hb hg hat; rw [← Ny106.out] at ho; have n0_:=Aside0.mk (hb); have n1_:=Aside0.mk (ho); clear HB; clear HO_5; have HB:=n0_; have HO108:=n1_; clear n0_ n1_; clear ho hb hg hat))
       go_roundg kj2
       case measure=>have:=HK1.out; have:=HJ2.out; omega
       case rel=>exact⟨(y106),(wrap64 (Int.tdiv (wrap64 ((wrap64 (t104+t105))+x6_1)) 10000)),(wrap64 (x7_1+1)),(by first | rfl | (simp; done) | (simp [*]; done)),(by first | rfl | (simp; done) | (simp [*]; done)),H',⟨by have:=HK1.out; have:=HJ2.out; omega⟩,⟨by (with_reducible repeat (first | apply Kd.R_alloc | apply Kd.R_drewN | apply Kd.R_drew)); exact HO108.out⟩,⟨by repeat (first | (with_reducible first | exact HB.out | apply zbq | apply zbr | apply zbv) | exact HB.out)⟩⟩
      ·
       rw [if_neg c9] at H
       exact absurd H (by simp)
     ·
      replace c6:=Bool.eq_false_iff.mpr c6
      subst c6
      have H1:(some x5_1)=some r:=by rw [if_neg (show ¬ (false=true) by decide)] at H; exact H
      clear H
      have H:=H1
      clear H1
      obtain rfl:=Option.some.inj H
      go_wp2
      go_ret
      exact⟨_,by first | rfl | (simp [zbz,zbA]<;>rfl) | (simp [*,zbz,zbA]<;>rfl),by (with_reducible repeat (first | apply Kd.R_alloc | apply Kd.R_drewN | apply Kd.R_drew)); exact HO_5.out,by repeat (first | (with_reducible first | exact HB.out | apply zbq | apply zbr | apply zbv) | exact HB.out)⟩
def fluxionref01_trim.l0:Nat→List Int→Int→Option (List Int)
 | 0,_,_=>none
 | k+1,x0,x3=>if x3 > 0 then (if 0≤(wrap64 (x3-1)) then (if (wrap64 (x3-1)) < (x0.length:Int) then (if (rd x0 (wrap64 (x3-1)))=0 then (fluxionref01_trim.l0 k x0 (wrap64 (x3-1))) else (if 0≤x3 then (if x3≤(x0.length:Int) then (some (x0.take (x3:Int).toNat)) else (none)) else (none))) else (none)) else (none)) else (if 0≤x3 then (if x3≤(x0.length:Int) then (some (x0.take (x3:Int).toNat)) else (none)) else (none))
def fluxionref01_trim.f (k:Nat) (l0:List Int):Option (List Int):=fluxionref01_trim.l0 k l0 (l0.length:Int)
theorem fluxionref01_trim.calls (k:Nat) (P0_:Nat→Prop) (u9000_:Value) (l0:List Int) (r:List Int) (w0 w:World) (hB:Below w0.heap.size w0 w) (ho0:Kd.R (Kd.int .i64) 3 w w0.heap.size P0_ u9000_ l0) (h:fluxionref01_trim.f k l0=some r) :
  Calls Try.prog 100 #[u9000_] w fun e w'=>∃ v0_:Value,e=.returned (v0_)∧Kd.R (Kd.int .i64) 3 w' w0.heap.size (fun k_=>(P0_ k_∨w.heap.size≤k_)) v0_ r∧Below w0.heap.size w0 w'∧zcr w w' (fun k_=>P0_ k_):=by
 have HO0:=Aside0.mk (show Kd.R (Kd.int .i64) 3 w w0.heap.size (fun k_=>(P0_ k_∨w.heap.size≤k_)) u9000_ l0 from Kd.R_mono ho0 (fun k_ hk=>(.inl hk)))
 have HK:=Aside0.mk (zcr.refl w (fun k_=>P0_ k_))
 have HW0:=Aside0.mk hB.size
 have HB:=Aside0.mk hB
 clear hB
 have H:(fluxionref01_trim.l0 k l0 (l0.length:Int))=some r:=h
 clear h
 have H':=Aside0.mk H
 clear H
 obtain⟨Ao2,co2,eo2⟩:=Kd.R_slice HO0.out
 subst eo2
 go_enter Try.func100,Try.ntmps100
 go_wp2
 go_loopg [3] k (fun kq v3 w'=>∃ (x3_1:Int),v3=.int .i64 x3_1∧Aside0 (fluxionref01_trim.l0 kq l0 x3_1=some r)∧Aside0 (kq≤k)∧Aside0 (Kd.R (Kd.int .i64) 3 w' w0.heap.size (fun k_=>(P0_ k_∨w.heap.size≤k_)) (.slice Ao2 l0.length co2) l0)∧Aside0 (zcr w w' (fun k_=>P0_ k_))∧Aside0 (Below w0.heap.size w0 w'))
 case atStart=>exact⟨((l0.length:Int)),(by first | rfl | (simp; done) | (simp [*]; done)),H',⟨Nat.le_refl _⟩,⟨by (with_reducible repeat (first | apply Kd.R_alloc | apply Kd.R_drewN | apply Kd.R_drew)); exact HO0.out⟩,⟨by repeat (first | (with_reducible first | exact HK.out | apply zcr.alloc | apply zcr.drewN | apply zcr.drew) | exact HK.out)⟩,⟨by repeat (first | (with_reducible first | exact HB.out | apply zbq | apply zbr | apply zbv) | exact HB.out)⟩⟩
 case round =>
  clear H'
  try clear c1
  try clear p2
  obtain⟨x3_1,rfl,HA,HK1,HO_0,HK,HB⟩:=hrel
  cases gk with
  | zero=>exact absurd HA.out (by simp [fluxionref01_trim.l0])
  | succ k1 =>
   have H:=HA.out
   clear HA
   simp only [fluxionref01_trim.l0] at H
   by_cases c3:x3_1 > 0
   ·
    rw [if_pos c3] at H
    have c3b0:decide (0 < x3_1)=true:=decide_eq_true c3
    clear c3
    obtain⟨ji4,hji4⟩:∃ j_:Int,(wrap64 (x3_1-1))=j_:=⟨_,rfl⟩
    replace H:(if 0≤(ji4) then (if (ji4) < (l0.length:Int) then (if (rd l0 (ji4))=0 then (fluxionref01_trim.l0 k1 l0 ji4) else (if 0≤x3_1 then (if x3_1≤(l0.length:Int) then (some (l0.take (x3_1:Int).toNat)) else (none)) else (none))) else (none)) else (none))=some r:=by first | (rw [hji4] at H; exact H) | (simp only [hji4] at H ⊢; exact H)
    have hji4w:(IntKind.i64.wrap (x3_1-1))=ji4:=(zcj _).trans hji4
    by_cases c5:0≤(ji4)
    ·
     rw [if_pos c5] at H
     have c5b0:decide (0≤(ji4))=true:=decide_eq_true c5
     clear c5
     by_cases c6:(ji4) < (l0.length:Int)
     ·
      rw [if_pos c6] at H
      have c6b0:decide ((ji4) < (l0.length:Int))=true:=decide_eq_true c6
      clear c6
      by_cases c7:(rd l0 (ji4))=0
      ·
       rw [if_pos c7] at H
       have c7b0:((rd l0 (ji4)) == 0)=true:=beq_iff_eq.mpr c7
       have c7b1:((rd l0 (ji4)) != 0)=false:=bne_eq_false_iff_eq.mpr c7
       clear c7
       have H':=Aside0.mk H
       clear H
       have p109:0≤((ji4):Int):=of_decide_eq_true qs
       have q109:(ji4) < (l0.length:Int):=of_decide_eq_true qs
       obtain⟨ad109,e109,hx109_0⟩:=Kd.at_int (Kd.R_reads' HO_0.out).2.2 (ji4) p109 q109
       cases e109
       replace p109:=eq_true p109
       replace q109:=eq_true q109
       go_wp2
       go_roundg k1
       case measure=>have:=HK1.out; omega
       case rel=>exact⟨(ji4),(by first | rfl | (simp; done) | (simp only [← hji4]<;>(first | rfl | simp)) | (simp [*]; done)),H',⟨by have:=HK1.out; omega⟩,⟨by (with_reducible repeat (first | apply Kd.R_alloc | apply Kd.R_drewN | apply Kd.R_drew)); exact HO_0.out⟩,⟨by repeat (first | (with_reducible first | exact HK.out | apply zcr.alloc | apply zcr.drewN | apply zcr.drew) | exact HK.out)⟩,⟨by repeat (first | (with_reducible first | exact HB.out | apply zbq | apply zbr | apply zbv) | exact HB.out)⟩⟩
      ·
       rw [if_neg c7] at H
       have c7b0:((rd l0 (ji4)) == 0)=false:=beq_eq_false_iff_ne.mpr c7
       have c7b1:((rd l0 (ji4)) != 0)=true:=bne_iff_ne.mpr c7
       by_cases c8:0≤x3_1
       ·
        rw [if_pos c8] at H
        have c8b0:=eq_true c8
        have c8b1:decide (0≤x3_1)=true:=decide_eq_true c8
        clear c8
        by_cases c9:x3_1≤(l0.length:Int)
        ·
         rw [if_pos c9] at H
         have c9b0:=eq_true c9
         have c9b1:decide (x3_1≤(l0.length:Int))=true:=decide_eq_true c9
         clear c9
         obtain⟨y110,hy110⟩:∃ y_:List Int,y_=(l0.take (x3_1:Int).toNat):=⟨_,rfl⟩
         replace H:(some y110)=some r:=by first | (rw [hy110]; with_reducible exact H) | (have H2_:=(Option.bind_some _ _).symm.trans H; rw [hy110]; with_reducible exact H2_) | (have H2_:=(Option.bind_some _ _).symm.trans H; with_reducible exact H2_) | with_reducible exact H | (rw [hy110]; exact H) | exact H
         have Ny110:=Aside0.mk hy110
         clear hy110
         obtain rfl:=Option.some.inj H
         have p109:0≤((ji4):Int):=of_decide_eq_true qs
         have q109:(ji4) < (l0.length:Int):=of_decide_eq_true qs
         obtain⟨ad109,e109,hx109_0⟩:=Kd.at_int (Kd.R_reads' HO_0.out).2.2 (ji4) p109 q109
         cases e109
         replace p109:=eq_true p109
         replace q109:=eq_true q109
         have q10:(x3_1:Int)≤((l0.length:Int):Int):=of_decide_eq_true qs
         obtain⟨i010,hi010,_,hsz10,_⟩:=info_parts info3
         have hcut10:=cut_to (P:=Try.prog) 34 3 .i64 Try.underlying34 hi010 (some ad109) l0.length co2 x3_1 (of_decide_eq_true qs) q10 (Kd.R_reads' HO_0.out).2.1
         have hr10:=Kd.R_take (m:=(x3_1:Int).toNat) HO_0.out (by omega)
         have hy10:y110.length=(x3_1:Int).toNat:=(by rw [Ny110.out,List.length_take]; omega)
         rw [← Ny110.out] at hr10
         rw [← hy10] at hr10 hcut10
         clear hy10 hi010 hsz10 HO_0
         have HO112:=Aside0.mk hr10
         clear hr10
         replace q10:=eq_true q10
         go_wp2
         go_ret
         exact⟨_,by first | rfl | (simp [zbz,zbA]<;>rfl) | (simp only [← hji4]; first | rfl | (simp [zbz,zbA]<;>rfl)) | (simp [*,zbz,zbA]<;>rfl),by (with_reducible repeat (first | apply Kd.R_alloc | apply Kd.R_drewN | apply Kd.R_drew)); exact HO112.out,by repeat (first | (with_reducible first | exact HB.out | apply zbq | apply zbr | apply zbv) | exact HB.out),by repeat (first | (with_reducible first | exact HK.out | apply zcr.alloc | apply zcr.drewN | apply zcr.drew) | exact HK.out)⟩
        ·
         rw [if_neg c9] at H
         exact absurd H (by simp)
       ·
        rw [if_neg c8] at H
        exact absurd H (by simp)
     ·
      rw [if_neg c6] at H
      exact absurd H (by simp)
    ·
     rw [if_neg c5] at H
     exact absurd H (by simp)
   ·
    rw [if_neg c3] at H
    have c3b0:decide (0 < x3_1)=false:=decide_eq_false c3
    clear c3
    by_cases c11:0≤x3_1
    ·
     rw [if_pos c11] at H
     have c11b0:=eq_true c11
     have c11b1:decide (0≤x3_1)=true:=decide_eq_true c11
     clear c11
     by_cases c12:x3_1≤(l0.length:Int)
     ·
      rw [if_pos c12] at H
      have c12b0:=eq_true c12
      have c12b1:decide (x3_1≤(l0.length:Int))=true:=decide_eq_true c12
      clear c12
      obtain⟨y113,hy113⟩:∃ y_:List Int,y_=(l0.take (x3_1:Int).toNat):=⟨_,rfl⟩
      replace H:(some y113)=some r:=by first | (rw [hy113]; with_reducible exact H) | (have H2_:=(Option.bind_some _ _).symm.trans H; rw [hy113]; with_reducible exact H2_) | (have H2_:=(Option.bind_some _ _).symm.trans H; with_reducible exact H2_) | with_reducible exact H | (rw [hy113]; exact H) | exact H
      have Ny113:=Aside0.mk hy113
      clear hy113
      obtain rfl:=Option.some.inj H
      have q13:(x3_1:Int)≤((l0.length:Int):Int):=of_decide_eq_true qs
      obtain⟨i013,hi013,_,hsz13,_⟩:=info_parts info3
      have hcut13:=cut_to (P:=Try.prog) 34 3 .i64 Try.underlying34 hi013 Ao2 l0.length co2 x3_1 (of_decide_eq_true qs) q13 (Kd.R_reads' HO_0.out).2.1
      have hr13:=Kd.R_take (m:=(x3_1:Int).toNat) HO_0.out (by omega)
      have hy13:y113.length=(x3_1:Int).toNat:=(by rw [Ny113.out,List.length_take]; omega)
      rw [← Ny113.out] at hr13
      rw [← hy13] at hr13 hcut13
      clear hy13 hi013 hsz13 HO_0
      have HO115:=Aside0.mk hr13
      clear hr13
      replace q13:=eq_true q13
      go_wp2
      go_ret
      exact⟨_,by first | rfl | (simp [zbz,zbA]<;>rfl) | (simp [*,zbz,zbA]<;>rfl),by (with_reducible repeat (first | apply Kd.R_alloc | apply Kd.R_drewN | apply Kd.R_drew)); exact HO115.out,by repeat (first | (with_reducible first | exact HB.out | apply zbq | apply zbr | apply zbv) | exact HB.out),by repeat (first | (with_reducible first | exact HK.out | apply zcr.alloc | apply zcr.drewN | apply zcr.drew) | exact HK.out)⟩
     ·
      rw [if_neg c12] at H
      exact absurd H (by simp)
    ·
     rw [if_neg c11] at H
     exact absurd H (by simp)
def fluxionref01_Times.l0:Nat→List Int→Int→List Int→Int→Int→Option (List Int)
 | 0,_,_,_,_,_=>none
 | k+1,x0,x1,x5,x6,x7=>if x7 < (x0.length:Int) then ((fluxionref01_digit.f x0 x7).bind fun t116=>(if x5.length < 17592186044416 then (fluxionref01_Times.l0 k x0 x1 (x5++[Int.tmod (wrap64 ((wrap64 (t116*x1))+x6)) 10000]) (wrap64 (Int.tdiv (wrap64 ((wrap64 (t116*x1))+x6)) 10000)) (wrap64 (x7+1))) else (none))) else (if x6 > 0 then ((fluxionref01_digit.f x0 x7).bind fun t120=>(if x5.length < 17592186044416 then (fluxionref01_Times.l0 k x0 x1 (x5++[Int.tmod (wrap64 ((wrap64 (t120*x1))+x6)) 10000]) (wrap64 (Int.tdiv (wrap64 ((wrap64 (t120*x1))+x6)) 10000)) (wrap64 (x7+1))) else (none))) else ((fluxionref01_trim.f k x5).bind fun t124=>(some t124)))
def fluxionref01_Times.f (k:Nat) (l0:List Int) (a1:Int):Option (List Int):=fluxionref01_Times.l0 k l0 a1 ([]:List Int) 0 0
theorem fluxionref01_Times.calls (k:Nat) (A0:Option Addr) (c0:Nat) (l0:List Int) (a1:Int) (r:List Int) (w:World) (hr0:Kd.C (Kd.int .i64) w A0 l0.length l0) (hc0:l0.length≤c0) (h:fluxionref01_Times.f k l0 a1=some r) :
  Calls Try.prog 67 #[.slice A0 l0.length c0,.int .i64 a1] w fun e w'=>∃ v0_:Value,e=.returned (v0_)∧Kd.R (Kd.int .i64) 3 w' w.heap.size (fun _=>True) v0_ r∧Below w.heap.size w w':=by
 have HR0:=Aside0.mk hr0
 have HC0:=Aside0.mk hc0
 clear hr0 hc0
 have HB:=Aside0.mk (Below.refl w.heap.size w)
 have H:(fluxionref01_Times.l0 k l0 a1 ([]:List Int) 0 0)=some r:=h
 clear h
 have H':=Aside0.mk H
 clear H
 go_enter Try.func67,Try.ntmps67
 go_wp2
 go_loopg [5,6,7] k (fun kq v5 v6 v7 w'=>∃ (x5_1:List Int) (x6_1:Int) (x7_1:Int),v6=.int .i64 x6_1∧v7=.int .i64 x7_1∧Aside0 (fluxionref01_Times.l0 kq l0 a1 x5_1 x6_1 x7_1=some r)∧Aside0 (kq≤k)∧Aside0 (Kd.R (Kd.int .i64) 3 w' w.heap.size (fun _=>True) v5 x5_1)∧Aside0 (Below w.heap.size w w'))
 case atStart=>exact⟨(([]:List Int)),(0),(0),(by first | rfl | (simp; done) | (simp [*]; done)),(by first | rfl | (simp; done) | (simp [*]; done)),H',⟨Nat.le_refl _⟩,⟨by first | exact Kd.R_nil _ _ _ _ _ | exact Kd.N_nil _ _ _ _ _ | exact Kd.V_nil _ _ _ _ _ | exact Kd.Q_nil _ _ _ _ _ | exact Kd.S_nil _ _ _ _ _⟩,⟨by repeat (first | (with_reducible first | exact HB.out | apply zbq | apply zbr | apply zbv) | exact HB.out)⟩⟩
 case round =>
  clear H'
  try clear p2
  obtain⟨x5_1,x6_1,x7_1,rfl,rfl,HA,HK1,HO_5,HB⟩:=hrel
  cases gk with
  | zero=>exact absurd HA.out (by simp [fluxionref01_Times.l0])
  | succ k1 =>
   have H:=HA.out
   clear HA
   simp only [fluxionref01_Times.l0] at H
   by_cases c3:x7_1 < (l0.length:Int)
   ·
    rw [if_pos c3] at H
    have c3b0:decide (x7_1 < (l0.length:Int))=true:=decide_eq_true c3
    clear c3
    replace H:=Option.bind_eq_some_iff.mp H
    obtain⟨t116,A40,H⟩:=H
    replace H:(if x5_1.length < 17592186044416 then (fluxionref01_Times.l0 k1 l0 a1 (x5_1++[Int.tmod (wrap64 ((wrap64 (t116*a1))+x6_1)) 10000]) (wrap64 (Int.tdiv (wrap64 ((wrap64 (t116*a1))+x6_1)) 10000)) (wrap64 (x7_1+1))) else (none))=some r:=H
    have A4:=Aside0.mk A40
    clear A40
    by_cases c5:x5_1.length < 17592186044416
    ·
     rw [if_pos c5] at H
     have LMc5:=Aside0.mk c5
     clear c5
     obtain⟨y117,hy117⟩:∃ y_:List Int,y_=(x5_1++[Int.tmod (wrap64 ((wrap64 (t116*a1))+x6_1)) 10000]):=⟨_,rfl⟩
     replace H:(fluxionref01_Times.l0 k1 l0 a1 y117 (wrap64 (Int.tdiv (wrap64 ((wrap64 (t116*a1))+x6_1)) 10000)) (wrap64 (x7_1+1)))=some r:=by first | (rw [hy117]; with_reducible exact H) | (have H2_:=(Option.bind_some _ _).symm.trans H; rw [hy117]; with_reducible exact H2_) | (have H2_:=(Option.bind_some _ _).symm.trans H; with_reducible exact H2_) | with_reducible exact H | (rw [hy117]; exact H) | exact H
     have Ny117:=Aside0.mk hy117
     clear hy117
     have H':=Aside0.mk H
     clear H
     go_wp2_with (first | ((with_reducible refine zbC (f:=99) rfl ?_); refine zbO (some 21) rfl rfl Try.func99 (by kernel_rfl) rfl #[.slice A0 l0.length c0,.int .i64 x7_1] rfl (by (try simp only [List.map_toArray,List.map_cons,List.map_nil]); first | done | rfl | (simp only [List.length_drop,List.length_take]; rfl)) ?_; (with_reducible refine(fluxionref01_digit.calls _ _ l0 x7_1 t116 _ ?side1 ?side2 A4.out).mono ?_); (case side1=>exact qc (Kd.C_below HR0.out HB.out)); (case side2=>exact HC0.out); rintro e w' ⟨rfl,⟨nd,rfl⟩⟩; refine⟨_,rfl,?_⟩) | ((with_reducible refine zbV (b:=.append) (xs:=#[.tmp 26,.tmp 29]) rfl ?_); at_builtin; refine Kd.R_append (Kd.int .i64) (w0:=w) w.heap.size rfl (.tmp 26) (.tmp 29) 34 3 (.int .i64 0) 8 rfl Try.underlying34 info3 rfl (by decide) (by omega) u5 x5_1 (Int.tmod (wrap64 ((wrap64 (t116*a1))+x6_1)) 10000) [.int .i64 (Int.tmod (wrap64 ((wrap64 (t116*a1))+x6_1)) 10000)] (fun _=>True) (fun _=>False) rfl rfl ?aP (fun _ hk=>hk.elim) ?aF ?aO ?aB ?aS ?aL ?_; (case aP=>exact rfl); (case aB=>exact(qb HB.out)); (case aF=>exact(fun _ _=>trivial)); (case aO=>exact(qr HO_5.out)); (case aS=>exact(zbs (qb HB.out))); (case aL=>have:=LMc5.out; omega); intro v118 w6 ho hb hg hat; rw [← Ny117.out] at ho; have n0_:=Aside0.mk (hb); have n1_:=Aside0.mk (ho); clear HB; clear HO_5; have HB:=n0_; have HO119:=n1_; clear n0_ n1_; clear ho hb hg hat))
     go_roundg k1
     case measure=>have:=HK1.out; omega
     case rel=>exact⟨(y117),(wrap64 (Int.tdiv (wrap64 ((wrap64 (t116*a1))+x6_1)) 10000)),(wrap64 (x7_1+1)),(by first | rfl | (simp; done) | (simp [*]; done)),(by first | rfl | (simp; done) | (simp [*]; done)),H',⟨by have:=HK1.out; omega⟩,⟨by (with_reducible repeat (first | apply Kd.R_alloc | apply Kd.R_drewN | apply Kd.R_drew)); exact HO119.out⟩,⟨by repeat (first | (with_reducible first | exact HB.out | apply zbq | apply zbr | apply zbv) | exact HB.out)⟩⟩
    ·
     rw [if_neg c5] at H
     exact absurd H (by simp)
   ·
    rw [if_neg c3] at H
    have c3b0:decide (x7_1 < (l0.length:Int))=false:=decide_eq_false c3
    clear c3
    by_cases c7:x6_1 > 0
    ·
     rw [if_pos c7] at H
     have c7b0:decide (0 < x6_1)=true:=decide_eq_true c7
     clear c7
     replace H:=Option.bind_eq_some_iff.mp H
     obtain⟨t120,A80,H⟩:=H
     replace H:(if x5_1.length < 17592186044416 then (fluxionref01_Times.l0 k1 l0 a1 (x5_1++[Int.tmod (wrap64 ((wrap64 (t120*a1))+x6_1)) 10000]) (wrap64 (Int.tdiv (wrap64 ((wrap64 (t120*a1))+x6_1)) 10000)) (wrap64 (x7_1+1))) else (none))=some r:=H
     have A8:=Aside0.mk A80
     clear A80
     by_cases c9:x5_1.length < 17592186044416
     ·
      rw [if_pos c9] at H
      have LMc9:=Aside0.mk c9
      clear c9
      obtain⟨y121,hy121⟩:∃ y_:List Int,y_=(x5_1++[Int.tmod (wrap64 ((wrap64 (t120*a1))+x6_1)) 10000]):=⟨_,rfl⟩
      replace H:(fluxionref01_Times.l0 k1 l0 a1 y121 (wrap64 (Int.tdiv (wrap64 ((wrap64 (t120*a1))+x6_1)) 10000)) (wrap64 (x7_1+1)))=some r:=by first | (rw [hy121]; with_reducible exact H) | (have H2_:=(Option.bind_some _ _).symm.trans H; rw [hy121]; with_reducible exact H2_) | (have H2_:=(Option.bind_some _ _).symm.trans H; with_reducible exact H2_) | with_reducible exact H | (rw [hy121]; exact H) | exact H
      have Ny121:=Aside0.mk hy121
      clear hy121
      have H':=Aside0.mk H
      clear H
      go_wp2_with (first | ((with_reducible refine zbC (f:=99) rfl ?_); refine zbO (some 21) rfl rfl Try.func99 (by kernel_rfl) rfl #[.slice A0 l0.length c0,.int .i64 x7_1] rfl (by (try simp only [List.map_toArray,List.map_cons,List.map_nil]); first | done | rfl | (simp only [List.length_drop,List.length_take]; rfl)) ?_; (with_reducible refine(fluxionref01_digit.calls _ _ l0 x7_1 t120 _ ?side1 ?side2 A8.out).mono ?_); (case side1=>exact qc (Kd.C_below HR0.out HB.out)); (case side2=>exact HC0.out); rintro e w' ⟨rfl,⟨nd,rfl⟩⟩; refine⟨_,rfl,?_⟩) | ((with_reducible refine zbV (b:=.append) (xs:=#[.tmp 26,.tmp 29]) rfl ?_); at_builtin; refine Kd.R_append (Kd.int .i64) (w0:=w) w.heap.size rfl (.tmp 26) (.tmp 29) 34 3 (.int .i64 0) 8 rfl Try.underlying34 info3 rfl (by decide) (by omega) u5 x5_1 (Int.tmod (wrap64 ((wrap64 (t120*a1))+x6_1)) 10000) [.int .i64 (Int.tmod (wrap64 ((wrap64 (t120*a1))+x6_1)) 10000)] (fun _=>True) (fun _=>False) rfl rfl ?aP (fun _ hk=>hk.elim) ?aF ?aO ?aB ?aS ?aL ?_; (case aP=>exact rfl); (case aB=>exact(qb HB.out)); (case aF=>exact(fun _ _=>trivial)); (case aO=>exact(qr HO_5.out)); (case aS=>exact(zbs (qb HB.out))); (case aL=>have:=LMc9.out; omega); intro v122 w10 ho hb hg hat; rw [← Ny121.out] at ho; have n0_:=Aside0.mk (hb); have n1_:=Aside0.mk (ho); clear HB; clear HO_5; have HB:=n0_; have HO123:=n1_; clear n0_ n1_; clear ho hb hg hat))
      go_roundg k1
      case measure=>have:=HK1.out; omega
      case rel=>exact⟨(y121),(wrap64 (Int.tdiv (wrap64 ((wrap64 (t120*a1))+x6_1)) 10000)),(wrap64 (x7_1+1)),(by first | rfl | (simp; done) | (simp [*]; done)),(by first | rfl | (simp; done) | (simp [*]; done)),H',⟨by have:=HK1.out; omega⟩,⟨by (with_reducible repeat (first | apply Kd.R_alloc | apply Kd.R_drewN | apply Kd.R_drew)); exact HO123.out⟩,⟨by repeat (first | (with_reducible first | exact HB.out | apply zbq | apply zbr | apply zbv) | exact HB.out)⟩⟩
     ·
      rw [if_neg c9] at H
      exact absurd H (by simp)
    ·
     rw [if_neg c7] at H
     have c7b0:decide (0 < x6_1)=false:=decide_eq_false c7
     clear c7
     replace H:=Option.bind_eq_some_iff.mp H
     obtain⟨t124,A110,H⟩:=H
     replace H:(some t124)=some r:=H
     have A11:=Aside0.mk A110
     clear A110
     obtain rfl:=Option.some.inj H
     obtain⟨Ao12,co12,eo12⟩:=Kd.R_slice HO_5.out
     subst eo12
     go_wp2_with (first | ((with_reducible refine zbC (f:=100) rfl ?_); refine zbO (some 34) rfl rfl Try.func100 (by kernel_rfl) rfl #[.slice Ao12 x5_1.length co12] rfl (by (try simp only [List.map_toArray,List.map_cons,List.map_nil]); first | done | rfl | (simp only [List.length_drop,List.length_take]; rfl)) ?_; (with_reducible refine(fluxionref01_trim.calls k1 (fun k_=>some k_=(.slice Ao12 x5_1.length co12:Value).ownBlock) (.slice Ao12 x5_1.length co12) x5_1 t124 w _ ?side1 ?side2 A11.out).mono ?_); (case side1=>repeat (first | (with_reducible first | exact HB.out | apply zbq | apply zbr | apply zbv) | exact HB.out)); (case side2=>exact Kd.R_tight rfl HO_5.out); rintro e w13 ⟨v125,rfl,ho0,hb,hkp⟩; refine⟨_,rfl,?_⟩; have n0_:=Aside0.mk (Kd.R_mono (ok':=fun k_=>True) ho0 (fun k_ hk_=>trivial)); have n1_:=Aside0.mk (hb); clear HB; clear HO_5; have HO126:=n0_; have HB:=n1_; clear n0_ n1_; (try clear hb); (try clear hkp); (try clear ho0)))
     go_ret
     exact⟨_,by first | rfl | (simp [zbz,zbA]<;>rfl) | (simp [*,zbz,zbA]<;>rfl),by (with_reducible repeat (first | apply Kd.R_alloc | apply Kd.R_drewN | apply Kd.R_drew)); exact HO126.out,by repeat (first | (with_reducible first | exact HB.out | apply zbq | apply zbr | apply zbv) | exact HB.out)⟩
def fluxionref01_Small.l0:Nat→Int→List Int→Option (List Int)
 | 0,_,_=>none
 | k+1,x0,x3=>if x0 > 0 then (if x3.length < 17592186044416 then (fluxionref01_Small.l0 k (wrap64 (Int.tdiv x0 10000)) (x3++[Int.tmod x0 10000])) else (none)) else (some x3)
def fluxionref01_Small.f (k:Nat) (a0:Int):Option (List Int):=fluxionref01_Small.l0 k a0 ([]:List Int)
theorem fluxionref01_Small.calls (k:Nat) (a0:Int) (r:List Int) (w:World) (h:fluxionref01_Small.f k a0=some r) :
  Calls Try.prog 68 #[.int .i64 a0] w fun e w'=>∃ v0_:Value,e=.returned (v0_)∧Kd.R (Kd.int .i64) 3 w' w.heap.size (fun _=>True) v0_ r∧Below w.heap.size w w':=by
 have HB:=Aside0.mk (Below.refl w.heap.size w)
 have H:(fluxionref01_Small.l0 k a0 ([]:List Int))=some r:=h
 clear h
 have H':=Aside0.mk H
 clear H
 go_enter Try.func68,Try.ntmps68
 go_wp2
 go_loopg [0,3] k (fun kq v0 v3 w'=>∃ (x0_1:Int) (x3_1:List Int),v0=.int .i64 x0_1∧Aside0 (fluxionref01_Small.l0 kq x0_1 x3_1=some r)∧Aside0 (kq≤k)∧Aside0 (Kd.R (Kd.int .i64) 3 w' w.heap.size (fun _=>True) v3 x3_1)∧Aside0 (Below w.heap.size w w'))
 case atStart=>exact⟨(a0),(([]:List Int)),(by first | rfl | (simp; done) | (simp [*]; done)),H',⟨Nat.le_refl _⟩,⟨by first | exact Kd.R_nil _ _ _ _ _ | exact Kd.N_nil _ _ _ _ _ | exact Kd.V_nil _ _ _ _ _ | exact Kd.Q_nil _ _ _ _ _ | exact Kd.S_nil _ _ _ _ _⟩,⟨by repeat (first | (with_reducible first | exact HB.out | apply zbq | apply zbr | apply zbv) | exact HB.out)⟩⟩
 case round =>
  clear H'
  obtain⟨x0_1,x3_1,rfl,HA,HK1,HO_3,HB⟩:=hrel
  cases gk with
  | zero=>exact absurd HA.out (by simp [fluxionref01_Small.l0])
  | succ k1 =>
   have H:=HA.out
   clear HA
   simp only [fluxionref01_Small.l0] at H
   by_cases c2:x0_1 > 0
   ·
    rw [if_pos c2] at H
    have c2b0:decide (0 < x0_1)=true:=decide_eq_true c2
    clear c2
    by_cases c3:x3_1.length < 17592186044416
    ·
     rw [if_pos c3] at H
     have LMc3:=Aside0.mk c3
     clear c3
     obtain⟨y127,hy127⟩:∃ y_:List Int,y_=(x3_1++[Int.tmod x0_1 10000]):=⟨_,rfl⟩
     replace H:(fluxionref01_Small.l0 k1 (wrap64 (Int.tdiv x0_1 10000)) y127)=some r:=by first | (rw [hy127]; with_reducible exact H) | (have H2_:=(Option.bind_some _ _).symm.trans H; rw [hy127]; with_reducible exact H2_) | (have H2_:=(Option.bind_some _ _).symm.trans H; with_reducible exact H2_) | with_reducible exact H | (rw [hy127]; exact H) | exact H
     have Ny127:=Aside0.mk hy127
     clear hy127
     have H':=Aside0.mk H
     clear H
     go_wp2_with (first | ((with_reducible refine zbV (b:=.append) (xs:=#[.tmp 6,.tmp 9]) rfl ?_); at_builtin; refine Kd.R_append (Kd.int .i64) (w0:=w) w.heap.size rfl (.tmp 6) (.tmp 9) 34 3 (.int .i64 0) 8 rfl Try.underlying34 info3 rfl (by decide) (by omega) u3 x3_1 (Int.tmod x0_1 10000) [.int .i64 (Int.tmod x0_1 10000)] (fun _=>True) (fun _=>False) rfl rfl ?aP (fun _ hk=>hk.elim) ?aF ?aO ?aB ?aS ?aL ?_; (case aP=>exact rfl); (case aB=>exact(qb HB.out)); (case aF=>exact(fun _ _=>trivial)); (case aO=>exact(qr HO_3.out)); (case aS=>exact(zbs (qb HB.out))); (case aL=>have:=LMc3.out; omega); intro v128 w4 ho hb hg hat; rw [← Ny127.out] at ho; have n0_:=Aside0.mk (hb); have n1_:=Aside0.mk (ho); clear HB; clear HO_3; have HB:=n0_; have HO129:=n1_; clear n0_ n1_; clear ho hb hg hat))
     go_roundg k1
     case measure=>have:=HK1.out; omega
     case rel=>exact⟨(wrap64 (Int.tdiv x0_1 10000)),(y127),(by first | rfl | (simp; done) | (simp [*]; done)),H',⟨by have:=HK1.out; omega⟩,⟨by (with_reducible repeat (first | apply Kd.R_alloc | apply Kd.R_drewN | apply Kd.R_drew)); exact HO129.out⟩,⟨by repeat (first | (with_reducible first | exact HB.out | apply zbq | apply zbr | apply zbv) | exact HB.out)⟩⟩
    ·
     rw [if_neg c3] at H
     exact absurd H (by simp)
   ·
    rw [if_neg c2] at H
    have c2b0:decide (0 < x0_1)=false:=decide_eq_false c2
    clear c2
    obtain rfl:=Option.some.inj H
    go_wp2
    go_ret
    exact⟨_,by first | rfl | (simp [zbz,zbA]<;>rfl) | (simp [*,zbz,zbA]<;>rfl),by (with_reducible repeat (first | apply Kd.R_alloc | apply Kd.R_drewN | apply Kd.R_drew)); exact HO_3.out,by repeat (first | (with_reducible first | exact HB.out | apply zbq | apply zbr | apply zbv) | exact HB.out)⟩
end Go.Proofs.Ytehghijlchpeaaa.L
end
section
namespace Go.Proofs.Ytehghijlchpeaaa.L
open Go.RowKit YtehghijlchpeaaaW.PrintWords YtehghijlchpeaaaW.PrintLast YtehghijlchpeaaaW.PrintMore
attribute [local go_sem] zb6 zb4 zca zcb zbY zbX zb5 zb7   -- for this text's walks alone
def fluxionref01_Of.l0:Nat→List Int→List Int→Int→Option (List Int)
 | 0,_,_,_=>none
 | k+1,x0,x3,x4=>if x4 ≥ 0 then ((fluxionref01_Times.f k x3 65536).bind fun t130=>((fluxionref01_Times.f k t130 65536).bind fun t133=>(if 0≤x4 then (if x4 < (x0.length:Int) then ((fluxionref01_Small.f k (wrap64 (rd x0 x4))).bind fun t137=>((fluxionref01_Add.f k t133 t137).bind fun t140=>(fluxionref01_Of.l0 k x0 t140 (wrap64 (x4-1))))) else (none)) else (none)))) else (some x3)
def fluxionref01_Of.f (k:Nat) (l0:List Int):Option (List Int):=fluxionref01_Of.l0 k l0 ([]:List Int) (wrap64 ((l0.length:Int)-1))
def fluxionref01_Of.T5:Bool×List (List Nat×List Nat):=(true,[([],[]),([0],[0]),([1,1],[1]),([],[]),([],[]),([3,4],[3,4]),([5],[5]),([6],[6]),([7,2],[7]),([2,8,8],[2,8]),([9,9,0,1,2,3,4,5,6,7,8,9],[0,9])])
def fluxionref01_Of.B5:List Nat:=[0,1,3,0,0,24,56,120,255,511,1023]
theorem fluxionref01_Of.tab5:rtab .any (opsOf Try.f24 5)=fluxionref01_Of.T5:=by kernel_rfl
theorem fluxionref01_Of.bits5:waitsOk fluxionref01_Of.T5.2 fluxionref01_Of.B5=true:=by kernel_rfl
theorem fluxionref01_Of.calls (k:Nat) (A0:Option Addr) (c0:Nat) (l0:List Int) (r:List Int) (w:World) (hr0:Kd.C (Kd.int .u32) w A0 l0.length l0) (hc0:l0.length≤c0) (h:fluxionref01_Of.f k l0=some r) :
  Calls Try.prog 24 #[.slice A0 l0.length c0] w fun e w'=>∃ v0_:Value,e=.returned (v0_)∧Kd.R (Kd.int .i64) 3 w' w.heap.size (fun _=>True) v0_ r∧Below w.heap.size w w':=by
 have HR0:=Aside0.mk hr0
 have HC0:=Aside0.mk hc0
 clear hr0 hc0
 have HB:=Aside0.mk (Below.refl w.heap.size w)
 have H:(fluxionref01_Of.l0 k l0 ([]:List Int) (wrap64 ((l0.length:Int)-1)))=some r:=h
 clear h
 have H':=Aside0.mk H
 clear H
 go_enter Try.func24,Try.ntmps24
 go_wp2
 go_loopg [3,4] k (fun kq v3 v4 w'=>∃ (x3_1:List Int) (x4_1:Int),v4=.int .i64 x4_1∧Aside0 (fluxionref01_Of.l0 kq l0 x3_1 x4_1=some r)∧Aside0 (kq≤k)∧Aside0 (Kd.R (Kd.int .i64) 3 w' w.heap.size (fun _=>True) v3 x3_1)∧Aside0 (Below w.heap.size w w'))
 case atStart=>exact⟨(([]:List Int)),(wrap64 ((l0.length:Int)-1)),(by first | rfl | (simp; done) | (simp [*]; done)),H',⟨Nat.le_refl _⟩,⟨by first | exact Kd.R_nil _ _ _ _ _ | exact Kd.N_nil _ _ _ _ _ | exact Kd.V_nil _ _ _ _ _ | exact Kd.Q_nil _ _ _ _ _ | exact Kd.S_nil _ _ _ _ _⟩,⟨by repeat (first | (with_reducible first | exact HB.out | apply zbq | apply zbr | apply zbv) | exact HB.out)⟩⟩
 case round =>
  clear H'
  obtain⟨x3_1,x4_1,rfl,HA,HK1,HO_3,HB⟩:=hrel
  cases gk with
  | zero=>exact absurd HA.out (by simp [fluxionref01_Of.l0])
  | succ k1 =>
   have H:=HA.out
   clear HA
   simp only [fluxionref01_Of.l0] at H
   by_cases c2:x4_1 ≥ 0
   ·
    rw [if_pos c2] at H
    have c2b0:decide (0≤x4_1)=true:=decide_eq_true c2
    clear c2
    replace H:=Option.bind_eq_some_iff.mp H
    obtain⟨t130,A30,H⟩:=H
    replace H:((fluxionref01_Times.f k1 t130 65536).bind fun t133=>(if 0≤x4_1 then (if x4_1 < (l0.length:Int) then ((fluxionref01_Small.f k1 (wrap64 (rd l0 x4_1))).bind fun t137=>((fluxionref01_Add.f k1 t133 t137).bind fun t140=>(fluxionref01_Of.l0 k1 l0 t140 (wrap64 (x4_1-1))))) else (none)) else (none)))=some r:=H
    have A3:=Aside0.mk A30
    clear A30
    replace H:=Option.bind_eq_some_iff.mp H
    obtain⟨t133,A40,H⟩:=H
    replace H:(if 0≤x4_1 then (if x4_1 < (l0.length:Int) then ((fluxionref01_Small.f k1 (wrap64 (rd l0 x4_1))).bind fun t137=>((fluxionref01_Add.f k1 t133 t137).bind fun t140=>(fluxionref01_Of.l0 k1 l0 t140 (wrap64 (x4_1-1))))) else (none)) else (none))=some r:=H
    have A4:=Aside0.mk A40
    clear A40
    by_cases c5:0≤x4_1
    ·
     rw [if_pos c5] at H
     have c5b0:decide (0≤x4_1)=true:=decide_eq_true c5
     clear c5
     by_cases c6:x4_1 < (l0.length:Int)
     ·
      rw [if_pos c6] at H
      have c6b0:decide (x4_1 < (l0.length:Int))=true:=decide_eq_true c6
      clear c6
      replace H:=Option.bind_eq_some_iff.mp H
      obtain⟨t137,A70,H⟩:=H
      replace H:((fluxionref01_Add.f k1 t133 t137).bind fun t140=>(fluxionref01_Of.l0 k1 l0 t140 (wrap64 (x4_1-1))))=some r:=H
      have A7:=Aside0.mk A70
      clear A70
      replace H:=Option.bind_eq_some_iff.mp H
      obtain⟨t140,A80,H⟩:=H
      replace H:(fluxionref01_Of.l0 k1 l0 t140 (wrap64 (x4_1-1)))=some r:=H
      have A8:=Aside0.mk A80
      clear A80
      have H':=Aside0.mk H
      clear H
      try go_wp2
      have n0_:=Aside0.mk (Kd.R_drew HO_3.out)
      have n1_:=Aside0.mk (zbv HB.out)
      clear HO_3
      clear HB
      have HO_3:=n0_
      have HB:=n1_
      clear n0_ n1_
      have p136:0≤(x4_1:Int):=of_decide_eq_true qs
      have q136:x4_1 < (l0.length:Int):=of_decide_eq_true qs
      obtain⟨ad136,e136,hx136_0⟩:=Kd.at_int HR0.out x4_1 p136 q136
      have hw136_0:=hx136_0
      cases e136
      replace hx136_0:=(HB.out.cell (World.block_lt_of_cell? w _ hx136_0)).trans hx136_0
      replace p136:=eq_true p136
      replace q136:=eq_true q136
      obtain⟨Ao10,co10,eo10⟩:=Kd.R_slice HO_3.out
      (first | subst eo10 | (injection eo10 with f1_ f2_ f3_; have f4_:=f1_.symm; have f5_:=f3_.symm; clear f1_ f2_ f3_; subst f4_; subst f5_))
      refine start_ (n:=11) (S:=fun w'=>w'.cell? (ad136.add (x4_1).toNat)=some (.int .u32 (rd l0 x4_1))) (ds:=[]) #[zf,zf,zf,zf,zf,zf,zf,zf,zf,zf,zf] (by kernel_rfl) rfl rfl (((HB.out.cell (World.block_lt_of_cell? w _ hw136_0)).trans hw136_0)) (fun hHeld=>?_); refine with_tabW fluxionref01_Of.tab5 fluxionref01_Of.bits5 (fun HT_ HW_=>?_)
      generalize wr.drew=w9 at HO_3 HB hx136_0 hHeld ⊢
      refine qpT 0 (some 12) ?_
      refine qpT 3 (some 15) ?_
      refine qpT 4 (some 16) ?_
      refine qpT 5 (some 17) ?_
      refine qtT 6 (some 18) ?_
      refine qpT 7 (some 19) ?_
      refine qoT 1 (some 13) (fun K hK=>?_)
      refine goes_ Try.func67 (by kernel_rfl) rfl #[.slice Ao10 x3_1.length co10,.int .i64 65536] (by rfl) rfl rfl (by (try simp only [List.map_toArray,List.map_cons,List.map_nil]); first | done | rfl | (simp only [List.length_drop,List.length_take]; rfl)) ?_
      with_reducible refine(fluxionref01_Times.calls k1 _ _ x3_1 65536 t130 _ ?side1 ?side2 A3.out).mono ?_
      (case side1=>exact qc (Kd.R_reads' HO_3.out).2.2)
      (case side2=>exact(Kd.R_reads' HO_3.out).2.1)
      rintro e w11 ⟨v131,rfl,ho0,hb⟩
      refine⟨_,rfl,?_⟩
      have n0_:=Aside0.mk (Kd.R_elder' (qr HO_3.out) (Kd.R_base ho0) hb)
      have n1_:=Aside0.mk (Kd.R_lower (Kd.R_new' ho0 (Kd.R_lt (qr HO_3.out))) (zbs (qb HB.out)))
      have n2_:=Aside0.mk (zbp (qb HB.out) hb)
      clear HO_3
      clear HB
      have HO_3:=n0_
      have HO132:=n1_
      have HB:=n2_
      clear n0_ n1_ n2_
      (try clear hb)
      (try clear hb2)
      (try clear hk)
      (try clear hi)
      (try clear ho0)
      obtain⟨Ao12,co12,eo12⟩:=Kd.R_slice HO132.out
      (first | subst eo12 | (injection eo12 with f1_ f2_ f3_; have f4_:=f1_.symm; have f5_:=f3_.symm; clear f1_ f2_ f3_; subst f4_; subst f5_))
      refine hK.out _ _ (((HB.out.cell (World.block_lt_of_cell? w _ hw136_0)).trans hw136_0)) (fun hHeld=>?_)
      clear hK K
      refine qn ?_
      refine qoT 2 (some 14) (fun K hK=>?_)
      refine goes_ Try.func67 (by kernel_rfl) rfl #[.slice Ao12 t130.length co12,.int .i64 65536] (by rfl) rfl rfl (by (try simp only [List.map_toArray,List.map_cons,List.map_nil]); first | done | rfl | (simp only [List.length_drop,List.length_take]; rfl)) ?_
      with_reducible refine(fluxionref01_Times.calls k1 _ _ t130 65536 t133 _ ?side1 ?side2 A4.out).mono ?_
      (case side1=>exact qc (Kd.R_reads' HO132.out).2.2)
      (case side2=>exact(Kd.R_reads' HO132.out).2.1)
      rintro e w13 ⟨v134,rfl,ho0,hb⟩
      refine⟨_,rfl,?_⟩
      have n0_:=Aside0.mk (Kd.R_elder' (qr HO_3.out) (Kd.R_base ho0) hb)
      have n1_:=Aside0.mk (Kd.R_elder' (qr HO132.out) (Kd.R_base ho0) hb)
      have n2_:=Aside0.mk (Kd.R_lower (Kd.R_new' (Kd.R_new' ho0 (Kd.R_lt (qr HO_3.out))) (Kd.R_lt (qr HO132.out))) (zbs (qb HB.out)))
      have n3_:=Aside0.mk (zbp (qb HB.out) hb)
      clear HO_3
      clear HO132
      clear HB
      have HO_3:=n0_
      have HO132:=n1_
      have HO135:=n2_
      have HB:=n3_
      clear n0_ n1_ n2_ n3_
      (try clear hb)
      (try clear hb2)
      (try clear hk)
      (try clear hi)
      (try clear ho0)
      refine hK.out _ _ (((HB.out.cell (World.block_lt_of_cell? w _ hw136_0)).trans hw136_0)) (fun hHeld=>?_)
      clear hK K
      refine qn ?_
      refine qoT 8 (some 20) (fun K hK=>?_)
      refine goes_ Try.func68 (by kernel_rfl) rfl #[.int .i64 (wrap64 (rd l0 x4_1))] (by rfl) rfl rfl (by (try simp only [List.map_toArray,List.map_cons,List.map_nil]); first | done | rfl | (simp only [List.length_drop,List.length_take]; rfl)) ?_
      with_reducible refine(fluxionref01_Small.calls k1 (wrap64 (rd l0 x4_1)) t137 _ A7.out).mono ?_
      rintro e w14 ⟨v138,rfl,ho0,hb⟩
      refine⟨_,rfl,?_⟩
      have n0_:=Aside0.mk (Kd.R_elder' (qr HO_3.out) (Kd.R_base ho0) hb)
      have n1_:=Aside0.mk (Kd.R_elder' (qr HO132.out) (Kd.R_base ho0) hb)
      have n2_:=Aside0.mk (Kd.R_elder' (qr HO135.out) (Kd.R_base ho0) hb)
      have n3_:=Aside0.mk (Kd.R_lower (Kd.R_new' (Kd.R_new' (Kd.R_new' ho0 (Kd.R_lt (qr HO_3.out))) (Kd.R_lt (qr HO132.out))) (Kd.R_lt (qr HO135.out))) (zbs (qb HB.out)))
      have n4_:=Aside0.mk (zbp (qb HB.out) hb)
      clear HO_3
      clear HO132
      clear HO135
      clear HB
      have HO_3:=n0_
      have HO132:=n1_
      have HO135:=n2_
      have HO139:=n3_
      have HB:=n4_
      clear n0_ n1_ n2_ n3_ n4_
      (try clear hb)
      (try clear hb2)
      (try clear hk)
      (try clear hi)
      (try clear ho0)
      obtain⟨Ao15,co15,eo15⟩:=Kd.R_slice HO135.out
      (first | subst eo15 | (injection eo15 with f1_ f2_ f3_; have f4_:=f1_.symm; have f5_:=f3_.symm; clear f1_ f2_ f3_; subst f4_; subst f5_))
      obtain⟨Ao16,co16,eo16⟩:=Kd.R_slice HO139.out
      (first | subst eo16 | (injection eo16 with f1_ f2_ f3_; have f4_:=f1_.symm; have f5_:=f3_.symm; clear f1_ f2_ f3_; subst f4_; subst f5_))
      refine hK.out _ _ (((HB.out.cell (World.block_lt_of_cell? w _ hw136_0)).trans hw136_0)) (fun hHeld=>?_)
      clear hK K
      refine qn ?_
      refine qoT 9 (some 21) (fun K hK=>?_)
      refine goes_ Try.func66 (by kernel_rfl) rfl #[.slice Ao15 t133.length co15,.slice Ao16 t137.length co16] (by rfl) rfl rfl (by (try simp only [List.map_toArray,List.map_cons,List.map_nil]); first | done | rfl | (simp only [List.length_drop,List.length_take]; rfl)) ?_
      with_reducible refine(fluxionref01_Add.calls k1 _ _ t133 _ _ t137 t140 _ ?side1 ?side2 ?side3 ?side4 A8.out).mono ?_
      (case side1=>exact qc (Kd.R_reads' HO135.out).2.2)
      (case side2=>exact(Kd.R_reads' HO135.out).2.1)
      (case side3=>exact qc (Kd.R_reads' HO139.out).2.2)
      (case side4=>exact(Kd.R_reads' HO139.out).2.1)
      rintro e w17 ⟨v141,rfl,ho0,hb⟩
      refine⟨_,rfl,?_⟩
      have n0_:=Aside0.mk (Kd.R_elder' (qr HO_3.out) (Kd.R_base ho0) hb)
      have n1_:=Aside0.mk (Kd.R_elder' (qr HO132.out) (Kd.R_base ho0) hb)
      have n2_:=Aside0.mk (Kd.R_elder' (qr HO135.out) (Kd.R_base ho0) hb)
      have n3_:=Aside0.mk (Kd.R_elder' (qr HO139.out) (Kd.R_base ho0) hb)
      have n4_:=Aside0.mk (Kd.R_lower (Kd.R_new' (Kd.R_new' (Kd.R_new' (Kd.R_new' ho0 (Kd.R_lt (qr HO_3.out))) (Kd.R_lt (qr HO132.out))) (Kd.R_lt (qr HO135.out))) (Kd.R_lt (qr HO139.out))) (zbs (qb HB.out)))
      have n5_:=Aside0.mk (zbp (qb HB.out) hb)
      clear HO_3
      clear HO132
      clear HO135
      clear HO139
      clear HB
      have HO_3:=n0_
      have HO132:=n1_
      have HO135:=n2_
      have HO139:=n3_
      have HO142:=n4_
      have HB:=n5_
      clear n0_ n1_ n2_ n3_ n4_ n5_
      (try clear hb)
      (try clear hb2)
      (try clear hk)
      (try clear hi)
      (try clear ho0)
      refine hK.out _ _ (((HB.out.cell (World.block_lt_of_cell? w _ hw136_0)).trans hw136_0)) (fun hHeld=>?_)
      clear hK K
      refine qn ?_
      refine qpT 10 (some 3) ?_
      refine done_ (done_of HT_.out (by kernel_rfl)) ?_
      try go_wp2
      go_roundg k1
      case measure=>have:=HK1.out; omega
      case rel=>exact⟨(t140),(wrap64 (x4_1-1)),(by first | rfl | (simp; done) | (simp [*]; done)),H',⟨by have:=HK1.out; omega⟩,⟨by (with_reducible repeat (first | apply Kd.R_alloc | apply Kd.R_drewN | apply Kd.R_drew)); exact Kd.R_mono HO142.out (fun _ hk=>trivial)⟩,⟨by repeat (first | (with_reducible first | exact HB.out | apply zbq | apply zbr | apply zbv) | exact HB.out)⟩⟩
     ·
      rw [if_neg c6] at H
      exact absurd H (by simp)
    ·
     rw [if_neg c5] at H
     exact absurd H (by simp)
   ·
    rw [if_neg c2] at H
    have c2b0:decide (0≤x4_1)=false:=decide_eq_false c2
    clear c2
    obtain rfl:=Option.some.inj H
    go_wp2
    go_ret
    exact⟨_,by first | rfl | (simp [zbz,zbA]<;>rfl) | (simp [*,zbz,zbA]<;>rfl),by (with_reducible repeat (first | apply Kd.R_alloc | apply Kd.R_drewN | apply Kd.R_drew)); exact HO_3.out,by repeat (first | (with_reducible first | exact HB.out | apply zbq | apply zbr | apply zbv) | exact HB.out)⟩
def fluxionref01_Cmp.l0:Nat→List Int→List Int→Int→Option (Int)
 | 0,_,_,_=>none
 | k+1,x0,x1,x5=>if x5 ≥ 0 then (if 0≤x5 then (if x5 < (x0.length:Int) then (if x5 < (x1.length:Int) then (if (rd x0 x5) < (rd x1 x5) then (some (-1)) else (if (rd x0 x5) > (rd x1 x5) then (some 1) else (fluxionref01_Cmp.l0 k x0 x1 (wrap64 (x5-1))))) else (none)) else (none)) else (none)) else (some 0)
def fluxionref01_Cmp.f (k:Nat) (l0:List Int) (l1:List Int):Option (Int):=if (l0.length:Int)=(l1.length:Int) then (fluxionref01_Cmp.l0 k l0 l1 (wrap64 ((l0.length:Int)-1))) else (if (l0.length:Int) < (l1.length:Int) then (some (-1)) else (some 1))
theorem fluxionref01_Cmp.calls (k:Nat) (A0:Option Addr) (c0:Nat) (l0:List Int) (A1:Option Addr) (c1:Nat) (l1:List Int) (r:Int) (w:World) (hr0:Kd.C (Kd.int .i64) w A0 l0.length l0) (hc0:l0.length≤c0) (hr1:Kd.C (Kd.int .i64) w A1 l1.length l1) (hc1:l1.length≤c1) (h:fluxionref01_Cmp.f k l0 l1=some r) :
  Calls Try.prog 74 #[.slice A0 l0.length c0,.slice A1 l1.length c1] w fun e w'=>e=.returned (.int .i64 r)∧Drawn0 w w':=by
 have HR0:=Aside0.mk hr0
 have HC0:=Aside0.mk hc0
 clear hr0 hc0
 have HR1:=Aside0.mk hr1
 have HC1:=Aside0.mk hc1
 clear hr1 hc1
 have H:(if (l0.length:Int)=(l1.length:Int) then (fluxionref01_Cmp.l0 k l0 l1 (wrap64 ((l0.length:Int)-1))) else (if (l0.length:Int) < (l1.length:Int) then (some (-1)) else (some 1)))=some r:=h
 clear h
 by_cases c3:(l0.length:Int)=(l1.length:Int)
 ·
  rw [if_pos c3] at H
  have c3b0:((l0.length:Int) == (l1.length:Int))=true:=beq_iff_eq.mpr c3
  have c3b1:((l0.length:Int) != (l1.length:Int))=false:=bne_eq_false_iff_eq.mpr c3
  have c3b2:(l0.length == l1.length)=true:=by first | simpa using c3 | (simp at c3 ⊢; omega)
  clear c3
  have H':=Aside0.mk H
  clear H
  go_enter Try.func74,Try.ntmps74
  go_wp2
  repeat (go_quiet (fail); try go_wp2)
  go_loopg [5] k (fun kq v5 w'=>∃ (x5_1:Int),v5=.int .i64 x5_1∧Aside0 (fluxionref01_Cmp.l0 kq l0 l1 x5_1=some r)∧Aside0 (kq≤k)∧Drawn0 w w')
  case atStart=>exact⟨(wrap64 ((l0.length:Int)-1)),(by first | rfl | (simp; done) | (simp [*]; done)),H',⟨Nat.le_refl _⟩,by repeat (first | exact Drawn0.refl _ | apply Drawn0.step)⟩
  case round =>
   clear H'
   try clear c1
   try clear p2
   try clear c3
   try clear c3b0
   try clear c3b1
   try clear c3b2
   obtain⟨x5_1,rfl,HA,HK1,⟨m1,rfl⟩⟩:=hrel
   cases gk with
   | zero=>exact absurd HA.out (by simp [fluxionref01_Cmp.l0])
   | succ k1 =>
    have H:=HA.out
    clear HA
    simp only [fluxionref01_Cmp.l0] at H
    by_cases c4:x5_1 ≥ 0
    ·
     rw [if_pos c4] at H
     have c4b0:decide (0≤x5_1)=true:=decide_eq_true c4
     clear c4
     by_cases c5:0≤x5_1
     ·
      rw [if_pos c5] at H
      have c5b0:decide (0≤x5_1)=true:=decide_eq_true c5
      clear c5
      by_cases c6:x5_1 < (l0.length:Int)
      ·
       rw [if_pos c6] at H
       have c6b0:decide (x5_1 < (l0.length:Int))=true:=decide_eq_true c6
       clear c6
       by_cases c7:x5_1 < (l1.length:Int)
       ·
        rw [if_pos c7] at H
        have c7b0:decide (x5_1 < (l1.length:Int))=true:=decide_eq_true c7
        clear c7
        by_cases c8:(rd l0 x5_1) < (rd l1 x5_1)
        ·
         rw [if_pos c8] at H
         have c8b0:decide ((rd l0 x5_1) < (rd l1 x5_1))=true:=decide_eq_true c8
         clear c8
         obtain rfl:=Option.some.inj H
         have p143:0≤(x5_1:Int):=of_decide_eq_true qs
         have q143:x5_1 < (l0.length:Int):=of_decide_eq_true qs
         obtain⟨ad143,e143,hx143_0⟩:=Kd.at_int HR0.out x5_1 p143 q143
         cases e143
         replace p143:=eq_true p143
         replace q143:=eq_true q143
         have p144:0≤(x5_1:Int):=of_decide_eq_true qs
         have q144:x5_1 < (l1.length:Int):=of_decide_eq_true qs
         obtain⟨ad144,e144,hx144_0⟩:=Kd.at_int HR1.out x5_1 p144 q144
         cases e144
         replace p144:=eq_true p144
         replace q144:=eq_true q144
         go_wp2
         repeat (go_quiet (fail); try go_wp2)
         go_ret
         exact⟨by first | rfl | (simp; done) | (simp [*]; done),by repeat (first | exact Drawn0.refl _ | apply Drawn0.step)⟩
        ·
         rw [if_neg c8] at H
         have c8b0:decide ((rd l0 x5_1) < (rd l1 x5_1))=false:=decide_eq_false c8
         clear c8
         by_cases c9:(rd l0 x5_1) > (rd l1 x5_1)
         ·
          rw [if_pos c9] at H
          have c9b0:decide ((rd l1 x5_1) < (rd l0 x5_1))=true:=decide_eq_true c9
          clear c9
          obtain rfl:=Option.some.inj H
          have p143:0≤(x5_1:Int):=of_decide_eq_true qs
          have q143:x5_1 < (l0.length:Int):=of_decide_eq_true qs
          obtain⟨ad143,e143,hx143_0⟩:=Kd.at_int HR0.out x5_1 p143 q143
          cases e143
          replace p143:=eq_true p143
          replace q143:=eq_true q143
          have p144:0≤(x5_1:Int):=of_decide_eq_true qs
          have q144:x5_1 < (l1.length:Int):=of_decide_eq_true qs
          obtain⟨ad144,e144,hx144_0⟩:=Kd.at_int HR1.out x5_1 p144 q144
          cases e144
          replace p144:=eq_true p144
          replace q144:=eq_true q144
          have p145:0≤(x5_1:Int):=of_decide_eq_true qs
          have q145:x5_1 < (l0.length:Int):=of_decide_eq_true qs
          obtain⟨ad145,e145,hx145_0⟩:=Kd.at_int HR0.out x5_1 p145 q145
          obtain rfl:ad143=ad145:=(by injection e145)
          replace p145:=eq_true p145
          replace q145:=eq_true q145
          have p146:0≤(x5_1:Int):=of_decide_eq_true qs
          have q146:x5_1 < (l1.length:Int):=of_decide_eq_true qs
          obtain⟨ad146,e146,hx146_0⟩:=Kd.at_int HR1.out x5_1 p146 q146
          obtain rfl:ad144=ad146:=(by injection e146)
          replace p146:=eq_true p146
          replace q146:=eq_true q146
          go_wp2
          repeat (go_quiet (fail); try go_wp2)
          go_ret
          exact⟨by first | rfl | (simp; done) | (simp [*]; done),by repeat (first | exact Drawn0.refl _ | apply Drawn0.step)⟩
         ·
          rw [if_neg c9] at H
          have c9b0:decide ((rd l1 x5_1) < (rd l0 x5_1))=false:=decide_eq_false c9
          clear c9
          have H':=Aside0.mk H
          clear H
          have p143:0≤(x5_1:Int):=of_decide_eq_true qs
          have q143:x5_1 < (l0.length:Int):=of_decide_eq_true qs
          obtain⟨ad143,e143,hx143_0⟩:=Kd.at_int HR0.out x5_1 p143 q143
          cases e143
          replace p143:=eq_true p143
          replace q143:=eq_true q143
          have p144:0≤(x5_1:Int):=of_decide_eq_true qs
          have q144:x5_1 < (l1.length:Int):=of_decide_eq_true qs
          obtain⟨ad144,e144,hx144_0⟩:=Kd.at_int HR1.out x5_1 p144 q144
          cases e144
          replace p144:=eq_true p144
          replace q144:=eq_true q144
          have p145:0≤(x5_1:Int):=of_decide_eq_true qs
          have q145:x5_1 < (l0.length:Int):=of_decide_eq_true qs
          obtain⟨ad145,e145,hx145_0⟩:=Kd.at_int HR0.out x5_1 p145 q145
          obtain rfl:ad143=ad145:=(by injection e145)
          replace p145:=eq_true p145
          replace q145:=eq_true q145
          have p146:0≤(x5_1:Int):=of_decide_eq_true qs
          have q146:x5_1 < (l1.length:Int):=of_decide_eq_true qs
          obtain⟨ad146,e146,hx146_0⟩:=Kd.at_int HR1.out x5_1 p146 q146
          obtain rfl:ad144=ad146:=(by injection e146)
          replace p146:=eq_true p146
          replace q146:=eq_true q146
          go_wp2
          repeat (go_quiet (fail); try go_wp2)
          go_roundg k1
          case measure=>have:=HK1.out; omega
          case rel=>exact⟨(wrap64 (x5_1-1)),(by first | rfl | (simp; done) | (simp [*]; done)),H',⟨by have:=HK1.out; omega⟩,by repeat (first | exact Drawn0.refl _ | apply Drawn0.step)⟩
       ·
        rw [if_neg c7] at H
        exact absurd H (by simp)
      ·
       rw [if_neg c6] at H
       exact absurd H (by simp)
     ·
      rw [if_neg c5] at H
      exact absurd H (by simp)
    ·
     rw [if_neg c4] at H
     have c4b0:decide (0≤x5_1)=false:=decide_eq_false c4
     clear c4
     obtain rfl:=Option.some.inj H
     go_wp2
     repeat (go_quiet (fail); try go_wp2)
     go_ret
     exact⟨by first | rfl | (simp; done) | (simp [*]; done),by repeat (first | exact Drawn0.refl _ | apply Drawn0.step)⟩
 ·
  rw [if_neg c3] at H
  have c3b0:((l0.length:Int) == (l1.length:Int))=false:=beq_eq_false_iff_ne.mpr c3
  have c3b1:((l0.length:Int) != (l1.length:Int))=true:=bne_iff_ne.mpr c3
  have c3b2:(l0.length == l1.length)=false:=by first | simpa using c3 | (simp at c3 ⊢; omega)
  by_cases c10:(l0.length:Int) < (l1.length:Int)
  ·
   rw [if_pos c10] at H
   have c10b0:decide ((l0.length:Int) < (l1.length:Int))=true:=decide_eq_true c10
   have c10b1:decide (l0.length < l1.length)=true:=decide_eq_true (Int.ofNat_lt.mp c10)
   clear c10
   obtain rfl:=Option.some.inj H
   go_enter Try.func74,Try.ntmps74
   go_wp2
   repeat (go_quiet (fail); try go_wp2)
   go_ret
   exact⟨by first | rfl | (simp; done) | (simp [*]; done),by repeat (first | exact Drawn0.refl _ | apply Drawn0.step)⟩
  ·
   rw [if_neg c10] at H
   have c10b0:decide ((l0.length:Int) < (l1.length:Int))=false:=decide_eq_false c10
   have c10b1:decide (l0.length < l1.length)=false:=decide_eq_false (fun h=>c10 (Int.ofNat_lt.mpr h))
   clear c10
   obtain rfl:=Option.some.inj H
   go_enter Try.func74,Try.ntmps74
   go_wp2
   repeat (go_quiet (fail); try go_wp2)
   go_ret
   exact⟨by first | rfl | (simp; done) | (simp [*]; done),by repeat (first | exact Drawn0.refl _ | apply Drawn0.step)⟩
def fluxionref01_Canonical.f (l0:List Int):Option (Bool):=if (l0.length:Int)=0 then (some true) else (if 0≤(wrap64 ((l0.length:Int)-1)) then (if (wrap64 ((l0.length:Int)-1)) < (l0.length:Int) then (some ((rd l0 (wrap64 ((l0.length:Int)-1))) != 0)) else (none)) else (none))
theorem fluxionref01_Canonical.calls (A0:Option Addr) (c0:Nat) (l0:List Int) (r:Bool) (w:World) (hr0:Kd.C (Kd.int .u32) w A0 l0.length l0) (hc0:l0.length≤c0) (h:fluxionref01_Canonical.f l0=some r) :
  Calls Try.prog 94 #[.slice A0 l0.length c0] w fun e w'=>e=.returned (.bool r)∧Drawn0 w w':=by
 have HR0:=Aside0.mk hr0
 have HC0:=Aside0.mk hc0
 clear hr0 hc0
 have H:(if (l0.length:Int)=0 then (some true) else (if 0≤(wrap64 ((l0.length:Int)-1)) then (if (wrap64 ((l0.length:Int)-1)) < (l0.length:Int) then (some ((rd l0 (wrap64 ((l0.length:Int)-1))) != 0)) else (none)) else (none)))=some r:=h
 clear h
 by_cases c2:(l0.length:Int)=0
 ·
  rw [if_pos c2] at H
  have c2b0:((l0.length:Int) == 0)=true:=beq_iff_eq.mpr c2
  have c2b1:((l0.length:Int) != 0)=false:=bne_eq_false_iff_eq.mpr c2
  clear c2
  obtain rfl:=Option.some.inj H
  go_enter Try.func94,Try.ntmps94
  go_wp2
  go_ret
  exact⟨by first | rfl | (simp; done) | (simp [*]; done),by repeat (first | exact Drawn0.refl _ | apply Drawn0.step)⟩
 ·
  rw [if_neg c2] at H
  have c2b0:((l0.length:Int) == 0)=false:=beq_eq_false_iff_ne.mpr c2
  have c2b1:((l0.length:Int) != 0)=true:=bne_iff_ne.mpr c2
  have c2b2:¬ (l0=[]):=fun h_=>c2 (by rw [h_]; rfl)
  obtain⟨ji3,hji3⟩:∃ j_:Int,(wrap64 ((l0.length:Int)-1))=j_:=⟨_,rfl⟩
  replace H:(if 0≤(ji3) then (if (ji3) < (l0.length:Int) then (some ((rd l0 (ji3)) != 0)) else (none)) else (none))=some r:=by first | (rw [hji3] at H; exact H) | (simp only [hji3] at H ⊢; exact H)
  have hji3w:(IntKind.i64.wrap ((l0.length:Int)-1))=ji3:=(zcj _).trans hji3
  by_cases c4:0≤(ji3)
  ·
   rw [if_pos c4] at H
   have c4b0:decide (0≤(ji3))=true:=decide_eq_true c4
   clear c4
   by_cases c5:(ji3) < (l0.length:Int)
   ·
    rw [if_pos c5] at H
    have c5b0:decide ((ji3) < (l0.length:Int))=true:=decide_eq_true c5
    clear c5
    obtain rfl:=Option.some.inj H
    have p147:0≤((ji3):Int):=of_decide_eq_true qs
    have q147:(ji3) < (l0.length:Int):=of_decide_eq_true qs
    obtain⟨ad147,e147,hx147_0⟩:=Kd.at_int HR0.out (ji3) p147 q147
    cases e147
    replace p147:=eq_true p147
    replace q147:=eq_true q147
    go_enter Try.func94,Try.ntmps94
    go_wp2
    go_ret
    exact⟨by first | rfl | (simp; done) | (simp only [← hji3]<;>(first | rfl | simp)) | (simp [*]; done),by repeat (first | exact Drawn0.refl _ | apply Drawn0.step)⟩
   ·
    rw [if_neg c5] at H
    exact absurd H (by simp)
  ·
   rw [if_neg c4] at H
   exact absurd H (by simp)
def fluxionref01_Is.f (k:Nat) (l0:List Int) (l1:List Int):Option (Bool):=(fluxionref01_Canonical.f l1).bind fun t148=>(if t148=true then ((fluxionref01_Of.f k l1).bind fun t149=>((fluxionref01_Cmp.f k t149 l0).bind fun t152=>(some (t152 == 0)))) else (some false))
theorem fluxionref01_Is.calls (k:Nat) (A0:Option Addr) (c0:Nat) (l0:List Int) (A1:Option Addr) (c1:Nat) (l1:List Int) (r:Bool) (w:World) (hr0:Kd.C (Kd.int .i64) w A0 l0.length l0) (hc0:l0.length≤c0) (hr1:Kd.C (Kd.int .u32) w A1 l1.length l1) (hc1:l1.length≤c1) (h:fluxionref01_Is.f k l0 l1=some r) :
  Calls Try.prog 61 #[.slice A0 l0.length c0,.slice A1 l1.length c1] w fun e w'=>e=.returned (.bool r)∧Below w.heap.size w w':=by
 have HR0:=Aside0.mk hr0
 have HC0:=Aside0.mk hc0
 clear hr0 hc0
 have HR1:=Aside0.mk hr1
 have HC1:=Aside0.mk hc1
 clear hr1 hc1
 have HB:=Aside0.mk (Below.refl w.heap.size w)
 have H:((fluxionref01_Canonical.f l1).bind fun t148=>(if t148=true then ((fluxionref01_Of.f k l1).bind fun t149=>((fluxionref01_Cmp.f k t149 l0).bind fun t152=>(some (t152 == 0)))) else (some false)))=some r:=h
 clear h
 replace H:=Option.bind_eq_some_iff.mp H
 obtain⟨t148,A30,H⟩:=H
 replace H:(if t148=true then ((fluxionref01_Of.f k l1).bind fun t149=>((fluxionref01_Cmp.f k t149 l0).bind fun t152=>(some (t152 == 0)))) else (some false))=some r:=H
 have A3:=Aside0.mk A30
 clear A30
 by_cases c4:t148=true
 ·
  subst c4
  have H1:((fluxionref01_Of.f k l1).bind fun t149=>((fluxionref01_Cmp.f k t149 l0).bind fun t152=>(some (t152 == 0))))=some r:=by rw [if_pos rfl] at H; exact H
  clear H
  have H:=H1
  clear H1
  replace H:=Option.bind_eq_some_iff.mp H
  obtain⟨t149,A50,H⟩:=H
  replace H:((fluxionref01_Cmp.f k t149 l0).bind fun t152=>(some (t152 == 0)))=some r:=H
  have A5:=Aside0.mk A50
  clear A50
  replace H:=Option.bind_eq_some_iff.mp H
  obtain⟨t152,A60,H⟩:=H
  replace H:(some (t152 == 0))=some r:=H
  have A6:=Aside0.mk A60
  clear A60
  obtain rfl:=Option.some.inj H
  go_enter Try.func61,Try.ntmps61
  go_wp2_with (first | ((with_reducible refine zbC (f:=94) rfl ?_); refine zbO (some 6) rfl rfl Try.func94 (by kernel_rfl) rfl #[.slice A1 l1.length c1] rfl (by (try simp only [List.map_toArray,List.map_cons,List.map_nil]); first | done | rfl | (simp only [List.length_drop,List.length_take]; rfl)) ?_; (with_reducible refine(fluxionref01_Canonical.calls _ _ l1 true _ ?side1 ?side2 A3.out).mono ?_); (case side1=>exact qc HR1.out); (case side2=>exact HC1.out); rintro e w' ⟨rfl,⟨nd,rfl⟩⟩; refine⟨_,rfl,?_⟩) | (go_at_call 24; (with_reducible refine(fluxionref01_Of.calls k _ _ l1 t149 _ ?side1 ?side2 A5.out).mono ?_); (case side1=>exact qc HR1.out); (case side2=>exact HC1.out); rintro e w7 ⟨v150,rfl,ho0,hb⟩; have n0_:=Aside0.mk (Kd.R_lower ho0 (zbs (qb HB.out))); have n1_:=Aside0.mk (zbp (qb HB.out) hb); clear HB; have HO151:=n0_; have HB:=n1_; clear n0_ n1_; (try clear hb); (try clear hb2); (try clear hk); (try clear hi); (try clear ho0); obtain⟨Ao8,co8,eo8⟩:=Kd.R_slice HO151.out; subst eo8) | (go_at_call 74; (with_reducible refine(fluxionref01_Cmp.calls k _ _ t149 _ _ l0 t152 _ ?side1 ?side2 ?side3 ?side4 A6.out).mono ?_); (case side1=>exact qc (Kd.R_reads' HO151.out).2.2); (case side2=>exact(Kd.R_reads' HO151.out).2.1); (case side3=>exact qc (Kd.C_below HR0.out HB.out)); (case side4=>exact HC0.out); rintro e w' ⟨rfl,⟨nd,rfl⟩⟩))
  go_ret
  exact⟨by first | rfl | (simp [zbz,zbA]<;>rfl) | (simp [*,zbz,zbA]<;>rfl),by repeat (first | (with_reducible first | exact HB.out | apply zbq | apply zbr | apply zbv) | exact HB.out)⟩
 ·
  replace c4:=Bool.eq_false_iff.mpr c4
  subst c4
  have H1:(some false)=some r:=by rw [if_neg (show ¬ (false=true) by decide)] at H; exact H
  clear H
  have H:=H1
  clear H1
  obtain rfl:=Option.some.inj H
  go_enter Try.func61,Try.ntmps61
  go_wp2_with (first | ((with_reducible refine zbC (f:=94) rfl ?_); refine zbO (some 6) rfl rfl Try.func94 (by kernel_rfl) rfl #[.slice A1 l1.length c1] rfl (by (try simp only [List.map_toArray,List.map_cons,List.map_nil]); first | done | rfl | (simp only [List.length_drop,List.length_take]; rfl)) ?_; (with_reducible refine(fluxionref01_Canonical.calls _ _ l1 false _ ?side1 ?side2 A3.out).mono ?_); (case side1=>exact qc HR1.out); (case side2=>exact HC1.out); rintro e w' ⟨rfl,⟨nd,rfl⟩⟩; refine⟨_,rfl,?_⟩))
  go_ret
  exact⟨by first | rfl | (simp [zbz,zbA]<;>rfl) | (simp [*,zbz,zbA]<;>rfl),by repeat (first | (with_reducible first | exact HB.out | apply zbq | apply zbr | apply zbv) | exact HB.out)⟩
end Go.Proofs.Ytehghijlchpeaaa.L
end
section
namespace Go.Proofs.Ytehghijlchpeaaa.L
open Go.RowKit YtehghijlchpeaaaW.PrintWords YtehghijlchpeaaaW.PrintLast YtehghijlchpeaaaW.PrintMore
attribute [local go_sem] zb6 zb4 zca zcb zbY zbX zb5 zb7   -- for this text's walks alone
def fluxionref01_Short.l0:Nat→List Int→Int→List Int→Int→Int→Option (List Int×Int)
 | 0,_,_,_,_,_=>none
 | k+1,x0,x1,x6,x7,x8=>if x8 ≥ 0 then (if 0≤x8 then (if x8 < (x0.length:Int) then (if x1=0 then (none) else (if x8 < (x6.length:Int) then (fluxionref01_Short.l0 k x0 x1 (x6.set (x8:Int).toNat (wrap64 (Int.tdiv (wrap64 ((wrap64 (x7*10000))+(rd x0 x8))) x1))) (Int.tmod (wrap64 ((wrap64 (x7*10000))+(rd x0 x8))) x1) (wrap64 (x8-1))) else (none))) else (none)) else (none)) else ((fluxionref01_trim.f k x6).bind fun t160=>(some (t160,x7)))
def fluxionref01_Short.f (k:Nat) (l0:List Int) (a1:Int):Option (List Int×Int):=if 0≤(l0.length:Int) then (if ((l0.length:Int):Int).toNat≤35184372088832 then (fluxionref01_Short.l0 k l0 a1 (List.replicate ((l0.length:Int):Int).toNat 0) 0 (wrap64 ((l0.length:Int)-1))) else (none)) else (none)
theorem fluxionref01_Short.calls (k:Nat) (A0:Option Addr) (c0:Nat) (l0:List Int) (a1:Int) (r1:List Int) (r2:Int) (w:World) (hr0:Kd.C (Kd.int .i64) w A0 l0.length l0) (hc0:l0.length≤c0) (h:fluxionref01_Short.f k l0 a1=some (r1,r2)) :
  Calls Try.prog 107 #[.slice A0 l0.length c0,.int .i64 a1] w fun e w'=>∃ v0_:Value,e=.returned (.tuple #[v0_,.int .i64 r2])∧Kd.R (Kd.int .i64) 3 w' w.heap.size (fun _=>True) v0_ r1∧Below w.heap.size w w':=by
 have HR0:=Aside0.mk hr0
 have HC0:=Aside0.mk hc0
 clear hr0 hc0
 have HB:=Aside0.mk (Below.refl w.heap.size w)
 have H:(if 0≤(l0.length:Int) then (if ((l0.length:Int):Int).toNat≤35184372088832 then (fluxionref01_Short.l0 k l0 a1 (List.replicate ((l0.length:Int):Int).toNat 0) 0 (wrap64 ((l0.length:Int)-1))) else (none)) else (none))=some (r1,r2):=h
 clear h
 by_cases c3:0≤(l0.length:Int)
 ·
  rw [if_pos c3] at H
  have c3b0:=eq_true c3
  have c3b1:decide (0≤(l0.length:Int))=true:=decide_eq_true c3
  clear c3
  by_cases c4:((l0.length:Int):Int).toNat≤35184372088832
  ·
   rw [if_pos c4] at H
   have c4b0:=eq_true c4
   have c4b1:decide (((l0.length:Int):Int).toNat≤35184372088832)=true:=decide_eq_true c4
   clear c4
   obtain⟨y155,hy155⟩:∃ y_:List Int,y_=(List.replicate ((l0.length:Int):Int).toNat 0):=⟨_,rfl⟩
   replace H:(fluxionref01_Short.l0 k l0 a1 y155 0 (wrap64 ((l0.length:Int)-1)))=some (r1,r2):=by first | (rw [hy155]; with_reducible exact H) | (have H2_:=(Option.bind_some _ _).symm.trans H; rw [hy155]; with_reducible exact H2_) | (have H2_:=(Option.bind_some _ _).symm.trans H; with_reducible exact H2_) | with_reducible exact H | (rw [hy155]; exact H) | exact H
   have Ny155:=Aside0.mk hy155
   clear hy155
   have H':=Aside0.mk H
   clear H
   go_enter Try.func107,Try.ntmps107
   go_wp2_with (first | ((with_reducible refine zbG (N:=12) rfl ?_); refine Kd.R_make (Kd.int .i64) _ 3 rfl (N:=12) rfl 34 _ _ rfl (l0.length:Int) rfl rfl Try.underlying34 (.int .i64 0) 8 info3 rfl (by decide) (by omega) 0 (ok:=fun _=>True) (okp:=fun _=>True) rfl (fun _ hk=>hk) trivial (of_decide_eq_true qs) (Nat.le_trans (Nat.mul_le_mul_right _ (of_decide_eq_true qs:(l0.length:Int).toNat≤35184372088832)) (by omega)) (Below.refl _ _) (Nat.le_refl _) ?_; intro v156 w5 ho6 hb hg_ hnew_; clear hg_ hnew_; (first | rw [← Ny155.out] at ho6 | (simp only [Int.reduceToNat] at ho6; rw [← Ny155.out] at ho6)); have n0_:=Aside0.mk (Kd.R_lower ho6 (zbs (qb HB.out))); have n1_:=Aside0.mk (zbp (qb HB.out) hb); clear HB; have HO157:=n0_; have HB:=n1_; clear n0_ n1_; clear hb ho6))
   go_loopg [7,8] k (fun kq v7 v8 w'=>∃ (x6_1:List Int) (x7_1:Int) (x8_1:Int),v7=.int .i64 x7_1∧v8=.int .i64 x8_1∧Aside0 (fluxionref01_Short.l0 kq l0 a1 x6_1 x7_1 x8_1=some (r1,r2))∧Aside0 (kq≤k)∧Aside0 (Kd.R (Kd.int .i64) 3 w' w.heap.size (fun _=>True) v156 x6_1)∧Aside0 (Below w.heap.size w w'))
   case atStart=>exact⟨(y155),(0),(wrap64 ((l0.length:Int)-1)),(by first | rfl | (simp; done) | (simp [*]; done)),(by first | rfl | (simp; done) | (simp [*]; done)),H',⟨Nat.le_refl _⟩,⟨by (with_reducible repeat (first | apply Kd.R_alloc | apply Kd.R_drewN | apply Kd.R_drew)); exact HO157.out⟩,⟨by repeat (first | (with_reducible first | exact HB.out | apply zbq | apply zbr | apply zbv) | exact HB.out)⟩⟩
   case round =>
    clear H'
    try clear c1
    try clear p2
    try clear c3
    try clear c3b0
    try clear c3b1
    try clear c4
    try clear c4b0
    try clear c4b1
    try clear p6
    obtain⟨x6_1,x7_1,x8_1,rfl,rfl,HA,HK1,HO_6,HB⟩:=hrel
    cases gk with
    | zero=>exact absurd HA.out (by simp [fluxionref01_Short.l0])
    | succ k1 =>
     have H:=HA.out
     clear HA
     simp only [fluxionref01_Short.l0] at H
     by_cases c7:x8_1 ≥ 0
     ·
      rw [if_pos c7] at H
      have c7b0:decide (0≤x8_1)=true:=decide_eq_true c7
      clear c7
      by_cases c8:0≤x8_1
      ·
       rw [if_pos c8] at H
       have c8b0:decide (0≤x8_1)=true:=decide_eq_true c8
       clear c8
       by_cases c9:x8_1 < (l0.length:Int)
       ·
        rw [if_pos c9] at H
        have c9b0:decide (x8_1 < (l0.length:Int))=true:=decide_eq_true c9
        clear c9
        by_cases c10:a1=0
        ·
         rw [if_pos c10] at H
         exact absurd H (by simp)
        ·
         rw [if_neg c10] at H
         have c10b0:(a1 == 0)=false:=beq_eq_false_iff_ne.mpr c10
         have c10b1:(a1 != 0)=true:=bne_iff_ne.mpr c10
         by_cases c11:x8_1 < (x6_1.length:Int)
         ·
          rw [if_pos c11] at H
          have c11b0:decide (x8_1 < (x6_1.length:Int))=true:=decide_eq_true c11
          clear c11
          obtain⟨y159,hy159⟩:∃ y_:List Int,y_=(x6_1.set (x8_1:Int).toNat (wrap64 (Int.tdiv (wrap64 ((wrap64 (x7_1*10000))+(rd l0 x8_1))) a1))):=⟨_,rfl⟩
          replace H:(fluxionref01_Short.l0 k1 l0 a1 y159 (Int.tmod (wrap64 ((wrap64 (x7_1*10000))+(rd l0 x8_1))) a1) (wrap64 (x8_1-1)))=some (r1,r2):=by first | (rw [hy159]; with_reducible exact H) | (have H2_:=(Option.bind_some _ _).symm.trans H; rw [hy159]; with_reducible exact H2_) | (have H2_:=(Option.bind_some _ _).symm.trans H; with_reducible exact H2_) | with_reducible exact H | (rw [hy159]; exact H) | exact H
          have Ny159:=Aside0.mk hy159
          clear hy159
          have H':=Aside0.mk H
          clear H
          have p158:0≤(x8_1:Int):=of_decide_eq_true qs
          have q158:x8_1 < (l0.length:Int):=of_decide_eq_true qs
          obtain⟨ad158,e158,hx158_0⟩:=Kd.at_int HR0.out x8_1 p158 q158
          cases e158
          replace hx158_0:=(HB.out.cell (World.block_lt_of_cell? w _ hx158_0)).trans hx158_0
          replace p158:=eq_true p158
          replace q158:=eq_true q158
          have p12:0≤(x8_1:Int):=of_decide_eq_true qs
          have q12:(x8_1:Int) < ((x6_1.length:Int):Int):=of_decide_eq_true qs
          obtain⟨go12,co12,eo12,gb12,gl12,cl12,HG12⟩:=Kd.R_form HO_6.out (by omega)
          (first | cases eo12 | (injection eo12 with ea_ en_ ec_; (first | subst ea_ | (injection ea_ with ea_; subst ea_)); subst ec_; clear en_))
          have GB12:=Aside0.mk gb12
          have GG12:=Aside0.mk HG12
          clear gb12 gl12 HG12
          obtain⟨hx12_0,hf12_0⟩:=Kd.R_celln 0 HO_6.out (x8_1:Int) p12 q12
          replace p12:=eq_true p12
          replace q12:=eq_true q12
          have HP13:=Kd.R_putg HO_6.out (x8_1:Int) (wrap64 (Int.tdiv (wrap64 ((wrap64 (x7_1*10000))+(rd l0 x8_1))) a1))
          go_wp2_with (first | ((with_reducible refine gate_store (t:=3) (p:=32) rfl ?_); refine store_event (t:=3) (p:=32) (v:=?vo_w14) (w1:=(wr.setCell ⟨go12,(x8_1:Int).toNat,none⟩ (.int .i64 (wrap64 (Int.tdiv (wrap64 ((wrap64 (x7_1*10000))+(rd l0 x8_1))) a1))))) ?hg ?ho ?hn ?hr ?_; (case ho=>rfl); (case hg=>rfl); (case hn=>rfl); (case hr=>first | (go_simp; done) | (go_simp; rfl)); intro w14 hw; have hg:wr.grownBy w14 (some go12):=(by rw [hw]; exact HP13.2); have hp_:Kd.R (Kd.int .i64) 3 w14 w.heap.size (fun _=>True) (.slice (some ⟨go12,0,none⟩) x6_1.length co12) y159:=(by rw [hw,Ny159.out]; exact HP13.1); clear HP13; have n0_:=Aside0.mk (hp_); have n1_:=Aside0.mk ((by rw [hw]; exact zbE (HB.out) GB12.out:Below w.heap.size w w14)); clear HO_6; clear HB; have HO_6:=n0_; have HB:=n1_; clear n0_ n1_; clear hg hw hp_))
          go_roundg k1
          case measure=>have:=HK1.out; omega
          case rel=>exact⟨(y159),(Int.tmod (wrap64 ((wrap64 (x7_1*10000))+(rd l0 x8_1))) a1),(wrap64 (x8_1-1)),(by first | rfl | (simp; done) | (simp [*]; done)),(by first | rfl | (simp; done) | (simp [*]; done)),H',⟨by have:=HK1.out; omega⟩,⟨by (with_reducible repeat (first | apply Kd.R_alloc | apply Kd.R_drewN | apply Kd.R_drew)); exact HO_6.out⟩,⟨by repeat (first | (with_reducible first | exact HB.out | apply zbq | apply zbr | apply zbv) | exact HB.out)⟩⟩
         ·
          rw [if_neg c11] at H
          exact absurd H (by simp)
       ·
        rw [if_neg c9] at H
        exact absurd H (by simp)
      ·
       rw [if_neg c8] at H
       exact absurd H (by simp)
     ·
      rw [if_neg c7] at H
      have c7b0:decide (0≤x8_1)=false:=decide_eq_false c7
      clear c7
      replace H:=Option.bind_eq_some_iff.mp H
      obtain⟨t160,A150,H⟩:=H
      replace H:(some (t160,x7_1))=some (r1,r2):=H
      have A15:=Aside0.mk A150
      clear A150
      simp only [Option.some.injEq,Prod.mk.injEq] at H
      obtain⟨rfl,rfl⟩:=H
      obtain⟨Ao16,co16,eo16⟩:=Kd.R_slice HO_6.out
      subst eo16
      go_wp2_with (first | ((with_reducible refine zbC (f:=100) rfl ?_); refine zbO (some 37) rfl rfl Try.func100 (by kernel_rfl) rfl #[.slice Ao16 x6_1.length co16] rfl (by (try simp only [List.map_toArray,List.map_cons,List.map_nil]); first | done | rfl | (simp only [List.length_drop,List.length_take]; rfl)) ?_; (with_reducible refine(fluxionref01_trim.calls k1 (fun k_=>some k_=(.slice Ao16 x6_1.length co16:Value).ownBlock) (.slice Ao16 x6_1.length co16) x6_1 t160 w _ ?side1 ?side2 A15.out).mono ?_); (case side1=>repeat (first | (with_reducible first | exact HB.out | apply zbq | apply zbr | apply zbv) | exact HB.out)); (case side2=>exact Kd.R_tight rfl HO_6.out); rintro e w17 ⟨v161,rfl,ho0,hb,hkp⟩; refine⟨_,rfl,?_⟩; have n0_:=Aside0.mk (Kd.R_mono (ok':=fun k_=>True) ho0 (fun k_ hk_=>trivial)); have n1_:=Aside0.mk (hb); clear HB; clear HO_6; have HO162:=n0_; have HB:=n1_; clear n0_ n1_; (try clear hb); (try clear hkp); (try clear ho0)))
      go_ret2
      exact⟨_,by first | rfl | (simp [zbz,zbA]<;>rfl) | (simp [*,zbz,zbA]<;>rfl),by (with_reducible repeat (first | apply Kd.R_alloc | apply Kd.R_drewN | apply Kd.R_drew)); exact HO162.out,by repeat (first | (with_reducible first | exact HB.out | apply zbq | apply zbr | apply zbv) | exact HB.out)⟩
  ·
   rw [if_neg c4] at H
   exact absurd H (by simp)
 ·
  rw [if_neg c3] at H
  exact absurd H (by simp)
def fluxionref01_Sub.l0:Nat→List Int→List Int→List Int→Int→Int→Option (List Int×Bool)
 | 0,_,_,_,_,_=>none
 | k+1,x0,x1,x6,x7,x8=>if x8 < (x0.length:Int) then (if 0≤x8 then ((fluxionref01_digit.f x1 x8).bind fun t169=>(if (wrap64 ((wrap64 ((rd x0 x8)-t169))-x7)) < 0 then (if x6.length < 17592186044416 then (fluxionref01_Sub.l0 k x0 x1 (x6++[wrap64 ((wrap64 ((wrap64 ((rd x0 x8)-t169))-x7))+10000)]) 1 (wrap64 (x8+1))) else (none)) else (if x6.length < 17592186044416 then (fluxionref01_Sub.l0 k x0 x1 (x6++[wrap64 ((wrap64 ((rd x0 x8)-t169))-x7)]) 0 (wrap64 (x8+1))) else (none)))) else (none)) else ((fluxionref01_trim.f k x6).bind fun t176=>(some (t176,true)))
def fluxionref01_Sub.f (k:Nat) (l0:List Int) (l1:List Int):Option (List Int×Bool):=(fluxionref01_Cmp.f k l0 l1).bind fun t167=>(if t167 < 0 then (some (([]:List Int),false)) else (fluxionref01_Sub.l0 k l0 l1 ([]:List Int) 0 0))
theorem fluxionref01_Sub.calls (k:Nat) (A0:Option Addr) (c0:Nat) (l0:List Int) (A1:Option Addr) (c1:Nat) (l1:List Int) (r1:List Int) (r2:Bool) (w:World) (hr0:Kd.C (Kd.int .i64) w A0 l0.length l0) (hc0:l0.length≤c0) (hr1:Kd.C (Kd.int .i64) w A1 l1.length l1) (hc1:l1.length≤c1) (h:fluxionref01_Sub.f k l0 l1=some (r1,r2)) :
  Calls Try.prog 75 #[.slice A0 l0.length c0,.slice A1 l1.length c1] w fun e w'=>∃ v0_:Value,e=.returned (.tuple #[v0_,.bool r2])∧Kd.R (Kd.int .i64) 3 w' w.heap.size (fun _=>True) v0_ r1∧Below w.heap.size w w':=by
 have HR0:=Aside0.mk hr0
 have HC0:=Aside0.mk hc0
 clear hr0 hc0
 have HR1:=Aside0.mk hr1
 have HC1:=Aside0.mk hc1
 clear hr1 hc1
 have HB:=Aside0.mk (Below.refl w.heap.size w)
 have H:((fluxionref01_Cmp.f k l0 l1).bind fun t167=>(if t167 < 0 then (some (([]:List Int),false)) else (fluxionref01_Sub.l0 k l0 l1 ([]:List Int) 0 0)))=some (r1,r2):=h
 clear h
 replace H:=Option.bind_eq_some_iff.mp H
 obtain⟨t167,A30,H⟩:=H
 replace H:(if t167 < 0 then (some (([]:List Int),false)) else (fluxionref01_Sub.l0 k l0 l1 ([]:List Int) 0 0))=some (r1,r2):=H
 have A3:=Aside0.mk A30
 clear A30
 by_cases c4:t167 < 0
 ·
  rw [if_pos c4] at H
  have c4b0:decide (t167 < 0)=true:=decide_eq_true c4
  clear c4
  simp only [Option.some.injEq,Prod.mk.injEq] at H
  obtain⟨rfl,rfl⟩:=H
  go_enter Try.func75,Try.ntmps75
  go_wp2_with (first | (go_at_call 74; (with_reducible refine(fluxionref01_Cmp.calls k _ _ l0 _ _ l1 t167 _ ?side1 ?side2 ?side3 ?side4 A3.out).mono ?_); (case side1=>exact qc HR0.out); (case side2=>exact HC0.out); (case side3=>exact qc HR1.out); (case side4=>exact HC1.out); rintro e w' ⟨rfl,⟨nd,rfl⟩⟩; (try first | exact⟨rfl,_,World.drewN_drewN _ _ _⟩ | exact⟨rfl,_,Eq.trans (World.drewN_drewN _ _ _) (congrArg (World.drewN _) (Nat.add_assoc _ _ _))⟩)))
  repeat (go_quiet (first | (go_at_call 74; (with_reducible refine(fluxionref01_Cmp.calls k _ _ l0 _ _ l1 t167 _ ?side1 ?side2 ?side3 ?side4 A3.out).mono ?_); (case side1=>exact qc HR0.out); (case side2=>exact HC0.out); (case side3=>exact qc HR1.out); (case side4=>exact HC1.out); rintro e w' ⟨rfl,⟨nd,rfl⟩⟩; (try first | exact⟨rfl,_,World.drewN_drewN _ _ _⟩ | exact⟨rfl,_,Eq.trans (World.drewN_drewN _ _ _) (congrArg (World.drewN _) (Nat.add_assoc _ _ _))⟩))); try go_wp2_with (first | (go_at_call 74; (with_reducible refine(fluxionref01_Cmp.calls k _ _ l0 _ _ l1 t167 _ ?side1 ?side2 ?side3 ?side4 A3.out).mono ?_); (case side1=>exact qc HR0.out); (case side2=>exact HC0.out); (case side3=>exact qc HR1.out); (case side4=>exact HC1.out); rintro e w' ⟨rfl,⟨nd,rfl⟩⟩; (try first | exact⟨rfl,_,World.drewN_drewN _ _ _⟩ | exact⟨rfl,_,Eq.trans (World.drewN_drewN _ _ _) (congrArg (World.drewN _) (Nat.add_assoc _ _ _))⟩))))
  go_ret2
  exact⟨_,by first | rfl | (simp [zbz,zbA]<;>rfl) | (simp [*,zbz,zbA]<;>rfl),by first | exact Kd.R_nil _ _ _ _ _ | exact Kd.N_nil _ _ _ _ _ | exact Kd.V_nil _ _ _ _ _ | exact Kd.Q_nil _ _ _ _ _ | exact Kd.S_nil _ _ _ _ _,by repeat (first | (with_reducible first | exact HB.out | apply zbq | apply zbr | apply zbv) | exact HB.out)⟩
 ·
  rw [if_neg c4] at H
  have c4b0:decide (t167 < 0)=false:=decide_eq_false c4
  clear c4
  have H':=Aside0.mk H
  clear H
  go_enter Try.func75,Try.ntmps75
  go_wp2_with (first | (go_at_call 74; (with_reducible refine(fluxionref01_Cmp.calls k _ _ l0 _ _ l1 t167 _ ?side1 ?side2 ?side3 ?side4 A3.out).mono ?_); (case side1=>exact qc HR0.out); (case side2=>exact HC0.out); (case side3=>exact qc HR1.out); (case side4=>exact HC1.out); rintro e w' ⟨rfl,⟨nd,rfl⟩⟩; (try first | exact⟨rfl,_,World.drewN_drewN _ _ _⟩ | exact⟨rfl,_,Eq.trans (World.drewN_drewN _ _ _) (congrArg (World.drewN _) (Nat.add_assoc _ _ _))⟩)))
  repeat (go_quiet (first | (go_at_call 74; (with_reducible refine(fluxionref01_Cmp.calls k _ _ l0 _ _ l1 t167 _ ?side1 ?side2 ?side3 ?side4 A3.out).mono ?_); (case side1=>exact qc HR0.out); (case side2=>exact HC0.out); (case side3=>exact qc HR1.out); (case side4=>exact HC1.out); rintro e w' ⟨rfl,⟨nd,rfl⟩⟩; (try first | exact⟨rfl,_,World.drewN_drewN _ _ _⟩ | exact⟨rfl,_,Eq.trans (World.drewN_drewN _ _ _) (congrArg (World.drewN _) (Nat.add_assoc _ _ _))⟩))); try go_wp2_with (first | (go_at_call 74; (with_reducible refine(fluxionref01_Cmp.calls k _ _ l0 _ _ l1 t167 _ ?side1 ?side2 ?side3 ?side4 A3.out).mono ?_); (case side1=>exact qc HR0.out); (case side2=>exact HC0.out); (case side3=>exact qc HR1.out); (case side4=>exact HC1.out); rintro e w' ⟨rfl,⟨nd,rfl⟩⟩; (try first | exact⟨rfl,_,World.drewN_drewN _ _ _⟩ | exact⟨rfl,_,Eq.trans (World.drewN_drewN _ _ _) (congrArg (World.drewN _) (Nat.add_assoc _ _ _))⟩))))
  go_loopg [6,7,8] k (fun kq v6 v7 v8 w'=>∃ (x6_1:List Int) (x7_1:Int) (x8_1:Int),v7=.int .i64 x7_1∧v8=.int .i64 x8_1∧Aside0 (fluxionref01_Sub.l0 kq l0 l1 x6_1 x7_1 x8_1=some (r1,r2))∧Aside0 (kq≤k)∧Aside0 (Kd.R (Kd.int .i64) 3 w' w.heap.size (fun _=>True) v6 x6_1)∧Aside0 (Below w.heap.size w w'))
  case atStart=>exact⟨(([]:List Int)),(0),(0),(by first | rfl | (simp; done) | (simp [*]; done)),(by first | rfl | (simp; done) | (simp [*]; done)),H',⟨Nat.le_refl _⟩,⟨by first | exact Kd.R_nil _ _ _ _ _ | exact Kd.N_nil _ _ _ _ _ | exact Kd.V_nil _ _ _ _ _ | exact Kd.Q_nil _ _ _ _ _ | exact Kd.S_nil _ _ _ _ _⟩,⟨by repeat (first | (with_reducible first | exact HB.out | apply zbq | apply zbr | apply zbv) | exact HB.out)⟩⟩
  case round =>
   clear H'
   try clear c1
   try clear p2
   try clear c4
   try clear c4b0
   obtain⟨x6_1,x7_1,x8_1,rfl,rfl,HA,HK1,HO_6,HB⟩:=hrel
   cases gk with
   | zero=>exact absurd HA.out (by simp [fluxionref01_Sub.l0])
   | succ k1 =>
    have H:=HA.out
    clear HA
    simp only [fluxionref01_Sub.l0] at H
    by_cases c5:x8_1 < (l0.length:Int)
    ·
     rw [if_pos c5] at H
     have c5b0:decide (x8_1 < (l0.length:Int))=true:=decide_eq_true c5
     clear c5
     by_cases c6:0≤x8_1
     ·
      rw [if_pos c6] at H
      have c6b0:decide (0≤x8_1)=true:=decide_eq_true c6
      clear c6
      replace H:=Option.bind_eq_some_iff.mp H
      obtain⟨t169,A70,H⟩:=H
      replace H:(if (wrap64 ((wrap64 ((rd l0 x8_1)-t169))-x7_1)) < 0 then (if x6_1.length < 17592186044416 then (fluxionref01_Sub.l0 k1 l0 l1 (x6_1++[wrap64 ((wrap64 ((wrap64 ((rd l0 x8_1)-t169))-x7_1))+10000)]) 1 (wrap64 (x8_1+1))) else (none)) else (if x6_1.length < 17592186044416 then (fluxionref01_Sub.l0 k1 l0 l1 (x6_1++[wrap64 ((wrap64 ((rd l0 x8_1)-t169))-x7_1)]) 0 (wrap64 (x8_1+1))) else (none)))=some (r1,r2):=H
      have A7:=Aside0.mk A70
      clear A70
      by_cases c8:(wrap64 ((wrap64 ((rd l0 x8_1)-t169))-x7_1)) < 0
      ·
       rw [if_pos c8] at H
       have c8b0:decide ((wrap64 ((wrap64 ((rd l0 x8_1)-t169))-x7_1)) < 0)=true:=decide_eq_true c8
       clear c8
       by_cases c9:x6_1.length < 17592186044416
       ·
        rw [if_pos c9] at H
        have LMc9:=Aside0.mk c9
        clear c9
        obtain⟨y170,hy170⟩:∃ y_:List Int,y_=(x6_1++[wrap64 ((wrap64 ((wrap64 ((rd l0 x8_1)-t169))-x7_1))+10000)]):=⟨_,rfl⟩
        replace H:(fluxionref01_Sub.l0 k1 l0 l1 y170 1 (wrap64 (x8_1+1)))=some (r1,r2):=by first | (rw [hy170]; with_reducible exact H) | (have H2_:=(Option.bind_some _ _).symm.trans H; rw [hy170]; with_reducible exact H2_) | (have H2_:=(Option.bind_some _ _).symm.trans H; with_reducible exact H2_) | with_reducible exact H | (rw [hy170]; exact H) | exact H
        have Ny170:=Aside0.mk hy170
        clear hy170
        have H':=Aside0.mk H
        clear H
        have p168:0≤(x8_1:Int):=of_decide_eq_true qs
        have q168:x8_1 < (l0.length:Int):=of_decide_eq_true qs
        obtain⟨ad168,e168,hx168_0⟩:=Kd.at_int HR0.out x8_1 p168 q168
        cases e168
        replace hx168_0:=(HB.out.cell (World.block_lt_of_cell? w _ hx168_0)).trans hx168_0
        replace p168:=eq_true p168
        replace q168:=eq_true q168
        go_wp2_with (first | (go_at_call 99; (with_reducible refine(fluxionref01_digit.calls _ _ l1 x8_1 t169 _ ?side1 ?side2 A7.out).mono ?_); (case side1=>exact qc (Kd.C_below HR1.out HB.out)); (case side2=>exact HC1.out); rintro e w' ⟨rfl,⟨nd,rfl⟩⟩; (try first | exact⟨rfl,_,World.drewN_drewN _ _ _⟩ | exact⟨rfl,_,Eq.trans (World.drewN_drewN _ _ _) (congrArg (World.drewN _) (Nat.add_assoc _ _ _))⟩)) | ((with_reducible refine zbV (b:=.append) (xs:=#[.tmp 34,.tmp 36]) rfl ?_); at_builtin; refine Kd.R_append (Kd.int .i64) (w0:=w) w.heap.size rfl (.tmp 34) (.tmp 36) 34 3 (.int .i64 0) 8 rfl Try.underlying34 info3 rfl (by decide) (by omega) u6 x6_1 (wrap64 ((wrap64 ((wrap64 ((rd l0 x8_1)-t169))-x7_1))+10000)) [.int .i64 (wrap64 ((wrap64 ((wrap64 ((rd l0 x8_1)-t169))-x7_1))+10000))] (fun _=>True) (fun _=>False) rfl rfl ?aP (fun _ hk=>hk.elim) ?aF ?aO ?aB ?aS ?aL ?_; (case aP=>exact rfl); (case aB=>exact(qb HB.out)); (case aF=>exact(fun _ _=>trivial)); (case aO=>exact(qr HO_6.out)); (case aS=>exact(zbs (qb HB.out))); (case aL=>have:=LMc9.out; omega); intro v171 w10 ho hb hg hat; rw [← Ny170.out] at ho; have n0_:=Aside0.mk (hb); have n1_:=Aside0.mk (ho); clear HB; clear HO_6; have HB:=n0_; have HO172:=n1_; clear n0_ n1_; clear ho hb hg hat))
        repeat (go_quiet (first | (go_at_call 99; (with_reducible refine(fluxionref01_digit.calls _ _ l1 x8_1 t169 _ ?side1 ?side2 A7.out).mono ?_); (case side1=>exact qc (Kd.C_below HR1.out HB.out)); (case side2=>exact HC1.out); rintro e w' ⟨rfl,⟨nd,rfl⟩⟩; (try first | exact⟨rfl,_,World.drewN_drewN _ _ _⟩ | exact⟨rfl,_,Eq.trans (World.drewN_drewN _ _ _) (congrArg (World.drewN _) (Nat.add_assoc _ _ _))⟩)) | ((with_reducible refine zbV (b:=.append) (xs:=#[.tmp 34,.tmp 36]) rfl ?_); at_builtin; refine Kd.R_append (Kd.int .i64) (w0:=w) w.heap.size rfl (.tmp 34) (.tmp 36) 34 3 (.int .i64 0) 8 rfl Try.underlying34 info3 rfl (by decide) (by omega) u6 x6_1 (wrap64 ((wrap64 ((wrap64 ((rd l0 x8_1)-t169))-x7_1))+10000)) [.int .i64 (wrap64 ((wrap64 ((wrap64 ((rd l0 x8_1)-t169))-x7_1))+10000))] (fun _=>True) (fun _=>False) rfl rfl ?aP (fun _ hk=>hk.elim) ?aF ?aO ?aB ?aS ?aL ?_; (case aP=>exact rfl); (case aB=>exact(qb HB.out)); (case aF=>exact(fun _ _=>trivial)); (case aO=>exact(qr HO_6.out)); (case aS=>exact(zbs (qb HB.out))); (case aL=>have:=LMc9.out; omega); intro v171 w10 ho hb hg hat; rw [← Ny170.out] at ho; have n0_:=Aside0.mk (hb); have n1_:=Aside0.mk (ho); clear HB; clear HO_6; have HB:=n0_; have HO172:=n1_; clear n0_ n1_; clear ho hb hg hat)); try go_wp2_with (first | (go_at_call 99; (with_reducible refine(fluxionref01_digit.calls _ _ l1 x8_1 t169 _ ?side1 ?side2 A7.out).mono ?_); (case side1=>exact qc (Kd.C_below HR1.out HB.out)); (case side2=>exact HC1.out); rintro e w' ⟨rfl,⟨nd,rfl⟩⟩; (try first | exact⟨rfl,_,World.drewN_drewN _ _ _⟩ | exact⟨rfl,_,Eq.trans (World.drewN_drewN _ _ _) (congrArg (World.drewN _) (Nat.add_assoc _ _ _))⟩)) | ((with_reducible refine zbV (b:=.append) (xs:=#[.tmp 34,.tmp 36]) rfl ?_); at_builtin; refine Kd.R_append (Kd.int .i64) (w0:=w) w.heap.size rfl (.tmp 34) (.tmp 36) 34 3 (.int .i64 0) 8 rfl Try.underlying34 info3 rfl (by decide) (by omega) u6 x6_1 (wrap64 ((wrap64 ((wrap64 ((rd l0 x8_1)-t169))-x7_1))+10000)) [.int .i64 (wrap64 ((wrap64 ((wrap64 ((rd l0 x8_1)-t169))-x7_1))+10000))] (fun _=>True) (fun _=>False) rfl rfl ?aP (fun _ hk=>hk.elim) ?aF ?aO ?aB ?aS ?aL ?_; (case aP=>exact rfl); (case aB=>exact(qb HB.out)); (case aF=>exact(fun _ _=>trivial)); (case aO=>exact(qr HO_6.out)); (case aS=>exact(zbs (qb HB.out))); (case aL=>have:=LMc9.out; omega); intro v171 w10 ho hb hg hat; rw [← Ny170.out] at ho; have n0_:=Aside0.mk (hb); have n1_:=Aside0.mk (ho); clear HB; clear HO_6; have HB:=n0_; have HO172:=n1_; clear n0_ n1_; clear ho hb hg hat)))
        go_roundg k1
        case measure=>have:=HK1.out; omega
        case rel=>exact⟨(y170),(1),(wrap64 (x8_1+1)),(by first | rfl | (simp; done) | (simp [*]; done)),(by first | rfl | (simp; done) | (simp [*]; done)),H',⟨by have:=HK1.out; omega⟩,⟨by (with_reducible repeat (first | apply Kd.R_alloc | apply Kd.R_drewN | apply Kd.R_drew)); exact HO172.out⟩,⟨by repeat (first | (with_reducible first | exact HB.out | apply zbq | apply zbr | apply zbv) | exact HB.out)⟩⟩
       ·
        rw [if_neg c9] at H
        exact absurd H (by simp)
      ·
       rw [if_neg c8] at H
       have c8b0:decide ((wrap64 ((wrap64 ((rd l0 x8_1)-t169))-x7_1)) < 0)=false:=decide_eq_false c8
       clear c8
       by_cases c11:x6_1.length < 17592186044416
       ·
        rw [if_pos c11] at H
        have LMc11:=Aside0.mk c11
        clear c11
        obtain⟨y173,hy173⟩:∃ y_:List Int,y_=(x6_1++[wrap64 ((wrap64 ((rd l0 x8_1)-t169))-x7_1)]):=⟨_,rfl⟩
        replace H:(fluxionref01_Sub.l0 k1 l0 l1 y173 0 (wrap64 (x8_1+1)))=some (r1,r2):=by first | (rw [hy173]; with_reducible exact H) | (have H2_:=(Option.bind_some _ _).symm.trans H; rw [hy173]; with_reducible exact H2_) | (have H2_:=(Option.bind_some _ _).symm.trans H; with_reducible exact H2_) | with_reducible exact H | (rw [hy173]; exact H) | exact H
        have Ny173:=Aside0.mk hy173
        clear hy173
        have H':=Aside0.mk H
        clear H
        have p168:0≤(x8_1:Int):=of_decide_eq_true qs
        have q168:x8_1 < (l0.length:Int):=of_decide_eq_true qs
        obtain⟨ad168,e168,hx168_0⟩:=Kd.at_int HR0.out x8_1 p168 q168
        cases e168
        replace hx168_0:=(HB.out.cell (World.block_lt_of_cell? w _ hx168_0)).trans hx168_0
        replace p168:=eq_true p168
        replace q168:=eq_true q168
        go_wp2_with (first | (go_at_call 99; (with_reducible refine(fluxionref01_digit.calls _ _ l1 x8_1 t169 _ ?side1 ?side2 A7.out).mono ?_); (case side1=>exact qc (Kd.C_below HR1.out HB.out)); (case side2=>exact HC1.out); rintro e w' ⟨rfl,⟨nd,rfl⟩⟩; (try first | exact⟨rfl,_,World.drewN_drewN _ _ _⟩ | exact⟨rfl,_,Eq.trans (World.drewN_drewN _ _ _) (congrArg (World.drewN _) (Nat.add_assoc _ _ _))⟩)) | ((with_reducible refine zbV (b:=.append) (xs:=#[.tmp 34,.tmp 36]) rfl ?_); at_builtin; refine Kd.R_append (Kd.int .i64) (w0:=w) w.heap.size rfl (.tmp 34) (.tmp 36) 34 3 (.int .i64 0) 8 rfl Try.underlying34 info3 rfl (by decide) (by omega) u6 x6_1 (wrap64 ((wrap64 ((rd l0 x8_1)-t169))-x7_1)) [.int .i64 (wrap64 ((wrap64 ((rd l0 x8_1)-t169))-x7_1))] (fun _=>True) (fun _=>False) rfl rfl ?aP (fun _ hk=>hk.elim) ?aF ?aO ?aB ?aS ?aL ?_; (case aP=>exact rfl); (case aB=>exact(qb HB.out)); (case aF=>exact(fun _ _=>trivial)); (case aO=>exact(qr HO_6.out)); (case aS=>exact(zbs (qb HB.out))); (case aL=>have:=LMc11.out; omega); intro v174 w12 ho hb hg hat; rw [← Ny173.out] at ho; have n0_:=Aside0.mk (hb); have n1_:=Aside0.mk (ho); clear HB; clear HO_6; have HB:=n0_; have HO175:=n1_; clear n0_ n1_; clear ho hb hg hat))
        repeat (go_quiet (first | (go_at_call 99; (with_reducible refine(fluxionref01_digit.calls _ _ l1 x8_1 t169 _ ?side1 ?side2 A7.out).mono ?_); (case side1=>exact qc (Kd.C_below HR1.out HB.out)); (case side2=>exact HC1.out); rintro e w' ⟨rfl,⟨nd,rfl⟩⟩; (try first | exact⟨rfl,_,World.drewN_drewN _ _ _⟩ | exact⟨rfl,_,Eq.trans (World.drewN_drewN _ _ _) (congrArg (World.drewN _) (Nat.add_assoc _ _ _))⟩)) | ((with_reducible refine zbV (b:=.append) (xs:=#[.tmp 34,.tmp 36]) rfl ?_); at_builtin; refine Kd.R_append (Kd.int .i64) (w0:=w) w.heap.size rfl (.tmp 34) (.tmp 36) 34 3 (.int .i64 0) 8 rfl Try.underlying34 info3 rfl (by decide) (by omega) u6 x6_1 (wrap64 ((wrap64 ((rd l0 x8_1)-t169))-x7_1)) [.int .i64 (wrap64 ((wrap64 ((rd l0 x8_1)-t169))-x7_1))] (fun _=>True) (fun _=>False) rfl rfl ?aP (fun _ hk=>hk.elim) ?aF ?aO ?aB ?aS ?aL ?_; (case aP=>exact rfl); (case aB=>exact(qb HB.out)); (case aF=>exact(fun _ _=>trivial)); (case aO=>exact(qr HO_6.out)); (case aS=>exact(zbs (qb HB.out))); (case aL=>have:=LMc11.out; omega); intro v174 w12 ho hb hg hat; rw [← Ny173.out] at ho; have n0_:=Aside0.mk (hb); have n1_:=Aside0.mk (ho); clear HB; clear HO_6; have HB:=n0_; have HO175:=n1_; clear n0_ n1_; clear ho hb hg hat)); try go_wp2_with (first | (go_at_call 99; (with_reducible refine(fluxionref01_digit.calls _ _ l1 x8_1 t169 _ ?side1 ?side2 A7.out).mono ?_); (case side1=>exact qc (Kd.C_below HR1.out HB.out)); (case side2=>exact HC1.out); rintro e w' ⟨rfl,⟨nd,rfl⟩⟩; (try first | exact⟨rfl,_,World.drewN_drewN _ _ _⟩ | exact⟨rfl,_,Eq.trans (World.drewN_drewN _ _ _) (congrArg (World.drewN _) (Nat.add_assoc _ _ _))⟩)) | ((with_reducible refine zbV (b:=.append) (xs:=#[.tmp 34,.tmp 36]) rfl ?_); at_builtin; refine Kd.R_append (Kd.int .i64) (w0:=w) w.heap.size rfl (.tmp 34) (.tmp 36) 34 3 (.int .i64 0) 8 rfl Try.underlying34 info3 rfl (by decide) (by omega) u6 x6_1 (wrap64 ((wrap64 ((rd l0 x8_1)-t169))-x7_1)) [.int .i64 (wrap64 ((wrap64 ((rd l0 x8_1)-t169))-x7_1))] (fun _=>True) (fun _=>False) rfl rfl ?aP (fun _ hk=>hk.elim) ?aF ?aO ?aB ?aS ?aL ?_; (case aP=>exact rfl); (case aB=>exact(qb HB.out)); (case aF=>exact(fun _ _=>trivial)); (case aO=>exact(qr HO_6.out)); (case aS=>exact(zbs (qb HB.out))); (case aL=>have:=LMc11.out; omega); intro v174 w12 ho hb hg hat; rw [← Ny173.out] at ho; have n0_:=Aside0.mk (hb); have n1_:=Aside0.mk (ho); clear HB; clear HO_6; have HB:=n0_; have HO175:=n1_; clear n0_ n1_; clear ho hb hg hat)))
        go_roundg k1
        case measure=>have:=HK1.out; omega
        case rel=>exact⟨(y173),(0),(wrap64 (x8_1+1)),(by first | rfl | (simp; done) | (simp [*]; done)),(by first | rfl | (simp; done) | (simp [*]; done)),H',⟨by have:=HK1.out; omega⟩,⟨by (with_reducible repeat (first | apply Kd.R_alloc | apply Kd.R_drewN | apply Kd.R_drew)); exact HO175.out⟩,⟨by repeat (first | (with_reducible first | exact HB.out | apply zbq | apply zbr | apply zbv) | exact HB.out)⟩⟩
       ·
        rw [if_neg c11] at H
        exact absurd H (by simp)
     ·
      rw [if_neg c6] at H
      exact absurd H (by simp)
    ·
     rw [if_neg c5] at H
     have c5b0:decide (x8_1 < (l0.length:Int))=false:=decide_eq_false c5
     clear c5
     replace H:=Option.bind_eq_some_iff.mp H
     obtain⟨t176,A130,H⟩:=H
     replace H:(some (t176,true))=some (r1,r2):=H
     have A13:=Aside0.mk A130
     clear A130
     simp only [Option.some.injEq,Prod.mk.injEq] at H
     obtain⟨rfl,rfl⟩:=H
     obtain⟨Ao14,co14,eo14⟩:=Kd.R_slice HO_6.out
     subst eo14
     go_wp2_with (first | (go_at_call 100; (with_reducible refine(fluxionref01_trim.calls k1 (fun k_=>some k_=(.slice Ao14 x6_1.length co14:Value).ownBlock) (.slice Ao14 x6_1.length co14) x6_1 t176 w _ ?side1 ?side2 A13.out).mono ?_); (case side1=>repeat (first | (with_reducible first | exact HB.out | apply zbq | apply zbr | apply zbv) | exact HB.out)); (case side2=>exact Kd.R_tight rfl HO_6.out); rintro e w15 ⟨v177,rfl,ho0,hb,hkp⟩; have n0_:=Aside0.mk (Kd.R_mono (ok':=fun k_=>True) ho0 (fun k_ hk_=>trivial)); have n1_:=Aside0.mk (hb); clear HB; clear HO_6; have HO178:=n0_; have HB:=n1_; clear n0_ n1_; (try clear hb); (try clear hkp); (try clear ho0)))
     repeat (go_quiet (first | (go_at_call 100; (with_reducible refine(fluxionref01_trim.calls k1 (fun k_=>some k_=(.slice Ao14 x6_1.length co14:Value).ownBlock) (.slice Ao14 x6_1.length co14) x6_1 t176 w _ ?side1 ?side2 A13.out).mono ?_); (case side1=>repeat (first | (with_reducible first | exact HB.out | apply zbq | apply zbr | apply zbv) | exact HB.out)); (case side2=>exact Kd.R_tight rfl HO_6.out); rintro e w15 ⟨v177,rfl,ho0,hb,hkp⟩; have n0_:=Aside0.mk (Kd.R_mono (ok':=fun k_=>True) ho0 (fun k_ hk_=>trivial)); have n1_:=Aside0.mk (hb); clear HB; clear HO_6; have HO178:=n0_; have HB:=n1_; clear n0_ n1_; (try clear hb); (try clear hkp); (try clear ho0))); try go_wp2_with (first | (go_at_call 100; (with_reducible refine(fluxionref01_trim.calls k1 (fun k_=>some k_=(.slice Ao14 x6_1.length co14:Value).ownBlock) (.slice Ao14 x6_1.length co14) x6_1 t176 w _ ?side1 ?side2 A13.out).mono ?_); (case side1=>repeat (first | (with_reducible first | exact HB.out | apply zbq | apply zbr | apply zbv) | exact HB.out)); (case side2=>exact Kd.R_tight rfl HO_6.out); rintro e w15 ⟨v177,rfl,ho0,hb,hkp⟩; have n0_:=Aside0.mk (Kd.R_mono (ok':=fun k_=>True) ho0 (fun k_ hk_=>trivial)); have n1_:=Aside0.mk (hb); clear HB; clear HO_6; have HO178:=n0_; have HB:=n1_; clear n0_ n1_; (try clear hb); (try clear hkp); (try clear ho0))))
     go_ret2
     exact⟨_,by first | rfl | (simp [zbz,zbA]<;>rfl) | (simp [*,zbz,zbA]<;>rfl),by (with_reducible repeat (first | apply Kd.R_alloc | apply Kd.R_drewN | apply Kd.R_drew)); exact HO178.out,by repeat (first | (with_reducible first | exact HB.out | apply zbq | apply zbr | apply zbv) | exact HB.out)⟩
end Go.Proofs.Ytehghijlchpeaaa.L
end
section
namespace Go.Proofs.Ytehghijlchpeaaa.L
open Go.RowKit YtehghijlchpeaaaW.PrintWords YtehghijlchpeaaaW.PrintLast YtehghijlchpeaaaW.PrintMore
attribute [local go_sem] zb6 zb4 zca zcb zbY zbX zb5 zb7   -- for this text's walks alone
def fluxionref02_trim.l0:Nat→List Int→Int→Option (List Int)
 | 0,_,_=>none
 | k+1,x0,x3=>if x3 > 0 then (if 0≤(wrap64 (x3-1)) then (if (wrap64 (x3-1)) < (x0.length:Int) then (if (rd x0 (wrap64 (x3-1)))=0 then (fluxionref02_trim.l0 k x0 (wrap64 (x3-1))) else (if 0≤x3 then (if x3≤(x0.length:Int) then (some (x0.take (x3:Int).toNat)) else (none)) else (none))) else (none)) else (none)) else (if 0≤x3 then (if x3≤(x0.length:Int) then (some (x0.take (x3:Int).toNat)) else (none)) else (none))
def fluxionref02_trim.f (k:Nat) (l0:List Int):Option (List Int):=fluxionref02_trim.l0 k l0 (l0.length:Int)
theorem fluxionref02_trim.calls (k:Nat) (P0_:Nat→Prop) (u9000_:Value) (l0:List Int) (r:List Int) (w0 w:World) (hB:Below w0.heap.size w0 w) (ho0:Kd.R (Kd.int .i64) 3 w w0.heap.size P0_ u9000_ l0) (h:fluxionref02_trim.f k l0=some r) :
  Calls Try.prog 101 #[u9000_] w fun e w'=>∃ v0_:Value,e=.returned (v0_)∧Kd.R (Kd.int .i64) 3 w' w0.heap.size (fun k_=>(P0_ k_∨w.heap.size≤k_)) v0_ r∧Below w0.heap.size w0 w'∧zcr w w' (fun k_=>P0_ k_):=by
 have HO0:=Aside0.mk (show Kd.R (Kd.int .i64) 3 w w0.heap.size (fun k_=>(P0_ k_∨w.heap.size≤k_)) u9000_ l0 from Kd.R_mono ho0 (fun k_ hk=>(.inl hk)))
 have HK:=Aside0.mk (zcr.refl w (fun k_=>P0_ k_))
 have HW0:=Aside0.mk hB.size
 have HB:=Aside0.mk hB
 clear hB
 have H:(fluxionref02_trim.l0 k l0 (l0.length:Int))=some r:=h
 clear h
 have H':=Aside0.mk H
 clear H
 obtain⟨Ao2,co2,eo2⟩:=Kd.R_slice HO0.out
 subst eo2
 go_enter Try.func101,Try.ntmps101
 go_wp2
 go_loopg [3] k (fun kq v3 w'=>∃ (x3_1:Int),v3=.int .i64 x3_1∧Aside0 (fluxionref02_trim.l0 kq l0 x3_1=some r)∧Aside0 (kq≤k)∧Aside0 (Kd.R (Kd.int .i64) 3 w' w0.heap.size (fun k_=>(P0_ k_∨w.heap.size≤k_)) (.slice Ao2 l0.length co2) l0)∧Aside0 (zcr w w' (fun k_=>P0_ k_))∧Aside0 (Below w0.heap.size w0 w'))
 case atStart=>exact⟨((l0.length:Int)),(by first | rfl | (simp; done) | (simp [*]; done)),H',⟨Nat.le_refl _⟩,⟨by (with_reducible repeat (first | apply Kd.R_alloc | apply Kd.R_drewN | apply Kd.R_drew)); exact HO0.out⟩,⟨by repeat (first | (with_reducible first | exact HK.out | apply zcr.alloc | apply zcr.drewN | apply zcr.drew) | exact HK.out)⟩,⟨by repeat (first | (with_reducible first | exact HB.out | apply zbq | apply zbr | apply zbv) | exact HB.out)⟩⟩
 case round =>
  clear H'
  try clear c1
  try clear p2
  obtain⟨x3_1,rfl,HA,HK1,HO_0,HK,HB⟩:=hrel
  cases gk with
  | zero=>exact absurd HA.out (by simp [fluxionref02_trim.l0])
  | succ k1 =>
   have H:=HA.out
   clear HA
   simp only [fluxionref02_trim.l0] at H
   by_cases c3:x3_1 > 0
   ·
    rw [if_pos c3] at H
    have c3b0:decide (0 < x3_1)=true:=decide_eq_true c3
    clear c3
    obtain⟨ji4,hji4⟩:∃ j_:Int,(wrap64 (x3_1-1))=j_:=⟨_,rfl⟩
    replace H:(if 0≤(ji4) then (if (ji4) < (l0.length:Int) then (if (rd l0 (ji4))=0 then (fluxionref02_trim.l0 k1 l0 ji4) else (if 0≤x3_1 then (if x3_1≤(l0.length:Int) then (some (l0.take (x3_1:Int).toNat)) else (none)) else (none))) else (none)) else (none))=some r:=by first | (rw [hji4] at H; exact H) | (simp only [hji4] at H ⊢; exact H)
    have hji4w:(IntKind.i64.wrap (x3_1-1))=ji4:=(zcj _).trans hji4
    by_cases c5:0≤(ji4)
    ·
     rw [if_pos c5] at H
     have c5b0:decide (0≤(ji4))=true:=decide_eq_true c5
     clear c5
     by_cases c6:(ji4) < (l0.length:Int)
     ·
      rw [if_pos c6] at H
      have c6b0:decide ((ji4) < (l0.length:Int))=true:=decide_eq_true c6
      clear c6
      by_cases c7:(rd l0 (ji4))=0
      ·
       rw [if_pos c7] at H
       have c7b0:((rd l0 (ji4)) == 0)=true:=beq_iff_eq.mpr c7
       have c7b1:((rd l0 (ji4)) != 0)=false:=bne_eq_false_iff_eq.mpr c7
       clear c7
       have H':=Aside0.mk H
       clear H
       have p179:0≤((ji4):Int):=of_decide_eq_true qs
       have q179:(ji4) < (l0.length:Int):=of_decide_eq_true qs
       obtain⟨ad179,e179,hx179_0⟩:=Kd.at_int (Kd.R_reads' HO_0.out).2.2 (ji4) p179 q179
       cases e179
       replace p179:=eq_true p179
       replace q179:=eq_true q179
       go_wp2
       go_roundg k1
       case measure=>have:=HK1.out; omega
       case rel=>exact⟨(ji4),(by first | rfl | (simp; done) | (simp only [← hji4]<;>(first | rfl | simp)) | (simp [*]; done)),H',⟨by have:=HK1.out; omega⟩,⟨by (with_reducible repeat (first | apply Kd.R_alloc | apply Kd.R_drewN | apply Kd.R_drew)); exact HO_0.out⟩,⟨by repeat (first | (with_reducible first | exact HK.out | apply zcr.alloc | apply zcr.drewN | apply zcr.drew) | exact HK.out)⟩,⟨by repeat (first | (with_reducible first | exact HB.out | apply zbq | apply zbr | apply zbv) | exact HB.out)⟩⟩
      ·
       rw [if_neg c7] at H
       have c7b0:((rd l0 (ji4)) == 0)=false:=beq_eq_false_iff_ne.mpr c7
       have c7b1:((rd l0 (ji4)) != 0)=true:=bne_iff_ne.mpr c7
       by_cases c8:0≤x3_1
       ·
        rw [if_pos c8] at H
        have c8b0:=eq_true c8
        have c8b1:decide (0≤x3_1)=true:=decide_eq_true c8
        clear c8
        by_cases c9:x3_1≤(l0.length:Int)
        ·
         rw [if_pos c9] at H
         have c9b0:=eq_true c9
         have c9b1:decide (x3_1≤(l0.length:Int))=true:=decide_eq_true c9
         clear c9
         obtain⟨y180,hy180⟩:∃ y_:List Int,y_=(l0.take (x3_1:Int).toNat):=⟨_,rfl⟩
         replace H:(some y180)=some r:=by first | (rw [hy180]; with_reducible exact H) | (have H2_:=(Option.bind_some _ _).symm.trans H; rw [hy180]; with_reducible exact H2_) | (have H2_:=(Option.bind_some _ _).symm.trans H; with_reducible exact H2_) | with_reducible exact H | (rw [hy180]; exact H) | exact H
         have Ny180:=Aside0.mk hy180
         clear hy180
         obtain rfl:=Option.some.inj H
         have p179:0≤((ji4):Int):=of_decide_eq_true qs
         have q179:(ji4) < (l0.length:Int):=of_decide_eq_true qs
         obtain⟨ad179,e179,hx179_0⟩:=Kd.at_int (Kd.R_reads' HO_0.out).2.2 (ji4) p179 q179
         cases e179
         replace p179:=eq_true p179
         replace q179:=eq_true q179
         have q10:(x3_1:Int)≤((l0.length:Int):Int):=of_decide_eq_true qs
         obtain⟨i010,hi010,_,hsz10,_⟩:=info_parts info3
         have hcut10:=cut_to (P:=Try.prog) 34 3 .i64 Try.underlying34 hi010 (some ad179) l0.length co2 x3_1 (of_decide_eq_true qs) q10 (Kd.R_reads' HO_0.out).2.1
         have hr10:=Kd.R_take (m:=(x3_1:Int).toNat) HO_0.out (by omega)
         have hy10:y180.length=(x3_1:Int).toNat:=(by rw [Ny180.out,List.length_take]; omega)
         rw [← Ny180.out] at hr10
         rw [← hy10] at hr10 hcut10
         clear hy10 hi010 hsz10 HO_0
         have HO182:=Aside0.mk hr10
         clear hr10
         replace q10:=eq_true q10
         go_wp2
         go_ret
         exact⟨_,by first | rfl | (simp [zbz,zbA]<;>rfl) | (simp only [← hji4]; first | rfl | (simp [zbz,zbA]<;>rfl)) | (simp [*,zbz,zbA]<;>rfl),by (with_reducible repeat (first | apply Kd.R_alloc | apply Kd.R_drewN | apply Kd.R_drew)); exact HO182.out,by repeat (first | (with_reducible first | exact HB.out | apply zbq | apply zbr | apply zbv) | exact HB.out),by repeat (first | (with_reducible first | exact HK.out | apply zcr.alloc | apply zcr.drewN | apply zcr.drew) | exact HK.out)⟩
        ·
         rw [if_neg c9] at H
         exact absurd H (by simp)
       ·
        rw [if_neg c8] at H
        exact absurd H (by simp)
     ·
      rw [if_neg c6] at H
      exact absurd H (by simp)
    ·
     rw [if_neg c5] at H
     exact absurd H (by simp)
   ·
    rw [if_neg c3] at H
    have c3b0:decide (0 < x3_1)=false:=decide_eq_false c3
    clear c3
    by_cases c11:0≤x3_1
    ·
     rw [if_pos c11] at H
     have c11b0:=eq_true c11
     have c11b1:decide (0≤x3_1)=true:=decide_eq_true c11
     clear c11
     by_cases c12:x3_1≤(l0.length:Int)
     ·
      rw [if_pos c12] at H
      have c12b0:=eq_true c12
      have c12b1:decide (x3_1≤(l0.length:Int))=true:=decide_eq_true c12
      clear c12
      obtain⟨y183,hy183⟩:∃ y_:List Int,y_=(l0.take (x3_1:Int).toNat):=⟨_,rfl⟩
      replace H:(some y183)=some r:=by first | (rw [hy183]; with_reducible exact H) | (have H2_:=(Option.bind_some _ _).symm.trans H; rw [hy183]; with_reducible exact H2_) | (have H2_:=(Option.bind_some _ _).symm.trans H; with_reducible exact H2_) | with_reducible exact H | (rw [hy183]; exact H) | exact H
      have Ny183:=Aside0.mk hy183
      clear hy183
      obtain rfl:=Option.some.inj H
      have q13:(x3_1:Int)≤((l0.length:Int):Int):=of_decide_eq_true qs
      obtain⟨i013,hi013,_,hsz13,_⟩:=info_parts info3
      have hcut13:=cut_to (P:=Try.prog) 34 3 .i64 Try.underlying34 hi013 Ao2 l0.length co2 x3_1 (of_decide_eq_true qs) q13 (Kd.R_reads' HO_0.out).2.1
      have hr13:=Kd.R_take (m:=(x3_1:Int).toNat) HO_0.out (by omega)
      have hy13:y183.length=(x3_1:Int).toNat:=(by rw [Ny183.out,List.length_take]; omega)
      rw [← Ny183.out] at hr13
      rw [← hy13] at hr13 hcut13
      clear hy13 hi013 hsz13 HO_0
      have HO185:=Aside0.mk hr13
      clear hr13
      replace q13:=eq_true q13
      go_wp2
      go_ret
      exact⟨_,by first | rfl | (simp [zbz,zbA]<;>rfl) | (simp [*,zbz,zbA]<;>rfl),by (with_reducible repeat (first | apply Kd.R_alloc | apply Kd.R_drewN | apply Kd.R_drew)); exact HO185.out,by repeat (first | (with_reducible first | exact HB.out | apply zbq | apply zbr | apply zbv) | exact HB.out),by repeat (first | (with_reducible first | exact HK.out | apply zcr.alloc | apply zcr.drewN | apply zcr.drew) | exact HK.out)⟩
     ·
      rw [if_neg c12] at H
      exact absurd H (by simp)
    ·
     rw [if_neg c11] at H
     exact absurd H (by simp)
def fluxionref02_digit.l0:Nat→List Int→List Int→Int→Int→Option (Int)
 | 0,_,_,_,_=>none
 | k+1,x0,x1,x5,x6=>if (wrap64 (x6-x5)) > 1 then ((fluxionref01_Times.f k x1 (wrap64 (Int.tdiv (wrap64 (x5+x6)) 2))).bind fun t186=>((fluxionref01_Cmp.f k t186 x0).bind fun t189=>(if t189≤0 then (fluxionref02_digit.l0 k x0 x1 (wrap64 (Int.tdiv (wrap64 (x5+x6)) 2)) x6) else (fluxionref02_digit.l0 k x0 x1 x5 (wrap64 (Int.tdiv (wrap64 (x5+x6)) 2)))))) else (some x5)
def fluxionref02_digit.f (k:Nat) (l0:List Int) (l1:List Int):Option (Int):=fluxionref02_digit.l0 k l0 l1 0 10000
theorem fluxionref02_digit.calls (k:Nat) (A0:Option Addr) (c0:Nat) (l0:List Int) (A1:Option Addr) (c1:Nat) (l1:List Int) (r:Int) (w:World) (hr0:Kd.C (Kd.int .i64) w A0 l0.length l0) (hc0:l0.length≤c0) (hr1:Kd.C (Kd.int .i64) w A1 l1.length l1) (hc1:l1.length≤c1) (h:fluxionref02_digit.f k l0 l1=some r) :
  Calls Try.prog 102 #[.slice A0 l0.length c0,.slice A1 l1.length c1] w fun e w'=>e=.returned (.int .i64 r)∧Below w.heap.size w w':=by
 have HR0:=Aside0.mk hr0
 have HC0:=Aside0.mk hc0
 clear hr0 hc0
 have HR1:=Aside0.mk hr1
 have HC1:=Aside0.mk hc1
 clear hr1 hc1
 have HB:=Aside0.mk (Below.refl w.heap.size w)
 have H:(fluxionref02_digit.l0 k l0 l1 0 10000)=some r:=h
 clear h
 have H':=Aside0.mk H
 clear H
 go_enter Try.func102,Try.ntmps102
 go_wp2
 go_loopg [5,6] k (fun kq v5 v6 w'=>∃ (x5_1:Int) (x6_1:Int),v5=.int .i64 x5_1∧v6=.int .i64 x6_1∧Aside0 (fluxionref02_digit.l0 kq l0 l1 x5_1 x6_1=some r)∧Aside0 (kq≤k)∧Aside0 (Below w.heap.size w w'))
 case atStart=>exact⟨(0),(10000),(by first | rfl | (simp; done) | (simp [*]; done)),(by first | rfl | (simp; done) | (simp [*]; done)),H',⟨Nat.le_refl _⟩,⟨by repeat (first | (with_reducible first | exact HB.out | apply zbq | apply zbr | apply zbv) | exact HB.out)⟩⟩
 case round =>
  clear H'
  try clear c1
  try clear p2
  obtain⟨x5_1,x6_1,rfl,rfl,HA,HK1,HB⟩:=hrel
  cases gk with
  | zero=>exact absurd HA.out (by simp [fluxionref02_digit.l0])
  | succ k1 =>
   have H:=HA.out
   clear HA
   simp only [fluxionref02_digit.l0] at H
   by_cases c3:(wrap64 (x6_1-x5_1)) > 1
   ·
    rw [if_pos c3] at H
    have c3b0:decide (1 < (wrap64 (x6_1-x5_1)))=true:=decide_eq_true c3
    clear c3
    replace H:=Option.bind_eq_some_iff.mp H
    obtain⟨t186,A40,H⟩:=H
    replace H:((fluxionref01_Cmp.f k1 t186 l0).bind fun t189=>(if t189≤0 then (fluxionref02_digit.l0 k1 l0 l1 (wrap64 (Int.tdiv (wrap64 (x5_1+x6_1)) 2)) x6_1) else (fluxionref02_digit.l0 k1 l0 l1 x5_1 (wrap64 (Int.tdiv (wrap64 (x5_1+x6_1)) 2)))))=some r:=H
    have A4:=Aside0.mk A40
    clear A40
    replace H:=Option.bind_eq_some_iff.mp H
    obtain⟨t189,A50,H⟩:=H
    replace H:(if t189≤0 then (fluxionref02_digit.l0 k1 l0 l1 (wrap64 (Int.tdiv (wrap64 (x5_1+x6_1)) 2)) x6_1) else (fluxionref02_digit.l0 k1 l0 l1 x5_1 (wrap64 (Int.tdiv (wrap64 (x5_1+x6_1)) 2))))=some r:=H
    have A5:=Aside0.mk A50
    clear A50
    by_cases c6:t189≤0
    ·
     rw [if_pos c6] at H
     have c6b0:decide (t189≤0)=true:=decide_eq_true c6
     clear c6
     have H':=Aside0.mk H
     clear H
     go_wp2_with (first | ((with_reducible refine zbC (f:=67) rfl ?_); refine zbO (some 18) rfl rfl Try.func67 (by kernel_rfl) rfl #[.slice A1 l1.length c1,.int .i64 (wrap64 (Int.tdiv (wrap64 (x5_1+x6_1)) 2))] rfl (by (try simp only [List.map_toArray,List.map_cons,List.map_nil]); first | done | rfl | (simp only [List.length_drop,List.length_take]; rfl)) ?_; (with_reducible refine(fluxionref01_Times.calls k1 _ _ l1 (wrap64 (Int.tdiv (wrap64 (x5_1+x6_1)) 2)) t186 _ ?side1 ?side2 A4.out).mono ?_); (case side1=>exact qc (Kd.C_below HR1.out HB.out)); (case side2=>exact HC1.out); rintro e w7 ⟨v187,rfl,ho0,hb⟩; refine⟨_,rfl,?_⟩; have n0_:=Aside0.mk (Kd.R_lower ho0 (zbs (qb HB.out))); have n1_:=Aside0.mk (zbp (qb HB.out) hb); clear HB; have HO188:=n0_; have HB:=n1_; clear n0_ n1_; (try clear hb); (try clear hb2); (try clear hk); (try clear hi); (try clear ho0); obtain⟨Ao8,co8,eo8⟩:=Kd.R_slice HO188.out; subst eo8) | ((with_reducible refine zbC (f:=74) rfl ?_); refine zbO (some 20) rfl rfl Try.func74 (by kernel_rfl) rfl #[.slice Ao8 t186.length co8,.slice A0 l0.length c0] rfl (by (try simp only [List.map_toArray,List.map_cons,List.map_nil]); first | done | rfl | (simp only [List.length_drop,List.length_take]; rfl)) ?_; (with_reducible refine(fluxionref01_Cmp.calls k1 _ _ t186 _ _ l0 t189 _ ?side1 ?side2 ?side3 ?side4 A5.out).mono ?_); (case side1=>exact qc (Kd.R_reads' HO188.out).2.2); (case side2=>exact(Kd.R_reads' HO188.out).2.1); (case side3=>exact qc (Kd.C_below HR0.out HB.out)); (case side4=>exact HC0.out); rintro e w' ⟨rfl,⟨nd,rfl⟩⟩; refine⟨_,rfl,?_⟩))
     go_roundg k1
     case measure=>have:=HK1.out; omega
     case rel=>exact⟨(wrap64 (Int.tdiv (wrap64 (x5_1+x6_1)) 2)),(x6_1),(by first | rfl | (simp; done) | (simp [*]; done)),(by first | rfl | (simp; done) | (simp [*]; done)),H',⟨by have:=HK1.out; omega⟩,⟨by repeat (first | (with_reducible first | exact HB.out | apply zbq | apply zbr | apply zbv) | exact HB.out)⟩⟩
    ·
     rw [if_neg c6] at H
     have c6b0:decide (t189≤0)=false:=decide_eq_false c6
     clear c6
     have H':=Aside0.mk H
     clear H
     go_wp2_with (first | ((with_reducible refine zbC (f:=67) rfl ?_); refine zbO (some 18) rfl rfl Try.func67 (by kernel_rfl) rfl #[.slice A1 l1.length c1,.int .i64 (wrap64 (Int.tdiv (wrap64 (x5_1+x6_1)) 2))] rfl (by (try simp only [List.map_toArray,List.map_cons,List.map_nil]); first | done | rfl | (simp only [List.length_drop,List.length_take]; rfl)) ?_; (with_reducible refine(fluxionref01_Times.calls k1 _ _ l1 (wrap64 (Int.tdiv (wrap64 (x5_1+x6_1)) 2)) t186 _ ?side1 ?side2 A4.out).mono ?_); (case side1=>exact qc (Kd.C_below HR1.out HB.out)); (case side2=>exact HC1.out); rintro e w9 ⟨v187,rfl,ho0,hb⟩; refine⟨_,rfl,?_⟩; have n0_:=Aside0.mk (Kd.R_lower ho0 (zbs (qb HB.out))); have n1_:=Aside0.mk (zbp (qb HB.out) hb); clear HB; have HO188:=n0_; have HB:=n1_; clear n0_ n1_; (try clear hb); (try clear hb2); (try clear hk); (try clear hi); (try clear ho0); obtain⟨Ao10,co10,eo10⟩:=Kd.R_slice HO188.out; subst eo10) | ((with_reducible refine zbC (f:=74) rfl ?_); refine zbO (some 20) rfl rfl Try.func74 (by kernel_rfl) rfl #[.slice Ao10 t186.length co10,.slice A0 l0.length c0] rfl (by (try simp only [List.map_toArray,List.map_cons,List.map_nil]); first | done | rfl | (simp only [List.length_drop,List.length_take]; rfl)) ?_; (with_reducible refine(fluxionref01_Cmp.calls k1 _ _ t186 _ _ l0 t189 _ ?side1 ?side2 ?side3 ?side4 A5.out).mono ?_); (case side1=>exact qc (Kd.R_reads' HO188.out).2.2); (case side2=>exact(Kd.R_reads' HO188.out).2.1); (case side3=>exact qc (Kd.C_below HR0.out HB.out)); (case side4=>exact HC0.out); rintro e w' ⟨rfl,⟨nd,rfl⟩⟩; refine⟨_,rfl,?_⟩))
     go_roundg k1
     case measure=>have:=HK1.out; omega
     case rel=>exact⟨(x5_1),(wrap64 (Int.tdiv (wrap64 (x5_1+x6_1)) 2)),(by first | rfl | (simp; done) | (simp [*]; done)),(by first | rfl | (simp; done) | (simp [*]; done)),H',⟨by have:=HK1.out; omega⟩,⟨by repeat (first | (with_reducible first | exact HB.out | apply zbq | apply zbr | apply zbv) | exact HB.out)⟩⟩
   ·
    rw [if_neg c3] at H
    have c3b0:decide (1 < (wrap64 (x6_1-x5_1)))=false:=decide_eq_false c3
    clear c3
    obtain rfl:=Option.some.inj H
    go_wp2
    go_ret
    exact⟨by first | rfl | (simp [zbz,zbA]<;>rfl) | (simp [*,zbz,zbA]<;>rfl),by repeat (first | (with_reducible first | exact HB.out | apply zbq | apply zbr | apply zbv) | exact HB.out)⟩
def fluxionref02_DivMod.l0:Nat→List Int→List Int→List Int→List Int→Int→Option (List Int×List Int)
 | 0,_,_,_,_,_=>none
 | k+1,x0,x1,x7,x8,x9=>if x9 ≥ 0 then (if 0≤x9 then (if x9 < (x0.length:Int) then ((some (([rd x0 x9]:List Int):List Int)).bind fun y204=>(if y204.length+x8.length < 17592186044416 then ((fluxionref02_trim.f k (y204++x8)).bind fun t210=>((fluxionref02_digit.f k t210 x1).bind fun t213=>(if x9 < (x7.length:Int) then ((fluxionref01_Times.f k x1 t213).bind fun t215=>((fluxionref01_Sub.f k t210 t215).bind fun bt218=>(fluxionref02_DivMod.l0 k x0 x1 (x7.set (x9:Int).toNat t213) bt218.1 (wrap64 (x9-1))))) else (none)))) else (none))) else (none)) else (none)) else ((fluxionref02_trim.f k x7).bind fun t200=>(some (t200,x8)))
def fluxionref02_DivMod.f (k:Nat) (l0:List Int) (l1:List Int):Option (List Int×List Int):=if 0≤(mx (wrap64 ((wrap64 ((l0.length:Int)-(l1.length:Int)))+1)) 0) then (if (mx (wrap64 ((wrap64 ((l0.length:Int)-(l1.length:Int)))+1)) 0:Int).toNat≤35184372088832 then ((some (([]:List Int):List Int)).bind fun y193=>(if (mx (wrap64 ((wrap64 ((l0.length:Int)-(l1.length:Int)))+1)) 0)≤(l0.length:Int) then (if y193.length+(l0.drop ((mx (wrap64 ((wrap64 ((l0.length:Int)-(l1.length:Int)))+1)) 0):Int).toNat).length < 17592186044416 then (fluxionref02_DivMod.l0 k l0 l1 (List.replicate (mx (wrap64 ((wrap64 ((l0.length:Int)-(l1.length:Int)))+1)) 0:Int).toNat 0) (y193++(l0.drop ((mx (wrap64 ((wrap64 ((l0.length:Int)-(l1.length:Int)))+1)) 0):Int).toNat)) (wrap64 ((mx (wrap64 ((wrap64 ((l0.length:Int)-(l1.length:Int)))+1)) 0)-1))) else (none)) else (none))) else (none)) else (none)
theorem fluxionref02_DivMod.calls (k:Nat) (A0:Option Addr) (c0:Nat) (l0:List Int) (A1:Option Addr) (c1:Nat) (l1:List Int) (r1:List Int) (r2:List Int) (w:World) (hr0:Kd.C (Kd.int .i64) w A0 l0.length l0) (hc0:l0.length≤c0) (hr1:Kd.C (Kd.int .i64) w A1 l1.length l1) (hc1:l1.length≤c1) (h:fluxionref02_DivMod.f k l0 l1=some (r1,r2)) :
  Calls Try.prog 70 #[.slice A0 l0.length c0,.slice A1 l1.length c1] w fun e w'=>∃ v0_ v1_:Value,e=.returned (.tuple #[v0_,v1_])∧Kd.R (Kd.int .i64) 3 w' w.heap.size (fun k_=>some k_≠(v1_:Value).ownBlock) v0_ r1∧Kd.R (Kd.int .i64) 3 w' w.heap.size (fun k_=>some k_≠(v0_:Value).ownBlock) v1_ r2∧Below w.heap.size w w':=by
 have HR0:=Aside0.mk hr0
 have HC0:=Aside0.mk hc0
 clear hr0 hc0
 have HR1:=Aside0.mk hr1
 have HC1:=Aside0.mk hc1
 clear hr1 hc1
 have HB:=Aside0.mk (Below.refl w.heap.size w)
 have H:(if 0≤(mx (wrap64 ((wrap64 ((l0.length:Int)-(l1.length:Int)))+1)) 0) then (if (mx (wrap64 ((wrap64 ((l0.length:Int)-(l1.length:Int)))+1)) 0:Int).toNat≤35184372088832 then ((some (([]:List Int):List Int)).bind fun y193=>(if (mx (wrap64 ((wrap64 ((l0.length:Int)-(l1.length:Int)))+1)) 0)≤(l0.length:Int) then (if y193.length+(l0.drop ((mx (wrap64 ((wrap64 ((l0.length:Int)-(l1.length:Int)))+1)) 0):Int).toNat).length < 17592186044416 then (fluxionref02_DivMod.l0 k l0 l1 (List.replicate (mx (wrap64 ((wrap64 ((l0.length:Int)-(l1.length:Int)))+1)) 0:Int).toNat 0) (y193++(l0.drop ((mx (wrap64 ((wrap64 ((l0.length:Int)-(l1.length:Int)))+1)) 0):Int).toNat)) (wrap64 ((mx (wrap64 ((wrap64 ((l0.length:Int)-(l1.length:Int)))+1)) 0)-1))) else (none)) else (none))) else (none)) else (none))=some (r1,r2):=h
 clear h
 obtain⟨ji3,hji3⟩:∃ j_:Int,(mx (wrap64 ((wrap64 ((l0.length:Int)-(l1.length:Int)))+1)) 0)=j_:=⟨_,rfl⟩
 replace H:(if 0≤(ji3) then (if (ji3:Int).toNat≤35184372088832 then ((some (([]:List Int):List Int)).bind fun y193=>(if (ji3)≤(l0.length:Int) then (if y193.length+(l0.drop ((ji3):Int).toNat).length < 17592186044416 then (fluxionref02_DivMod.l0 k l0 l1 (List.replicate (ji3:Int).toNat 0) (y193++(l0.drop ((ji3):Int).toNat)) (wrap64 ((ji3)-1))) else (none)) else (none))) else (none)) else (none))=some (r1,r2):=by first | (rw [hji3] at H; exact H) | (simp only [hji3] at H ⊢; exact H)
 (try (have hji3l:0≤ji3:=by (rw [← hji3]; unfold mx; (repeat' split)<;>omega)))
 (try (have hji3m:0≤ji3:=by omega))
 have hji3_:(if (wrap64 ((wrap64 ((l0.length:Int)-(l1.length:Int)))+1)) < 0 then 0 else (wrap64 ((wrap64 ((l0.length:Int)-(l1.length:Int)))+1)))=ji3:=hji3
 by_cases c4:0≤(ji3)
 ·
  rw [if_pos c4] at H
  have c4b0:=eq_true c4
  have c4b1:decide (0≤(ji3))=true:=decide_eq_true c4
  clear c4
  by_cases c5:(ji3:Int).toNat≤35184372088832
  ·
   rw [if_pos c5] at H
   have c5b0:=eq_true c5
   have c5b1:decide ((ji3:Int).toNat≤35184372088832)=true:=decide_eq_true c5
   clear c5
   obtain⟨y190,hy190⟩:∃ y_:List Int,y_=(List.replicate (ji3:Int).toNat 0):=⟨_,rfl⟩
   replace H:((some (([]:List Int):List Int)).bind fun y193=>(if (ji3)≤(l0.length:Int) then (if y193.length+(l0.drop ((ji3):Int).toNat).length < 17592186044416 then (fluxionref02_DivMod.l0 k l0 l1 y190 (y193++(l0.drop ((ji3):Int).toNat)) (wrap64 ((ji3)-1))) else (none)) else (none)))=some (r1,r2):=by first | (rw [hy190]; with_reducible exact H) | (have H2_:=(Option.bind_some _ _).symm.trans H; rw [hy190]; with_reducible exact H2_) | (have H2_:=(Option.bind_some _ _).symm.trans H; with_reducible exact H2_) | with_reducible exact H | (rw [hy190]; exact H) | exact H
   have Ny190:=Aside0.mk hy190
   clear hy190
   obtain⟨y193,hy193⟩:∃ y_:List Int,y_=(([]:List Int)):=⟨_,rfl⟩
   replace H:(if (ji3)≤(l0.length:Int) then (if y193.length+(l0.drop ((ji3):Int).toNat).length < 17592186044416 then (fluxionref02_DivMod.l0 k l0 l1 y190 (y193++(l0.drop ((ji3):Int).toNat)) (wrap64 ((ji3)-1))) else (none)) else (none))=some (r1,r2):=by first | (rw [hy193]; with_reducible exact H) | (have H2_:=(Option.bind_some _ _).symm.trans H; rw [hy193]; with_reducible exact H2_) | (have H2_:=(Option.bind_some _ _).symm.trans H; with_reducible exact H2_) | with_reducible exact H | (rw [hy193]; exact H) | exact H
   have Ny193:=Aside0.mk hy193
   clear hy193
   have c6b0:=eq_true (of_decide_eq_true qs:0≤(ji3))
   by_cases c7:(ji3)≤(l0.length:Int)
   ·
    rw [if_pos c7] at H
    have c7b0:=eq_true c7
    have c7b1:decide ((ji3)≤(l0.length:Int))=true:=decide_eq_true c7
    clear c7
    by_cases c8:y193.length+(l0.drop ((ji3):Int).toNat).length < 17592186044416
    ·
     rw [if_pos c8] at H
     have LMc8:=Aside0.mk c8
     clear c8
     obtain⟨y197,hy197⟩:∃ y_:List Int,y_=(y193++(l0.drop ((ji3):Int).toNat)):=⟨_,rfl⟩
     replace H:(fluxionref02_DivMod.l0 k l0 l1 y190 y197 (wrap64 ((ji3)-1)))=some (r1,r2):=by first | (rw [hy197]; with_reducible exact H) | (have H2_:=(Option.bind_some _ _).symm.trans H; rw [hy197]; with_reducible exact H2_) | (have H2_:=(Option.bind_some _ _).symm.trans H; with_reducible exact H2_) | with_reducible exact H | (rw [hy197]; exact H) | exact H
     have Ny197:=Aside0.mk hy197
     clear hy197
     have H':=Aside0.mk H
     clear H
     go_enter Try.func70,Try.ntmps70
     go_wp2_with (first | ((with_reducible refine zbG (N:=21) rfl ?_); refine Kd.R_make (Kd.int .i64) _ 3 rfl (N:=21) rfl 34 _ _ rfl ji3 rfl rfl Try.underlying34 (.int .i64 0) 8 info3 rfl (by decide) (by omega) 0 (ok:=fun _=>True) (okp:=fun _=>True) rfl (fun _ hk=>hk) trivial (of_decide_eq_true qs) (Nat.le_trans (Nat.mul_le_mul_right _ (of_decide_eq_true qs:ji3.toNat≤35184372088832)) (by omega)) (Below.refl _ _) (Nat.le_refl _) ?_; intro v191 w9 ho10 hb hg_ hnew_; clear hg_ hnew_; (first | rw [← Ny190.out] at ho10 | (simp only [Int.reduceToNat] at ho10; rw [← Ny190.out] at ho10)); have n0_:=Aside0.mk (Kd.R_lower ho10 (zbs (qb HB.out))); have n1_:=Aside0.mk (zbp (qb HB.out) hb); clear HB; have HO192:=n0_; have HB:=n1_; clear n0_ n1_; clear hb ho10) | ((with_reducible refine zbG (N:=22) rfl ?_); refine Kd.R_lit (Kd.int .i64) _ 3 ?hg (N:=22) ?hd (xs:=([]:List Int)) (inner:=[]) (ok:=fun _=>True) (okp:=fun _=>True) ?hr ?hp (fun _ hk=>hk) trivial (Below.refl _ _) (Nat.le_refl _) (by simp) ?_; (case hd=>rfl); (case hg=>rfl); (case hr=>first | (go_simp; done) | (go_simp; rfl)); (case hp=>exact(Reps.none _ _)); intro v194 w11 ho12 hb hg_ hnew_; clear hg_ hnew_; (first | rw [← Ny193.out] at ho12 | (simp only [Int.reduceToNat] at ho12; rw [← Ny193.out] at ho12)); have n0_:=Aside0.mk (Kd.R_elder' (qr HO192.out) (Kd.R_base ho12) hb); have n1_:=Aside0.mk (Kd.R_lower (Kd.R_new' ho12 (Kd.R_lt (qr HO192.out))) (zbs (qb HB.out))); have n2_:=Aside0.mk (zbp (qb HB.out) hb); clear HO192; clear HB; have HO192:=n0_; have HO195:=n1_; have HB:=n2_; clear n0_ n1_ n2_; clear hb ho12; obtain⟨i013,hi013,_,hsz13,_⟩:=info_parts info3; obtain⟨A13,hcut13,hA13,hC13⟩:=print_drop_of (P:=Try.prog) (Value.int .i64) 0 34 3 .i64 Try.underlying34 hi013 hsz13 A0 c0 l0 (ji3) (of_decide_eq_true qs) (of_decide_eq_true qs) HC0.out; have HR196:=Aside0.mk (Kd.C_of_reads (h1:=fun _=>rfl) (hA13 _ (Kd.reads_of_C HR0.out))); have HC196:=Aside0.mk hC13; clear hA13 hC13 hi013 hsz13) | ((with_reducible refine zbV (b:=.append) (xs:=#[.tmp 22,.tmp 25]) rfl ?_); at_builtin; refine Kd.R_append_rows (Kd.int .i64) (w0:=w) w.heap.size rfl (.tmp 22) (.tmp 25) 34 3 (.int .i64 0) 8 rfl Try.underlying34 info3 rfl (by decide) (by omega) v194 y193 (l0.drop ((ji3):Int).toNat) _ _ _ (fun k_=>some k_≠(v191:Value).ownBlock) (fun _=>False) rfl rfl ?aO ?aR (fun _ _ h=>h) (fun _ h=>h.elim) ?aF ?aB ?aS ?aL ?_; (case aR=>first | (rw [← show (l0.drop ((ji3):Int).toNat).length=(l0.length-(ji3).toNat) from List.length_drop]; exact qc (Kd.C_below HR196.out HB.out)) | (exact qc (Kd.C_below HR196.out HB.out))); (case aB=>exact(qb HB.out)); (case aF=>exact(fun k_ hk=>Kd.fresh' (Kd.R_lt (qr HO192.out)) k_ hk)); (case aO=>exact(by (with_reducible repeat (first | apply Kd.R_alloc | apply Kd.R_drewN | apply Kd.R_drew)); exact Kd.R_mono HO195.out (fun _ hk=>hk.2))); (case aS=>exact(zbs (qb HB.out))); (case aL=>have:=LMc8.out; have hlx_:=(show (l0.drop ((ji3):Int).toNat).length=(l0.length-(ji3).toNat) from List.length_drop); omega); intro v198 w14 ho hb hg hat; rw [← Ny197.out] at ho; have n0_:=Aside0.mk (Kd.R_after (ok:=(fun _=>True)) (qr HO192.out) hg hat); have n1_:=Aside0.mk (hb); have n2_:=Aside0.mk (ho); clear HO192; clear HB; clear HO195; have HO192:=n0_; have HB:=n1_; have HO199:=n2_; clear n0_ n1_ n2_; clear ho hb hg hat))
     go_loopg [8,9] k (fun kq v8 v9 w'=>∃ (x7_1:List Int) (x8_1:List Int) (x9_1:Int),v9=.int .i64 x9_1∧Aside0 (fluxionref02_DivMod.l0 kq l0 l1 x7_1 x8_1 x9_1=some (r1,r2))∧Aside0 (kq≤k)∧Aside0 (Kd.R (Kd.int .i64) 3 w' w.heap.size (fun k_=>some k_≠(v8:Value).ownBlock) v191 x7_1)∧Aside0 (Kd.R (Kd.int .i64) 3 w' w.heap.size (fun k_=>some k_≠(v191:Value).ownBlock) v8 x8_1)∧Aside0 (Below w.heap.size w w'))
     case atStart=>exact⟨(y190),(y197),(wrap64 ((ji3)-1)),(by first | rfl | (simp; done) | (simp only [← hji3]<;>(first | rfl | simp)) | (simp [*]; done)),H',⟨Nat.le_refl _⟩,⟨by (with_reducible repeat (first | apply Kd.R_alloc | apply Kd.R_drewN | apply Kd.R_drew)); exact Kd.R_mono HO192.out (fun _ hk=>hk.2)⟩,⟨by (with_reducible repeat (first | apply Kd.R_alloc | apply Kd.R_drewN | apply Kd.R_drew)); exact HO199.out⟩,⟨by repeat (first | (with_reducible first | exact HB.out | apply zbq | apply zbr | apply zbv) | exact HB.out)⟩⟩
     case round =>
      clear H'
      try clear c1
      try clear p2
      try clear c4
      try clear c4b0
      try clear c4b1
      try clear c5
      try clear c5b0
      try clear c5b1
      try clear c6
      try clear c6b0
      try clear p6
      try clear c7
      try clear c7b0
      try clear c7b1
      try clear c8
      obtain⟨x7_1,x8_1,x9_1,rfl,HA,HK1,HO_7,HO_8,HB⟩:=hrel
      cases gk with
      | zero=>exact absurd HA.out (by simp [fluxionref02_DivMod.l0])
      | succ k1 =>
       have H:=HA.out
       clear HA
       simp only [fluxionref02_DivMod.l0] at H
       by_cases c15:x9_1 ≥ 0
       ·
        rw [if_pos c15] at H
        have c15b0:decide (0≤x9_1)=true:=decide_eq_true c15
        clear c15
        by_cases c16:0≤x9_1
        ·
         rw [if_pos c16] at H
         have c16b0:decide (0≤x9_1)=true:=decide_eq_true c16
         clear c16
         by_cases c17:x9_1 < (l0.length:Int)
         ·
          rw [if_pos c17] at H
          have c17b0:decide (x9_1 < (l0.length:Int))=true:=decide_eq_true c17
          clear c17
          obtain⟨y204,hy204⟩:∃ y_:List Int,y_=(([rd l0 x9_1]:List Int)):=⟨_,rfl⟩
          replace H:(if y204.length+x8_1.length < 17592186044416 then ((fluxionref02_trim.f k1 (y204++x8_1)).bind fun t210=>((fluxionref02_digit.f k1 t210 l1).bind fun t213=>(if x9_1 < (x7_1.length:Int) then ((fluxionref01_Times.f k1 l1 t213).bind fun t215=>((fluxionref01_Sub.f k1 t210 t215).bind fun bt218=>(fluxionref02_DivMod.l0 k1 l0 l1 (x7_1.set (x9_1:Int).toNat t213) bt218.1 (wrap64 (x9_1-1))))) else (none)))) else (none))=some (r1,r2):=by first | (rw [hy204]; with_reducible exact H) | (have H2_:=(Option.bind_some _ _).symm.trans H; rw [hy204]; with_reducible exact H2_) | (have H2_:=(Option.bind_some _ _).symm.trans H; with_reducible exact H2_) | with_reducible exact H | (rw [hy204]; exact H) | exact H
          have Ny204:=Aside0.mk hy204
          clear hy204
          by_cases c18:y204.length+x8_1.length < 17592186044416
          ·
           rw [if_pos c18] at H
           have LMc18:=Aside0.mk c18
           clear c18
           obtain⟨y207,hy207⟩:∃ y_:List Int,y_=(y204++x8_1):=⟨_,rfl⟩
           replace H:((fluxionref02_trim.f k1 y207).bind fun t210=>((fluxionref02_digit.f k1 t210 l1).bind fun t213=>(if x9_1 < (x7_1.length:Int) then ((fluxionref01_Times.f k1 l1 t213).bind fun t215=>((fluxionref01_Sub.f k1 t210 t215).bind fun bt218=>(fluxionref02_DivMod.l0 k1 l0 l1 (x7_1.set (x9_1:Int).toNat t213) bt218.1 (wrap64 (x9_1-1))))) else (none))))=some (r1,r2):=by first | (rw [hy207]; with_reducible exact H) | (have H2_:=(Option.bind_some _ _).symm.trans H; rw [hy207]; with_reducible exact H2_) | (have H2_:=(Option.bind_some _ _).symm.trans H; with_reducible exact H2_) | with_reducible exact H | (rw [hy207]; exact H) | exact H
           have Ny207:=Aside0.mk hy207
           clear hy207
           replace H:=Option.bind_eq_some_iff.mp H
           obtain⟨t210,A190,H⟩:=H
           replace H:((fluxionref02_digit.f k1 t210 l1).bind fun t213=>(if x9_1 < (x7_1.length:Int) then ((fluxionref01_Times.f k1 l1 t213).bind fun t215=>((fluxionref01_Sub.f k1 t210 t215).bind fun bt218=>(fluxionref02_DivMod.l0 k1 l0 l1 (x7_1.set (x9_1:Int).toNat t213) bt218.1 (wrap64 (x9_1-1))))) else (none)))=some (r1,r2):=H
           have A19:=Aside0.mk A190
           clear A190
           replace H:=Option.bind_eq_some_iff.mp H
           obtain⟨t213,A200,H⟩:=H
           replace H:(if x9_1 < (x7_1.length:Int) then ((fluxionref01_Times.f k1 l1 t213).bind fun t215=>((fluxionref01_Sub.f k1 t210 t215).bind fun bt218=>(fluxionref02_DivMod.l0 k1 l0 l1 (x7_1.set (x9_1:Int).toNat t213) bt218.1 (wrap64 (x9_1-1))))) else (none))=some (r1,r2):=H
           have A20:=Aside0.mk A200
           clear A200
           by_cases c21:x9_1 < (x7_1.length:Int)
           ·
            rw [if_pos c21] at H
            have c21b0:decide (x9_1 < (x7_1.length:Int))=true:=decide_eq_true c21
            clear c21
            obtain⟨y214,hy214⟩:∃ y_:List Int,y_=(x7_1.set (x9_1:Int).toNat t213):=⟨_,rfl⟩
            replace H:((fluxionref01_Times.f k1 l1 t213).bind fun t215=>((fluxionref01_Sub.f k1 t210 t215).bind fun bt218=>(fluxionref02_DivMod.l0 k1 l0 l1 y214 bt218.1 (wrap64 (x9_1-1)))))=some (r1,r2):=by first | (rw [hy214]; with_reducible exact H) | (have H2_:=(Option.bind_some _ _).symm.trans H; rw [hy214]; with_reducible exact H2_) | (have H2_:=(Option.bind_some _ _).symm.trans H; with_reducible exact H2_) | with_reducible exact H | (rw [hy214]; exact H) | exact H
            have Ny214:=Aside0.mk hy214
            clear hy214
            replace H:=Option.bind_eq_some_iff.mp H
            obtain⟨t215,A230,H⟩:=H
            replace H:((fluxionref01_Sub.f k1 t210 t215).bind fun bt218=>(fluxionref02_DivMod.l0 k1 l0 l1 y214 bt218.1 (wrap64 (x9_1-1))))=some (r1,r2):=H
            have A23:=Aside0.mk A230
            clear A230
            replace H:=Option.bind_eq_some_iff.mp H
            obtain⟨⟨t218,t219⟩,A240,H⟩:=H
            replace H:(fluxionref02_DivMod.l0 k1 l0 l1 y214 t218 (wrap64 (x9_1-1)))=some (r1,r2):=H
            have A24:=Aside0.mk A240
            clear A240
            have H':=Aside0.mk H
            clear H
            have p203:0≤(x9_1:Int):=of_decide_eq_true qs
            have q203:x9_1 < (l0.length:Int):=of_decide_eq_true qs
            obtain⟨ad203,e203,hx203_0⟩:=Kd.at_int HR0.out x9_1 p203 q203
            cases e203
            replace hx203_0:=(HB.out.cell (World.block_lt_of_cell? w _ hx203_0)).trans hx203_0
            replace p203:=eq_true p203
            replace q203:=eq_true q203
            go_wp2_with (first | ((with_reducible refine zbG (N:=37) rfl ?_); refine Kd.R_lit (Kd.int .i64) _ 3 ?hg (N:=37) ?hd (xs:=([rd l0 x9_1]:List Int)) (inner:=[.int .i64 (rd l0 x9_1)]) (ok:=fun _=>True) (okp:=fun _=>True) ?hr ?hp (fun _ hk=>hk) trivial (Below.refl _ _) (Nat.le_refl _) (by simp) ?_; (case hd=>rfl); (case hg=>rfl); (case hr=>first | (go_simp; done) | (go_simp; rfl)); (case hp=>exact(Reps.one (show Kd.M (Kd.int .i64) _ _ _ (rd l0 x9_1) [.int .i64 (rd l0 x9_1)] from rfl) (Reps.none _ _))); intro v205 w25 ho26 hb hg_ hnew_; clear hg_ hnew_; (first | rw [← Ny204.out] at ho26 | (simp only [Int.reduceToNat] at ho26; rw [← Ny204.out] at ho26)); have n0_:=Aside0.mk (Kd.R_elder' (qr HO_7.out) (Kd.R_base ho26) hb); have n1_:=Aside0.mk (Kd.R_elder' (qr HO_8.out) (Kd.R_base ho26) hb); have n2_:=Aside0.mk (Kd.R_lower (Kd.R_new' (Kd.R_new' ho26 (Kd.R_lt (qr HO_7.out))) (Kd.R_lt (qr HO_8.out))) (zbs (qb HB.out))); have n3_:=Aside0.mk (zbp (qb HB.out) hb); clear HO_7; clear HO_8; clear HB; have HO_7:=n0_; have HO_8:=n1_; have HO206:=n2_; have HB:=n3_; clear n0_ n1_ n2_ n3_; clear hb ho26; obtain⟨Ao28,co28,eo28⟩:=Kd.R_slice HO_8.out; subst eo28) | ((with_reducible refine zbV (b:=.append) (xs:=#[.tmp 37,.tmp 38]) rfl ?_); at_builtin; refine Kd.R_append_rows (Kd.int .i64) (w0:=w) w.heap.size rfl (.tmp 37) (.tmp 38) 34 3 (.int .i64 0) 8 rfl Try.underlying34 info3 rfl (by decide) (by omega) v205 y204 x8_1 _ _ _ (fun k_=>some k_≠(v191:Value).ownBlock∧some k_≠(.slice Ao28 x8_1.length co28:Value).ownBlock) (fun _=>False) rfl rfl ?aO ?aR (fun _ _ h=>h) (fun _ h=>h.elim) ?aF ?aB ?aS ?aL ?_; (case aR=>exact qc (Kd.R_reads' HO_8.out).2.2); (case aB=>exact(qb HB.out)); (case aF=>exact(fun k_ hk=>⟨Kd.fresh' (Kd.R_lt (qr HO_7.out)) k_ hk,Kd.fresh' (Kd.R_lt (qr HO_8.out)) k_ hk⟩)); (case aO=>exact(by (with_reducible repeat (first | apply Kd.R_alloc | apply Kd.R_drewN | apply Kd.R_drew)); exact Kd.R_mono HO206.out (fun _ hk=>⟨hk.1.2,hk.2⟩))); (case aS=>exact(zbs (qb HB.out))); (case aL=>have:=LMc18.out; omega); intro v208 w27 ho hb hg hat; rw [← Ny207.out] at ho; have n0_:=Aside0.mk (Kd.R_after (ok:=(fun k_=>some k_≠(.slice Ao28 x8_1.length co28:Value).ownBlock)) (qr HO_7.out) hg hat); have n1_:=Aside0.mk (Kd.R_after (ok:=(fun k_=>some k_≠(v191:Value).ownBlock)) (qr HO_8.out) hg hat); have n2_:=Aside0.mk (hb); have n3_:=Aside0.mk (ho); clear HO_7; clear HO_8; clear HB; clear HO206; have HO_7:=n0_; have HO_8:=n1_; have HB:=n2_; have HO209:=n3_; clear n0_ n1_ n2_ n3_; clear ho hb hg hat; obtain⟨Ao29,co29,eo29⟩:=Kd.R_slice HO209.out; subst eo29) | ((with_reducible refine zbC (f:=101) rfl ?_); refine zbO (some 40) rfl rfl Try.func101 (by kernel_rfl) rfl #[.slice Ao29 y207.length co29] rfl (by (try simp only [List.map_toArray,List.map_cons,List.map_nil]); first | done | rfl | (simp only [List.length_drop,List.length_take]; rfl)) ?_; (with_reducible refine(fluxionref02_trim.calls k1 (fun k_=>some k_=(.slice Ao29 y207.length co29:Value).ownBlock) (.slice Ao29 y207.length co29) y207 t210 w _ ?side1 ?side2 A19.out).mono ?_); (case side1=>repeat (first | (with_reducible first | exact HB.out | apply zbq | apply zbr | apply zbv) | exact HB.out)); (case side2=>exact Kd.R_tight rfl HO209.out); rintro e w30 ⟨v211,rfl,ho0,hb,hkp⟩; refine⟨_,rfl,?_⟩; have n0_:=Aside0.mk (Kd.R_mono (ok':=fun k_=>some k_≠(.slice Ao28 x8_1.length co28:Value).ownBlock∧some k_≠(v211:Value).ownBlock) (Kd.R_keptB (HO_7.out) hkp (fun k_ hk_ hs_=>(hk_.2) hs_)) (fun k_ hk_=>⟨hk_.1.1,fun e_=>Or.elim (ho0.1 k_ e_.symm) (fun hs_=>hk_.2.1 hs_) (fun hn_=>Nat.not_le.2 hk_.2.2 hn_)⟩)); have n1_:=Aside0.mk (Kd.R_mono (ok':=fun k_=>some k_≠(v191:Value).ownBlock∧some k_≠(v211:Value).ownBlock) (Kd.R_keptB (HO_8.out) hkp (fun k_ hk_ hs_=>(hk_.2) hs_)) (fun k_ hk_=>⟨hk_.1.1,fun e_=>Or.elim (ho0.1 k_ e_.symm) (fun hs_=>hk_.2.1 hs_) (fun hn_=>Nat.not_le.2 hk_.2.2 hn_)⟩)); have n2_:=Aside0.mk (Kd.R_mono (ok':=fun k_=>some k_≠(v191:Value).ownBlock∧some k_≠(.slice Ao28 x8_1.length co28:Value).ownBlock) ho0 (fun k_ hk_=>⟨Or.elim hk_ (fun hs_=>fun e_=>(((HO_7.out).1 k_ e_.symm).2) hs_) (fun hn_=>(Kd.fresh' (Kd.R_lt (qr HO_7.out)) k_ hn_)),Or.elim hk_ (fun hs_=>fun e_=>(((HO_8.out).1 k_ e_.symm).2) hs_) (fun hn_=>(Kd.fresh' (Kd.R_lt (qr HO_8.out)) k_ hn_))⟩)); have n3_:=Aside0.mk (hb); clear HO_7; clear HO_8; clear HB; clear HO209; have HO_7:=n0_; have HO_8:=n1_; have HO212:=n2_; have HB:=n3_; clear n0_ n1_ n2_ n3_; (try clear hb); (try clear hkp); (try clear ho0); obtain⟨Ao31,co31,eo31⟩:=Kd.R_slice HO212.out; subst eo31) | ((with_reducible refine zbC (f:=102) rfl ?_); refine zbO (some 43) rfl rfl Try.func102 (by kernel_rfl) rfl #[.slice Ao31 t210.length co31,.slice A1 l1.length c1] rfl (by (try simp only [List.map_toArray,List.map_cons,List.map_nil]); first | done | rfl | (simp only [List.length_drop,List.length_take]; rfl)) ?_; (with_reducible refine(fluxionref02_digit.calls k1 _ _ t210 _ _ l1 t213 _ ?side1 ?side2 ?side3 ?side4 A20.out).mono ?_); (case side1=>exact qc (Kd.R_reads' HO212.out).2.2); (case side2=>exact(Kd.R_reads' HO212.out).2.1); (case side3=>exact qc (Kd.C_below HR1.out HB.out)); (case side4=>exact HC1.out); rintro e w32 ⟨rfl,hb⟩; refine⟨_,rfl,?_⟩; have n0_:=Aside0.mk (Kd.R_below (qr HO_7.out) hb); have n1_:=Aside0.mk (Kd.R_below (qr HO_8.out) hb); have n2_:=Aside0.mk (Kd.R_below (qr HO212.out) hb); have n3_:=Aside0.mk (zbp (qb HB.out) hb); clear HO_7; clear HO_8; clear HO212; clear HB; have HO_7:=n0_; have HO_8:=n1_; have HO212:=n2_; have HB:=n3_; clear n0_ n1_ n2_ n3_; (try clear hb); (try clear hb2); (try clear hk); (try clear hi); have p22:0≤(x9_1:Int):=of_decide_eq_true qs; have q22:(x9_1:Int) < ((x7_1.length:Int):Int):=of_decide_eq_true qs; obtain⟨go22,co22,eo22,gb22,gl22,cl22,HG22⟩:=Kd.R_form HO_7.out (by omega); (first | cases eo22 | (injection eo22 with ea_ en_ ec_; (first | subst ea_ | (injection ea_ with ea_; subst ea_)); subst ec_; clear en_)); have GB22:=Aside0.mk gb22; have GG22:=Aside0.mk HG22; clear gb22 gl22 HG22; obtain⟨hx22_0,hf22_0⟩:=Kd.R_celln 0 HO_7.out (x9_1:Int) p22 q22; replace p22:=eq_true p22; replace q22:=eq_true q22; obtain⟨hy33_,hz33_⟩:=Kd.R_celln 0 HO_7.out (x9_1:Int) (of_decide_eq_true qs) (of_decide_eq_true qs); have HP33:=Kd.R_putg HO_7.out (x9_1:Int) t213) | ((with_reducible refine gate_store (t:=3) (p:=47) rfl ?_); refine store_event (t:=3) (p:=47) (v:=?vo_w34) (w1:=(w32.setCell ⟨go22,(x9_1:Int).toNat,none⟩ (.int .i64 t213))) ?hg ?ho ?hn ?hr ?_; (case ho=>rfl); (case hg=>rfl); (case hn=>rfl); (case hr=>first | (go_simp; done) | (go_simp; rfl)); intro w34 hw; have hg:w32.grownBy w34 (some go22):=(by rw [hw]; exact HP33.2); have hp_:Kd.R (Kd.int .i64) 3 w34 w.heap.size (fun k_=>some k_≠(.slice Ao28 x8_1.length co28:Value).ownBlock∧some k_≠(.slice Ao31 t210.length co31:Value).ownBlock) (.slice (some ⟨go22,0,none⟩) x7_1.length co22) y214:=(by rw [hw,Ny214.out]; exact HP33.1); clear HP33; have n0_:=Aside0.mk (hp_); have n1_:=Aside0.mk (Kd.R_after (v:=(.slice (some ⟨go22,0,none⟩) x7_1.length co22)) (v1:=(.slice (some ⟨go22,0,none⟩) x7_1.length co22)) (ok:=(fun k_=>some k_≠(.slice Ao31 t210.length co31:Value).ownBlock)) (by (with_reducible repeat (first | apply Kd.R_alloc | apply Kd.R_drewN | apply Kd.R_drew)); exact Kd.R_mono HO_8.out (fun _ hk=>⟨hk.2,hk.1⟩)) hg (.inl rfl)); have n2_:=Aside0.mk (Kd.R_after (v:=(.slice (some ⟨go22,0,none⟩) x7_1.length co22)) (v1:=(.slice (some ⟨go22,0,none⟩) x7_1.length co22)) (ok:=(fun k_=>some k_≠(.slice Ao28 x8_1.length co28:Value).ownBlock)) (by (with_reducible repeat (first | apply Kd.R_alloc | apply Kd.R_drewN | apply Kd.R_drew)); exact Kd.R_mono HO212.out (fun _ hk=>⟨hk.2,hk.1⟩)) hg (.inl rfl)); have n3_:=Aside0.mk ((by rw [hw]; exact zbE (HB.out) GB22.out:Below w.heap.size w w34)); clear HO_7; clear HO_8; clear HO212; clear HB; have HO_7:=n0_; have HO_8:=n1_; have HO212:=n2_; have HB:=n3_; clear n0_ n1_ n2_ n3_; clear hg hw hp_) | ((with_reducible refine zbC (f:=67) rfl ?_); refine zbO (some 52) rfl rfl Try.func67 (by kernel_rfl) rfl #[.slice A1 l1.length c1,.int .i64 t213] rfl (by (try simp only [List.map_toArray,List.map_cons,List.map_nil]); first | done | rfl | (simp only [List.length_drop,List.length_take]; rfl)) ?_; (with_reducible refine(fluxionref01_Times.calls k1 _ _ l1 t213 t215 _ ?side1 ?side2 A23.out).mono ?_); (case side1=>exact qc (Kd.C_below HR1.out HB.out)); (case side2=>exact HC1.out); rintro e w35 ⟨v216,rfl,ho0,hb⟩; refine⟨_,rfl,?_⟩; have n0_:=Aside0.mk (Kd.R_elder' (qr HO_7.out) (Kd.R_base ho0) hb); have n1_:=Aside0.mk (Kd.R_elder' (qr HO_8.out) (Kd.R_base ho0) hb); have n2_:=Aside0.mk (Kd.R_elder' (qr HO212.out) (Kd.R_base ho0) hb); have n3_:=Aside0.mk (Kd.R_lower (Kd.R_new' (Kd.R_new' (Kd.R_new' ho0 (Kd.R_lt (qr HO_7.out))) (Kd.R_lt (qr HO_8.out))) (Kd.R_lt (qr HO212.out))) (zbs (qb HB.out))); have n4_:=Aside0.mk (zbp (qb HB.out) hb); clear HO_7; clear HO_8; clear HO212; clear HB; have HO_7:=n0_; have HO_8:=n1_; have HO212:=n2_; have HO217:=n3_; have HB:=n4_; clear n0_ n1_ n2_ n3_ n4_; (try clear hb); (try clear hb2); (try clear hk); (try clear hi); (try clear ho0); obtain⟨Ao36,co36,eo36⟩:=Kd.R_slice HO217.out; subst eo36) | ((with_reducible refine zbC (f:=75) rfl ?_); refine zbO (some 53) rfl rfl Try.func75 (by kernel_rfl) rfl #[.slice Ao31 t210.length co31,.slice Ao36 t215.length co36] rfl (by (try simp only [List.map_toArray,List.map_cons,List.map_nil]); first | done | rfl | (simp only [List.length_drop,List.length_take]; rfl)) ?_; (with_reducible refine(fluxionref01_Sub.calls k1 _ _ t210 _ _ t215 t218 t219 _ ?side1 ?side2 ?side3 ?side4 A24.out).mono ?_); (case side1=>exact qc (Kd.R_reads' HO212.out).2.2); (case side2=>exact(Kd.R_reads' HO212.out).2.1); (case side3=>exact qc (Kd.R_reads' HO217.out).2.2); (case side4=>exact(Kd.R_reads' HO217.out).2.1); rintro e w37 ⟨v220,rfl,ho0,hb⟩; refine⟨_,rfl,?_⟩; have n0_:=Aside0.mk (Kd.R_elder' (qr HO_7.out) (Kd.R_base ho0) hb); have n1_:=Aside0.mk (Kd.R_elder' (qr HO_8.out) (Kd.R_base ho0) hb); have n2_:=Aside0.mk (Kd.R_elder' (qr HO212.out) (Kd.R_base ho0) hb); have n3_:=Aside0.mk (Kd.R_elder' (qr HO217.out) (Kd.R_base ho0) hb); have n4_:=Aside0.mk (Kd.R_lower (Kd.R_new' (Kd.R_new' (Kd.R_new' (Kd.R_new' ho0 (Kd.R_lt (qr HO_7.out))) (Kd.R_lt (qr HO_8.out))) (Kd.R_lt (qr HO212.out))) (Kd.R_lt (qr HO217.out))) (zbs (qb HB.out))); have n5_:=Aside0.mk (zbp (qb HB.out) hb); clear HO_7; clear HO_8; clear HO212; clear HO217; clear HB; have HO_7:=n0_; have HO_8:=n1_; have HO212:=n2_; have HO217:=n3_; have HO221:=n4_; have HB:=n5_; clear n0_ n1_ n2_ n3_ n4_ n5_; (try clear hb); (try clear hb2); (try clear hk); (try clear hi); (try clear ho0)))
            go_roundg k1
            case measure=>have:=HK1.out; omega
            case rel=>exact⟨(y214),(t218),(wrap64 (x9_1-1)),(by first | rfl | (simp; done) | (simp [*]; done)),H',⟨by have:=HK1.out; omega⟩,⟨by (with_reducible repeat (first | apply Kd.R_alloc | apply Kd.R_drewN | apply Kd.R_drew)); exact Kd.R_mono HO_7.out (fun _ hk=>hk.2)⟩,⟨by (with_reducible repeat (first | apply Kd.R_alloc | apply Kd.R_drewN | apply Kd.R_drew)); exact Kd.R_mono HO221.out (fun _ hk=>hk.1.1.1.2)⟩,⟨by repeat (first | (with_reducible first | exact HB.out | apply zbq | apply zbr | apply zbv) | exact HB.out)⟩⟩
           ·
            rw [if_neg c21] at H
            exact absurd H (by simp)
          ·
           rw [if_neg c18] at H
           exact absurd H (by simp)
         ·
          rw [if_neg c17] at H
          exact absurd H (by simp)
        ·
         rw [if_neg c16] at H
         exact absurd H (by simp)
       ·
        rw [if_neg c15] at H
        have c15b0:decide (0≤x9_1)=false:=decide_eq_false c15
        clear c15
        replace H:=Option.bind_eq_some_iff.mp H
        obtain⟨t200,A380,H⟩:=H
        replace H:(some (t200,x8_1))=some (r1,r2):=H
        have A38:=Aside0.mk A380
        clear A380
        simp only [Option.some.injEq,Prod.mk.injEq] at H
        obtain⟨rfl,rfl⟩:=H
        obtain⟨Ao39,co39,eo39⟩:=Kd.R_slice HO_7.out
        subst eo39
        go_wp2_with (first | ((with_reducible refine zbC (f:=101) rfl ?_); refine zbO (some 58) rfl rfl Try.func101 (by kernel_rfl) rfl #[.slice Ao39 x7_1.length co39] rfl (by (try simp only [List.map_toArray,List.map_cons,List.map_nil]); first | done | rfl | (simp only [List.length_drop,List.length_take]; rfl)) ?_; (with_reducible refine(fluxionref02_trim.calls k1 (fun k_=>some k_=(.slice Ao39 x7_1.length co39:Value).ownBlock) (.slice Ao39 x7_1.length co39) x7_1 t200 w _ ?side1 ?side2 A38.out).mono ?_); (case side1=>repeat (first | (with_reducible first | exact HB.out | apply zbq | apply zbr | apply zbv) | exact HB.out)); (case side2=>exact Kd.R_tight rfl HO_7.out); rintro e w40 ⟨v201,rfl,ho0,hb,hkp⟩; refine⟨_,rfl,?_⟩; have n0_:=Aside0.mk (Kd.R_mono (ok':=fun k_=>some k_≠(v201:Value).ownBlock) (Kd.R_keptB (HO_8.out) hkp (fun k_ hk_ hs_=>(hk_) hs_)) (fun k_ hk_=>fun e_=>Or.elim (ho0.1 k_ e_.symm) (fun hs_=>hk_.2.1 hs_) (fun hn_=>Nat.not_le.2 hk_.2.2 hn_))); have n1_:=Aside0.mk (Kd.R_mono (ok':=fun k_=>some k_≠(u8:Value).ownBlock) ho0 (fun k_ hk_=>Or.elim hk_ (fun hs_=>fun e_=>(((HO_8.out).1 k_ e_.symm)) hs_) (fun hn_=>(Kd.fresh' (Kd.R_lt (qr HO_8.out)) k_ hn_)))); have n2_:=Aside0.mk (hb); clear HO_8; clear HB; clear HO_7; have HO_8:=n0_; have HO202:=n1_; have HB:=n2_; clear n0_ n1_ n2_; (try clear hb); (try clear hkp); (try clear ho0)))
        go_ret2
        exact⟨_,_,by first | rfl | (simp [zbz,zbA]<;>rfl) | (simp only [← hji3]; first | rfl | (simp [zbz,zbA]<;>rfl)) | (simp [*,zbz,zbA]<;>rfl),by (with_reducible repeat (first | apply Kd.R_alloc | apply Kd.R_drewN | apply Kd.R_drew)); exact HO202.out,by (with_reducible repeat (first | apply Kd.R_alloc | apply Kd.R_drewN | apply Kd.R_drew)); exact HO_8.out,by repeat (first | (with_reducible first | exact HB.out | apply zbq | apply zbr | apply zbv) | exact HB.out)⟩
    ·
     rw [if_neg c8] at H
     exact absurd H (by simp)
   ·
    rw [if_neg c7] at H
    exact absurd H (by simp)
  ·
   rw [if_neg c5] at H
   exact absurd H (by simp)
 ·
  rw [if_neg c4] at H
  exact absurd H (by simp)
def fluxionref02_Gcd.l0:Nat→List Int→List Int→Option (List Int)
 | 0,_,_=>none
 | k+1,x0,x1=>if (x1.length:Int) > 0 then ((fluxionref02_DivMod.f k x0 x1).bind fun bt222=>(fluxionref02_Gcd.l0 k x1 bt222.2)) else (some x0)
def fluxionref02_Gcd.f (k:Nat) (l0:List Int) (l1:List Int):Option (List Int):=fluxionref02_Gcd.l0 k l0 l1
theorem fluxionref02_Gcd.calls (k:Nat) (P0_:Nat→Prop) (A0:Option Addr) (c0:Nat) (l0:List Int) (P1_:Nat→Prop) (A1:Option Addr) (c1:Nat) (l1:List Int) (r:List Int) (w:World) (hs0:Kd.V (Kd.int .i64) 3 w w.heap.size (fun k_=>P0_ k_) (.slice A0 l0.length c0) l0) (hs1:Kd.V (Kd.int .i64) 3 w w.heap.size (fun k_=>P1_ k_) (.slice A1 l1.length c1) l1) (h:fluxionref02_Gcd.f k l0 l1=some r) :
  Calls Try.prog 69 #[.slice A0 l0.length c0,.slice A1 l1.length c1] w fun e w'=>∃ v0_:Value,e=.returned (v0_)∧Kd.V (Kd.int .i64) 3 w' w.heap.size (fun k_=>((P0_ k_∨P1_ k_)∨w.heap.size≤k_)) v0_ r∧Below w.heap.size w w':=by
 have HO0:=Aside0.mk (show Kd.V (Kd.int .i64) 3 w w.heap.size (fun k_=>((P0_ k_∨P1_ k_)∨w.heap.size≤k_)) (.slice A0 l0.length c0) l0 from Kd.V_mono hs0 (fun k_ hk=>.inl (.inl hk)))
 have HO1:=Aside0.mk (show Kd.V (Kd.int .i64) 3 w w.heap.size (fun k_=>((P0_ k_∨P1_ k_)∨w.heap.size≤k_)) (.slice A1 l1.length c1) l1 from Kd.V_mono hs1 (fun k_ hk=>.inl (.inr hk)))
 have HB:=Aside0.mk (Below.refl w.heap.size w)
 have H:(fluxionref02_Gcd.l0 k l0 l1)=some r:=h
 clear h
 have H':=Aside0.mk H
 clear H
 go_enter Try.func69,Try.ntmps69
 go_wp2
 go_loopg [0,1] k (fun kq v0 v1 w'=>∃ (x0_1:List Int) (x1_1:List Int),Aside0 (fluxionref02_Gcd.l0 kq x0_1 x1_1=some r)∧Aside0 (kq≤k)∧Aside0 (Kd.V (Kd.int .i64) 3 w' w.heap.size (fun k_=>((P0_ k_∨P1_ k_)∨w.heap.size≤k_)) v0 x0_1)∧Aside0 (Kd.V (Kd.int .i64) 3 w' w.heap.size (fun k_=>((P0_ k_∨P1_ k_)∨w.heap.size≤k_)) v1 x1_1)∧Aside0 (Below w.heap.size w w'))
 case atStart=>exact⟨(l0),(l1),H',⟨Nat.le_refl _⟩,⟨by (with_reducible repeat (first | apply Kd.V_alloc | apply Kd.V_drewN | apply Kd.V_drew)); exact HO0.out⟩,⟨by (with_reducible repeat (first | apply Kd.V_alloc | apply Kd.V_drewN | apply Kd.V_drew)); exact HO1.out⟩,⟨by repeat (first | (with_reducible first | exact HB.out | apply zbq | apply zbr | apply zbv) | exact HB.out)⟩⟩
 case round =>
  clear H'
  try clear c1
  try clear p2
  obtain⟨x0_1,x1_1,HA,HK1,HO_0,HO_1,HB⟩:=hrel
  cases gk with
  | zero=>exact absurd HA.out (by simp [fluxionref02_Gcd.l0])
  | succ k1 =>
   have H:=HA.out
   clear HA
   simp only [fluxionref02_Gcd.l0] at H
   by_cases c3:(x1_1.length:Int) > 0
   ·
    rw [if_pos c3] at H
    have c3b0:decide (0 < (x1_1.length:Int))=true:=decide_eq_true c3
    have c3b1:decide (0 < x1_1.length)=true:=decide_eq_true (by omega)
    clear c3
    replace H:=Option.bind_eq_some_iff.mp H
    obtain⟨⟨t222,t223⟩,A40,H⟩:=H
    replace H:(fluxionref02_Gcd.l0 k1 x1_1 t223)=some r:=H
    have A4:=Aside0.mk A40
    clear A40
    have H':=Aside0.mk H
    clear H
    obtain⟨Ao5,co5,eo5⟩:=Kd.V_slice HO_1.out
    subst eo5
    obtain⟨Ao6,co6,eo6⟩:=Kd.V_slice HO_0.out
    subst eo6
    go_wp2_with (first | ((with_reducible refine zbC (f:=70) rfl ?_); refine zbO (some 13) rfl rfl Try.func70 (by kernel_rfl) rfl #[.slice Ao6 x0_1.length co6,.slice Ao5 x1_1.length co5] rfl (by (try simp only [List.map_toArray,List.map_cons,List.map_nil]); first | done | rfl | (simp only [List.length_drop,List.length_take]; rfl)) ?_; (with_reducible refine(fluxionref02_DivMod.calls k1 _ _ x0_1 _ _ x1_1 t222 t223 _ ?side1 ?side2 ?side3 ?side4 A4.out).mono ?_); (case side1=>exact qc (Kd.V_reads' HO_0.out).2.2); (case side2=>exact(Kd.V_reads' HO_0.out).2.1); (case side3=>exact qc (Kd.V_reads' HO_1.out).2.2); (case side4=>exact(Kd.V_reads' HO_1.out).2.1); rintro e w7 ⟨v224,v226,rfl,ho0,ho1,hb⟩; refine⟨_,rfl,?_⟩; have n0_:=Aside0.mk (Kd.V_mono (Kd.V_told (Kd.V_told (Kd.V_old (by (with_reducible repeat (first | apply Kd.V_alloc | apply Kd.V_drewN | apply Kd.V_drew)); exact HO_0.out) hb) (Kd.R_base ho0)) (Kd.R_base ho1)) (fun _ h_=>h_.1)); have n1_:=Aside0.mk (Kd.V_mono (Kd.V_told (Kd.V_told (Kd.V_old (by (with_reducible repeat (first | apply Kd.V_alloc | apply Kd.V_drewN | apply Kd.V_drew)); exact HO_1.out) hb) (Kd.R_base ho0)) (Kd.R_base ho1)) (fun _ h_=>h_.1)); have n2_:=Aside0.mk (Kd.R_lower (Kd.R_newM (M:=fun k_=>(w.heap.size≤k_)) ho0 (zbs (qb HB.out)) (fun k_ h_=>h_)) (zbs (qb HB.out))); have n3_:=Aside0.mk (Kd.R_lower (Kd.R_newM (M:=fun k_=>(w.heap.size≤k_)) ho1 (zbs (qb HB.out)) (fun k_ h_=>h_)) (zbs (qb HB.out))); have n4_:=Aside0.mk (zbp (qb HB.out) hb); clear HO_0; clear HO_1; clear HB; have HO_0:=n0_; have HO_1:=n1_; have HO225:=n2_; have HO227:=n3_; have HB:=n4_; clear n0_ n1_ n2_ n3_ n4_; (try clear hb); (try clear hb2); (try clear hk); (try clear hi); (try clear ho0); (try clear ho1)))
    go_roundg k1
    case measure=>have:=HK1.out; omega
    case rel=>exact⟨(x1_1),(t223),H',⟨by have:=HK1.out; omega⟩,⟨by (with_reducible repeat (first | apply Kd.V_alloc | apply Kd.V_drewN | apply Kd.V_drew)); exact Kd.V_mono HO_1.out (fun _ hk=>hk.1.1)⟩,⟨Kd.V_mono (Kd.R_V (by (with_reducible repeat (first | apply Kd.R_alloc | apply Kd.R_drewN | apply Kd.R_drew)); exact Kd.R_mono HO227.out (fun _ hk=>hk.1))) (fun k_ hk=>by first | exact⟨(.inr (hk.1)),hk.2⟩ | exact(.inr (hk)))⟩,⟨by repeat (first | (with_reducible first | exact HB.out | apply zbq | apply zbr | apply zbv) | exact HB.out)⟩⟩
   ·
    rw [if_neg c3] at H
    have c3b0:decide (0 < (x1_1.length:Int))=false:=decide_eq_false c3
    have c3b1:decide (0 < x1_1.length)=false:=decide_eq_false (by omega)
    clear c3
    obtain rfl:=Option.some.inj H
    obtain⟨Ao8,co8,eo8⟩:=Kd.V_slice HO_1.out
    subst eo8
    go_wp2
    go_ret
    exact⟨_,by first | rfl | (simp [zbz,zbA]<;>rfl) | (simp [*,zbz,zbA]<;>rfl),by (with_reducible repeat (first | apply Kd.V_alloc | apply Kd.V_drewN | apply Kd.V_drew)); exact HO_0.out,by repeat (first | (with_reducible first | exact HB.out | apply zbq | apply zbr | apply zbv) | exact HB.out)⟩
def fluxionref03_Make.j0:Nat→Bool→List Int→List Int→Bool→Option (Bool×List Int×List Int)
 | 0,_,_,_,_=>none
 | k+1,x0,x1,x2,x19=>if x19=true then (some (false,([]:List Int),(([1]:List Int)))) else ((fluxionref02_Gcd.f k x1 x2).bind fun t232=>((fluxionref02_DivMod.f k x1 t232).bind fun bt235=>((fluxionref02_DivMod.f k x2 t232).bind fun bt241=>(some (x0,bt235.1,bt241.1)))))
def fluxionref03_Make.f (k:Nat) (a0:Bool) (l1:List Int) (l2:List Int):Option (Bool×List Int×List Int):=if (l1.length:Int)=0 then (fluxionref03_Make.j0 k a0 l1 l2 true) else (fluxionref03_Make.j0 k a0 l1 l2 ((l2.length:Int) == 0))
theorem fluxionref03_Make.calls (k:Nat) (a0:Bool) (A1:Option Addr) (c1:Nat) (l1:List Int) (A2:Option Addr) (c2:Nat) (l2:List Int) (r1:Bool) (r2:List Int) (r3:List Int) (w:World) (hr1:Kd.C (Kd.int .i64) w A1 l1.length l1) (hc1:l1.length≤c1) (hr2:Kd.C (Kd.int .i64) w A2 l2.length l2) (hc2:l2.length≤c2) (h:fluxionref03_Make.f k a0 l1 l2=some (r1,r2,r3)) :
  Calls Try.prog 25 #[.bool a0,.slice A1 l1.length c1,.slice A2 l2.length c2] w fun e w'=>∃ v1_ v2_:Value,e=.returned (.agg #[.bool r1,v1_,v2_])∧Kd.R (Kd.int .i64) 3 w' w.heap.size (fun k_=>some k_≠(v2_:Value).ownBlock) v1_ r2∧Kd.R (Kd.int .i64) 3 w' w.heap.size (fun k_=>some k_≠(v1_:Value).ownBlock) v2_ r3∧Below w.heap.size w w':=by
 have hu36:=Try.underlying36
 have HR1:=Aside0.mk hr1
 have HC1:=Aside0.mk hc1
 clear hr1 hc1
 have HR2:=Aside0.mk hr2
 have HC2:=Aside0.mk hc2
 clear hr2 hc2
 have HB:=Aside0.mk (Below.refl w.heap.size w)
 have H:(if (l1.length:Int)=0 then (fluxionref03_Make.j0 k a0 l1 l2 true) else (fluxionref03_Make.j0 k a0 l1 l2 ((l2.length:Int) == 0)))=some (r1,r2,r3):=h
 clear h
 have HC4:=Aside0.mk H
 clear H
 go_enter Try.func25,Try.ntmps25
 go_upto_region 1 with (first | ((with_reducible refine zbG (N:=6) rfl ?_); (try (refine gate_guard (by rfl) ?_; dsimp only)); refine zbF ?hg (N:=6) ?hd (cs:=#[.bool false,.slice none 0 0,.slice none 0 0]) (t:=36) ?hr ?_; (case hd=>rfl); (case hg=>rfl); (case hr=>first | (go_simp; done) | (go_simp; rfl)); intro gb228 hg w5 hbox hb; have n0_:=Aside0.mk (zbp (qb HB.out) hb); have n1_:=Aside0.mk (hbox); have n2_:=Aside0.mk ((by rw [hg]; exact(zbs (qb HB.out)):w.heap.size≤gb228)); have n3_:=Aside0.mk ((by rw [hg]; exact(zbs (qb HB.out)):w.heap.size≤gb228)); clear HB; have HB:=n0_; have BK228:=n1_; have GW228:=n2_; have GE228:=n3_; clear n0_ n1_ n2_ n3_; clear hb hbox hg))
 (try simp only [Act.put,zA1,zA2,zA3])
 go_cut [19] (fun v19 wc=>∃ (kq:Nat) (x19_3:Bool),v19=.bool x19_3∧Aside0 (fluxionref03_Make.j0 kq a0 l1 l2 x19_3=some (r1,r2,r3))∧Aside0 (kq≤k)∧Aside0 (wc.heap[gb228]? = some (.cells #[.bool false,(.slice none 0 0),(.slice none 0 0)] 36 (0,0)))∧Aside0 (Below w.heap.size w wc))
 case first =>
  have H:=HC4.out
  clear HC4
  by_cases c6:(l1.length:Int)=0
  ·
   rw [if_pos c6] at H
   have c6b0:((l1.length:Int) == 0)=true:=beq_iff_eq.mpr c6
   have c6b1:((l1.length:Int) != 0)=false:=bne_eq_false_iff_eq.mpr c6
   clear c6
   (first | rw [c6b0] | (simp only [zcj,zcz]; rw [c6b0]) | skip)
   have H':=Aside0.mk H
   clear H
   go_wp2
   go_meet
   case rel=>exact⟨_,(true),(by first | rfl | (simp; done) | (simp [*]; done)),H',⟨by first | omega | exact Nat.le_refl _⟩,⟨by (with_reducible repeat (first | refine zby ?_ _ | refine zbx ?_ | refine zbw ?_ _)); exact BK228.out⟩,⟨by repeat (first | (with_reducible first | exact HB.out | apply zbq | apply zbr | apply zbv | refine zbE ?_ GE228.out) | exact HB.out)⟩⟩
  ·
   rw [if_neg c6] at H
   have c6b0:((l1.length:Int) == 0)=false:=beq_eq_false_iff_ne.mpr c6
   have c6b1:((l1.length:Int) != 0)=true:=bne_iff_ne.mpr c6
   have c6b2:¬ (l1=[]):=fun h_=>c6 (by rw [h_]; rfl)
   (first | rw [c6b0] | (simp only [zcj,zcz]; rw [c6b0]) | skip)
   have H':=Aside0.mk H
   clear H
   go_wp2
   go_meet
   case rel=>exact⟨_,(((l2.length:Int) == 0)),(by first | rfl | (simp; done) | (simp [*]; done)),H',⟨by first | omega | exact Nat.le_refl _⟩,⟨by (with_reducible repeat (first | refine zby ?_ _ | refine zbx ?_ | refine zbw ?_ _)); exact BK228.out⟩,⟨by repeat (first | (with_reducible first | exact HB.out | apply zbq | apply zbr | apply zbv | refine zbE ?_ GE228.out) | exact HB.out)⟩⟩
 case rest =>
  clear HC4
  try clear c1
  try clear c2
  try clear p2
  try clear c6
  try clear c6b0
  try clear c6b1
  try clear c6b2
  obtain⟨kq,x19_3,rfl,HA,HJ3,BK228,HB⟩:=hcut
  cases kq with
  | zero=>exact absurd HA.out (by simp [fluxionref03_Make.j0])
  | succ kj3 =>
   have H:=HA.out
   clear HA
   simp only [fluxionref03_Make.j0] at H
   by_cases c7:x19_3=true
   ·
    subst c7
    have H1:(some (false,([]:List Int),(([1]:List Int))))=some (r1,r2,r3):=by rw [if_pos rfl] at H; exact H
    clear H
    have H:=H1
    clear H1
    obtain⟨y229,hy229⟩:∃ y_:List Int,y_=(([1]:List Int)):=⟨_,rfl⟩
    replace H:(some (false,([]:List Int),y229))=some (r1,r2,r3):=by first | (rw [hy229]; with_reducible exact H) | (have H2_:=(Option.bind_some _ _).symm.trans H; rw [hy229]; with_reducible exact H2_) | (have H2_:=(Option.bind_some _ _).symm.trans H; with_reducible exact H2_) | with_reducible exact H | (rw [hy229]; exact H) | exact H
    have Ny229:=Aside0.mk hy229
    clear hy229
    simp only [Option.some.injEq,Prod.mk.injEq] at H
    obtain⟨rfl,rfl,rfl⟩:=H
    go_wp2_with (first | ((with_reducible refine zbG (N:=20) rfl ?_); (try (refine gate_guard (by rfl) ?_; dsimp only)); refine Kd.R_lit (Kd.int .i64) _ 3 ?hg (N:=20) ?hd (xs:=([1]:List Int)) (inner:=[.int .i64 1]) (ok:=fun _=>True) (okp:=fun _=>True) ?hr ?hp (fun _ hk=>hk) trivial (Below.refl _ _) (Nat.le_refl _) (by simp) ?_; (case hd=>rfl); (case hg=>rfl); (case hr=>first | (go_simp; done) | (go_simp; rfl)); (case hp=>exact(Reps.one (show Kd.M (Kd.int .i64) _ _ _ 1 [.int .i64 1] from rfl) (Reps.none _ _))); intro v230 w8 ho9 hb hg_ hnew_; clear hg_ hnew_; (first | rw [← Ny229.out] at ho9 | (simp only [Int.reduceToNat] at ho9; rw [← Ny229.out] at ho9)); have n0_:=Aside0.mk (Kd.R_lower ho9 (zbs (qb1 HB.out GE228.out))); have n1_:=Aside0.mk (zbt (g:=gb228) (o:=.cells #[.bool false,.slice none 0 0,.slice none 0 0] 36 (0,0)) (qk BK228.out) hb); have n2_:=Aside0.mk (zbp (qb1 HB.out GE228.out) hb); clear BK228; clear HB; have HO231:=n0_; have BK228:=n1_; have HB:=n2_; clear n0_ n1_ n2_; clear hb ho9; obtain⟨Ao10,co10,eo10⟩:=Kd.R_slice HO231.out; subst eo10; obtain⟨hcz11_0,hcz11_1,hcz11_2,hfz11_0,hfz11_1,hfz11_2⟩:=qz BK228.out))
    refine bodyPost_ret (results_cell_row rfl _ _ gb228 36 #[.bool false,.slice none 0 0,.slice Ao10 y229.length co10] (0,0) _ rfl (by (with_reducible repeat (first | refine zby ?_ _ | refine zbx ?_ | refine zbw ?_ _)); refine zbK (cs:=#[.bool false,.slice none 0 0,.slice none 0 0]) ?_ 2 _ rfl; (with_reducible repeat (first | refine zby ?_ _ | refine zbx ?_ | refine zbw ?_ _)); refine zbK (cs:=#[.bool false,.slice none 0 0,.slice none 0 0]) ?_ 1 _ rfl; (with_reducible repeat (first | refine zby ?_ _ | refine zbx ?_ | refine zbw ?_ _)); refine zbK (cs:=#[.bool false,.slice none 0 0,.slice none 0 0]) ?_ 0 _ rfl; (with_reducible repeat (first | refine zby ?_ _ | refine zbx ?_ | refine zbw ?_ _)); exact BK228.out) Try.underlying36 rfl (by kernel_rfl)) rfl ?_
    exact⟨_,_,by first | rfl | (simp [zbz,zbA]<;>rfl) | (simp [*,zbz,zbA]<;>rfl),by first | exact Kd.R_nil _ _ _ _ _ | exact Kd.N_nil _ _ _ _ _ | exact Kd.V_nil _ _ _ _ _ | exact Kd.Q_nil _ _ _ _ _ | exact Kd.S_nil _ _ _ _ _,by (with_reducible repeat (first | apply Kd.R_alloc | apply Kd.R_drewN | apply Kd.R_drew)); exact Kd.R_mono (Kd.R_far (p:=⟨gb228,2,none⟩) (Kd.R_far (p:=⟨gb228,1,none⟩) (Kd.R_far (p:=⟨gb228,0,none⟩) (Kd.R_types HO231.out BK228.out (by decide)) (fun _ hk=>hk.2) (.bool false)) (fun _ hk=>hk.2) (.slice none 0 0)) (fun _ hk=>hk.2) (.slice Ao10 y229.length co10)) (fun _ hk=>(by simp [Value.ownBlock])),by repeat (first | (with_reducible first | exact HB.out | apply zbq | apply zbr | apply zbv | refine zbE ?_ GE228.out) | exact HB.out)⟩
   ·
    replace c7:=Bool.eq_false_iff.mpr c7
    subst c7
    have H1:((fluxionref02_Gcd.f kj3 l1 l2).bind fun t232=>((fluxionref02_DivMod.f kj3 l1 t232).bind fun bt235=>((fluxionref02_DivMod.f kj3 l2 t232).bind fun bt241=>(some (a0,bt235.1,bt241.1)))))=some (r1,r2,r3):=by rw [if_neg (show ¬ (false=true) by decide)] at H; exact H
    clear H
    have H:=H1
    clear H1
    replace H:=Option.bind_eq_some_iff.mp H
    obtain⟨t232,A120,H⟩:=H
    replace H:((fluxionref02_DivMod.f kj3 l1 t232).bind fun bt235=>((fluxionref02_DivMod.f kj3 l2 t232).bind fun bt241=>(some (a0,bt235.1,bt241.1))))=some (r1,r2,r3):=H
    have A12:=Aside0.mk A120
    clear A120
    replace H:=Option.bind_eq_some_iff.mp H
    obtain⟨⟨t235,t236⟩,A130,H⟩:=H
    replace H:((fluxionref02_DivMod.f kj3 l2 t232).bind fun bt241=>(some (a0,t235,bt241.1)))=some (r1,r2,r3):=H
    have A13:=Aside0.mk A130
    clear A130
    replace H:=Option.bind_eq_some_iff.mp H
    obtain⟨⟨t241,t242⟩,A140,H⟩:=H
    replace H:(some (a0,t235,t241))=some (r1,r2,r3):=H
    have A14:=Aside0.mk A140
    clear A140
    simp only [Option.some.injEq,Prod.mk.injEq] at H
    obtain⟨rfl,rfl,rfl⟩:=H
    go_wp2_with (first | ((with_reducible refine zbC (f:=69) rfl ?_); refine zbO (some 24) rfl rfl Try.func69 (by kernel_rfl) rfl #[.slice A1 l1.length c1,.slice A2 l2.length c2] rfl (by (try simp only [List.map_toArray,List.map_cons,List.map_nil]); first | done | rfl | (simp only [List.length_drop,List.length_take]; rfl)) ?_; (with_reducible refine(fluxionref02_Gcd.calls kj3 (fun k_=>k_ < w.heap.size) _ _ l1 (fun k_=>k_ < w.heap.size) _ _ l2 t232 _ ?side1 ?side2 A12.out).mono ?_); (case side1=>exact Kd.V_mk HC1.out (Kd.F_below (Kd.C_F (Kd.heap_int .i64) HR1.out) (qb1 HB.out GE228.out))); (case side2=>exact Kd.V_mk HC2.out (Kd.F_below (Kd.C_F (Kd.heap_int .i64) HR2.out) (qb1 HB.out GE228.out))); rintro e w15 ⟨v233,rfl,ho0,hb⟩; refine⟨_,rfl,?_⟩; have n0_:=Aside0.mk (Kd.V_lower (Kd.V_mono (ok':=fun k_=>k_≠gb228) ho0 (fun k_ hk_=>Or.elim hk_ (fun hs_=>Or.elim hs_ (fun hs_=>fun e_=>Nat.not_le.2 hs_ (by rw [e_]; exact GW228.out)) (fun hs_=>fun e_=>Nat.not_le.2 hs_ (by rw [e_]; exact GW228.out))) (fun hn_=>(Kd.freshB (g:=gb228) (o:=.cells #[.bool false,.slice none 0 0,.slice none 0 0] 36 (0,0)) (qk BK228.out) k_ hn_)))) (zbs (qb1 HB.out GE228.out))); have n1_:=Aside0.mk (zbt (g:=gb228) (o:=.cells #[.bool false,.slice none 0 0,.slice none 0 0] 36 (0,0)) (qk BK228.out) hb); have n2_:=Aside0.mk (zbp (qb1 HB.out GE228.out) hb); clear BK228; clear HB; have HO234:=n0_; have BK228:=n1_; have HB:=n2_; clear n0_ n1_ n2_; (try clear hb); (try clear hb2); (try clear hk); (try clear hi); (try clear ho0); obtain⟨Ao16,co16,eo16⟩:=Kd.V_slice HO234.out; subst eo16) | ((with_reducible refine zbC (f:=70) rfl ?_); refine zbO (some 28) rfl rfl Try.func70 (by kernel_rfl) rfl #[.slice A1 l1.length c1,.slice Ao16 t232.length co16] rfl (by (try simp only [List.map_toArray,List.map_cons,List.map_nil]); first | done | rfl | (simp only [List.length_drop,List.length_take]; rfl)) ?_; (with_reducible refine(fluxionref02_DivMod.calls kj3 _ _ l1 _ _ t232 t235 t236 _ ?side1 ?side2 ?side3 ?side4 A13.out).mono ?_); (case side1=>exact qc (Kd.C_below HR1.out HB.out)); (case side2=>exact HC1.out); (case side3=>exact qc (Kd.V_reads' HO234.out).2.2); (case side4=>exact(Kd.V_reads' HO234.out).2.1); rintro e w17 ⟨v237,v239,rfl,ho0,ho1,hb⟩; refine⟨_,rfl,?_⟩; have n0_:=Aside0.mk (Kd.V_mono (Kd.V_told (Kd.V_told (Kd.V_old (by (with_reducible repeat (first | apply Kd.V_alloc | apply Kd.V_drewN | apply Kd.V_drew)); exact HO234.out) hb) (Kd.R_base ho0)) (Kd.R_base ho1)) (fun _ h_=>h_.1)); have n1_:=Aside0.mk (Kd.R_lower ho0 (zbs (qb1 HB.out GE228.out))); have n2_:=Aside0.mk (Kd.R_lower ho1 (zbs (qb1 HB.out GE228.out))); have n3_:=Aside0.mk (zbt (g:=gb228) (o:=.cells #[.bool false,.slice none 0 0,.slice none 0 0] 36 (0,0)) (qk BK228.out) hb); have n4_:=Aside0.mk (zbp (qb1 HB.out GE228.out) hb); clear HO234; clear BK228; clear HB; have HO234:=n0_; have HO238:=n1_; have HO240:=n2_; have BK228:=n3_; have HB:=n4_; clear n0_ n1_ n2_ n3_ n4_; (try clear hb); (try clear hb2); (try clear hk); (try clear hi); (try clear ho0); (try clear ho1)) | ((with_reducible refine zbC (f:=70) rfl ?_); refine zbO (some 34) rfl rfl Try.func70 (by kernel_rfl) rfl #[.slice A2 l2.length c2,.slice Ao16 t232.length co16] rfl (by (try simp only [List.map_toArray,List.map_cons,List.map_nil]); first | done | rfl | (simp only [List.length_drop,List.length_take]; rfl)) ?_; (with_reducible refine(fluxionref02_DivMod.calls kj3 _ _ l2 _ _ t232 t241 t242 _ ?side1 ?side2 ?side3 ?side4 A14.out).mono ?_); (case side1=>exact qc (Kd.C_below HR2.out HB.out)); (case side2=>exact HC2.out); (case side3=>exact qc (Kd.V_reads' HO234.out).2.2); (case side4=>exact(Kd.V_reads' HO234.out).2.1); rintro e w18 ⟨v243,v245,rfl,ho0,ho1,hb⟩; refine⟨_,rfl,?_⟩; have n0_:=Aside0.mk (Kd.V_mono (Kd.V_told (Kd.V_told (Kd.V_old (by (with_reducible repeat (first | apply Kd.V_alloc | apply Kd.V_drewN | apply Kd.V_drew)); exact HO234.out) hb) (Kd.R_base ho0)) (Kd.R_base ho1)) (fun _ h_=>h_.1)); have n1_:=Aside0.mk (Kd.R_mono (Kd.R_told (Kd.R_told (Kd.R_old (qr HO238.out) hb) (Kd.R_base ho0)) (Kd.R_base ho1)) (fun _ h_=>h_.1)); have n2_:=Aside0.mk (Kd.R_mono (Kd.R_told (Kd.R_told (Kd.R_old (qr HO240.out) hb) (Kd.R_base ho0)) (Kd.R_base ho1)) (fun _ h_=>h_.1)); have n3_:=Aside0.mk (Kd.R_lower (Kd.R_new' (Kd.R_new' ho0 (Kd.R_lt (qr HO238.out))) (Kd.R_lt (qr HO240.out))) (zbs (qb1 HB.out GE228.out))); have n4_:=Aside0.mk (Kd.R_lower (Kd.R_new' (Kd.R_new' ho1 (Kd.R_lt (qr HO238.out))) (Kd.R_lt (qr HO240.out))) (zbs (qb1 HB.out GE228.out))); have n5_:=Aside0.mk (zbt (g:=gb228) (o:=.cells #[.bool false,.slice none 0 0,.slice none 0 0] 36 (0,0)) (qk BK228.out) hb); have n6_:=Aside0.mk (zbp (qb1 HB.out GE228.out) hb); clear HO234; clear HO238; clear HO240; clear BK228; clear HB; have HO234:=n0_; have HO238:=n1_; have HO240:=n2_; have HO244:=n3_; have HO246:=n4_; have BK228:=n5_; have HB:=n6_; clear n0_ n1_ n2_ n3_ n4_ n5_ n6_; (try clear hb); (try clear hb2); (try clear hk); (try clear hi); (try clear ho0); (try clear ho1); obtain⟨Ao19,co19,eo19⟩:=Kd.R_slice HO244.out; subst eo19; obtain⟨Ao20,co20,eo20⟩:=Kd.R_slice HO238.out; subst eo20; obtain⟨hcz21_0,hcz21_1,hcz21_2,hfz21_0,hfz21_1,hfz21_2⟩:=qz BK228.out))
    refine bodyPost_ret (results_cell_row rfl _ _ gb228 36 #[.bool a0,.slice Ao20 t235.length co20,.slice Ao19 t241.length co19] (0,0) _ rfl (by (with_reducible repeat (first | refine zby ?_ _ | refine zbx ?_ | refine zbw ?_ _)); refine zbK (cs:=#[.bool a0,.slice Ao20 t235.length co20,.slice none 0 0]) ?_ 2 _ rfl; (with_reducible repeat (first | refine zby ?_ _ | refine zbx ?_ | refine zbw ?_ _)); refine zbK (cs:=#[.bool a0,.slice none 0 0,.slice none 0 0]) ?_ 1 _ rfl; (with_reducible repeat (first | refine zby ?_ _ | refine zbx ?_ | refine zbw ?_ _)); refine zbK (cs:=#[.bool false,.slice none 0 0,.slice none 0 0]) ?_ 0 _ rfl; (with_reducible repeat (first | refine zby ?_ _ | refine zbx ?_ | refine zbw ?_ _)); exact BK228.out) Try.underlying36 rfl (by kernel_rfl)) rfl ?_
    exact⟨_,_,by first | rfl | (simp [zbz,zbA]<;>rfl) | (simp [*,zbz,zbA]<;>rfl),by (with_reducible repeat (first | apply Kd.R_alloc | apply Kd.R_drewN | apply Kd.R_drew)); exact Kd.R_mono (Kd.R_far (p:=⟨gb228,2,none⟩) (Kd.R_far (p:=⟨gb228,1,none⟩) (Kd.R_far (p:=⟨gb228,0,none⟩) (Kd.R_types HO238.out BK228.out (by decide)) (fun _ hk=>hk.2) (.bool a0)) (fun _ hk=>hk.2) (.slice Ao20 t235.length co20)) (fun _ hk=>hk.2) (.slice Ao19 t241.length co19)) (fun _ hk=>hk.1.1.2),by (with_reducible repeat (first | apply Kd.R_alloc | apply Kd.R_drewN | apply Kd.R_drew)); exact Kd.R_mono (Kd.R_far (p:=⟨gb228,2,none⟩) (Kd.R_far (p:=⟨gb228,1,none⟩) (Kd.R_far (p:=⟨gb228,0,none⟩) (Kd.R_types HO244.out BK228.out (by decide)) (fun _ hk=>hk.2) (.bool a0)) (fun _ hk=>hk.2) (.slice Ao20 t235.length co20)) (fun _ hk=>hk.2) (.slice Ao19 t241.length co19)) (fun _ hk=>hk.1.1.2),by repeat (first | (with_reducible first | exact HB.out | apply zbq | apply zbr | apply zbv | refine zbE ?_ GE228.out) | exact HB.out)⟩
end Go.Proofs.Ytehghijlchpeaaa.L
end
section
namespace Go.Proofs.Ytehghijlchpeaaa.L
open Go.RowKit YtehghijlchpeaaaW.PrintWords YtehghijlchpeaaaW.PrintLast YtehghijlchpeaaaW.PrintMore
attribute [local go_sem] zb6 zb4 zca zcb zbY zbX zb5 zb7   -- for this text's walks alone
def fluxionref03_Of.f (k:Nat) (a0_0:Bool) (l0_1:List Int) (l0_2:List Int):Option (Bool×List Int×List Int):=(fluxionref01_Of.f k l0_1).bind fun t249=>((fluxionref01_Of.f k l0_2).bind fun t252=>((fluxionref03_Make.f k a0_0 t249 t252).bind fun bt255=>(some (bt255.1,bt255.2.1,bt255.2.2))))
def fluxionref03_Of.T1:Bool×List (List Nat×List Nat):=(true,[([],[]),([0],[0]),([],[]),([2],[2]),([3],[3]),([],[]),([5],[5]),([6,4],[6]),([1,4,7,7],[1,4,7]),([8,8,0,1,2,3,4,5,6,7,8],[8])])
def fluxionref03_Of.B1:List Nat:=[0,1,0,4,12,0,32,124,255,511]
theorem fluxionref03_Of.tab1:rtab .any (opsOf Try.f21 1)=fluxionref03_Of.T1:=by kernel_rfl
theorem fluxionref03_Of.bits1:waitsOk fluxionref03_Of.T1.2 fluxionref03_Of.B1=true:=by kernel_rfl
theorem fluxionref03_Of.calls (k:Nat) (a0_0:Bool) (A0_1:Option Addr) (c0_1:Nat) (l0_1:List Int) (A0_2:Option Addr) (c0_2:Nat) (l0_2:List Int) (r1:Bool) (r2:List Int) (r3:List Int) (w:World) (hr0_1:Kd.C (Kd.int .u32) w A0_1 l0_1.length l0_1) (hc0_1:l0_1.length≤c0_1) (hr0_2:Kd.C (Kd.int .u32) w A0_2 l0_2.length l0_2) (hc0_2:l0_2.length≤c0_2) (h:fluxionref03_Of.f k a0_0 l0_1 l0_2=some (r1,r2,r3)) :
  Calls Try.prog 21 #[.agg #[.bool a0_0,.slice A0_1 l0_1.length c0_1,.slice A0_2 l0_2.length c0_2]] w fun e w'=>∃ v1_ v2_:Value,e=.returned (.agg #[.bool r1,v1_,v2_])∧Kd.R (Kd.int .i64) 3 w' w.heap.size (fun k_=>some k_≠(v2_:Value).ownBlock) v1_ r2∧Kd.R (Kd.int .i64) 3 w' w.heap.size (fun k_=>some k_≠(v1_:Value).ownBlock) v2_ r3∧Below w.heap.size w w':=by
 have hu25:=Try.underlying25
 have hu36:=Try.underlying36
 have HR0_1:=Aside0.mk hr0_1
 have HC0_1:=Aside0.mk hc0_1
 clear hr0_1 hc0_1
 have HR0_2:=Aside0.mk hr0_2
 have HC0_2:=Aside0.mk hc0_2
 clear hr0_2 hc0_2
 have HB:=Aside0.mk (Below.refl w.heap.size w)
 have H:((fluxionref01_Of.f k l0_1).bind fun t249=>((fluxionref01_Of.f k l0_2).bind fun t252=>((fluxionref03_Make.f k a0_0 t249 t252).bind fun bt255=>(some (bt255.1,bt255.2.1,bt255.2.2)))))=some (r1,r2,r3):=h
 clear h
 replace H:=Option.bind_eq_some_iff.mp H
 obtain⟨t249,A20,H⟩:=H
 replace H:((fluxionref01_Of.f k l0_2).bind fun t252=>((fluxionref03_Make.f k a0_0 t249 t252).bind fun bt255=>(some (bt255.1,bt255.2.1,bt255.2.2))))=some (r1,r2,r3):=H
 have A2:=Aside0.mk A20
 clear A20
 replace H:=Option.bind_eq_some_iff.mp H
 obtain⟨t252,A30,H⟩:=H
 replace H:((fluxionref03_Make.f k a0_0 t249 t252).bind fun bt255=>(some (bt255.1,bt255.2.1,bt255.2.2)))=some (r1,r2,r3):=H
 have A3:=Aside0.mk A30
 clear A30
 replace H:=Option.bind_eq_some_iff.mp H
 obtain⟨⟨t255,t256,t259⟩,A40,H⟩:=H
 replace H:(some (t255,t256,t259))=some (r1,r2,r3):=H
 have A4:=Aside0.mk A40
 clear A40
 simp only [Option.some.injEq,Prod.mk.injEq] at H
 obtain⟨rfl,rfl,rfl⟩:=H
 go_enter Try.func21,Try.ntmps21
 try go_wp2_with (first | ((with_reducible refine zbG (N:=1) rfl ?_); refine zbF ?hg (N:=1) ?hd (cs:=#[.bool a0_0,.slice A0_1 l0_1.length c0_1,.slice A0_2 l0_2.length c0_2]) (t:=25) ?hr ?_; (case hd=>rfl); (case hg=>rfl); (case hr=>first | (go_simp; done) | (go_simp; rfl)); intro gb247 hg w5 hbox hb; have n0_:=Aside0.mk (zbp (qb HB.out) hb); have n1_:=Aside0.mk (hbox); have n2_:=Aside0.mk ((by rw [hg]; exact(zbs (qb HB.out)):w.heap.size≤gb247)); have n3_:=Aside0.mk ((by rw [hg]; exact(zbs (qb HB.out)):w.heap.size≤gb247)); clear HB; have HB:=n0_; have BK247:=n1_; have GW247:=n2_; have GE247:=n3_; clear n0_ n1_ n2_ n3_; clear hb hbox hg) | ((with_reducible refine zbG (N:=2) rfl ?_); refine zbF ?hg (N:=2) ?hd (cs:=#[.bool false,.slice none 0 0,.slice none 0 0]) (t:=36) ?hr ?_; (case hd=>rfl); (case hg=>rfl); (case hr=>first | (go_simp; done) | (go_simp; rfl)); intro gb248 hg w6 hbox hb; have n0_:=Aside0.mk (zbt (g:=gb247) (o:=.cells #[.bool a0_0,.slice A0_1 l0_1.length c0_1,.slice A0_2 l0_2.length c0_2] 25 (0,0)) (qk BK247.out) hb); have n1_:=Aside0.mk (zbp (qb1 HB.out GE247.out) hb); have n2_:=Aside0.mk (hbox); have n3_:=Aside0.mk ((by rw [hg]; exact(zbs (qb1 HB.out GE247.out)):w.heap.size≤gb248)); have n4_:=Aside0.mk ((by rw [hg]; exact(zbs (qb1 HB.out GE247.out)):w.heap.size≤gb248)); have n5_:=Aside0.mk ((by rw [hg]; exact Nat.ne_of_lt (zbQ (g:=gb247) (o:=.cells #[.bool a0_0,.slice A0_1 l0_1.length c0_1,.slice A0_2 l0_2.length c0_2] 25 (0,0)) (qk BK247.out)):gb247≠gb248)); have n6_:=Aside0.mk ((by rw [hg]; exact Nat.ne_of_gt (zbQ (g:=gb247) (o:=.cells #[.bool a0_0,.slice A0_1 l0_1.length c0_1,.slice A0_2 l0_2.length c0_2] 25 (0,0)) (qk BK247.out)):gb248≠gb247)); clear BK247; clear HB; have BK247:=n0_; have HB:=n1_; have BK248:=n2_; have GW248:=n3_; have GE248:=n4_; have NB247_248:=n5_; have NB248_247:=n6_; clear n0_ n1_ n2_ n3_ n4_ n5_ n6_; clear hb hbox hg))
 have n0_:=Aside0.mk (zbx BK247.out)
 have n1_:=Aside0.mk (zbx BK248.out)
 have n2_:=Aside0.mk (zbv HB.out)
 clear BK247
 clear BK248
 clear HB
 have BK247:=n0_
 have BK248:=n1_
 have HB:=n2_
 clear n0_ n1_ n2_
 refine start_ (n:=10) (S:=fun w'=>w'.cell? ⟨gb247,0,none⟩=some (.bool a0_0)∧w'.cell? ⟨gb247,1,none⟩=some (.slice A0_1 l0_1.length c0_1)∧w'.cell? ⟨gb247,2,none⟩=some (.slice A0_2 l0_2.length c0_2)) (ds:=[]) #[zf,zf,zf,zf,zf,zf,zf,zf,zf,zf] (by kernel_rfl) rfl rfl ⟨(zbu BK247.out 0).trans rfl,(zbu BK247.out 1).trans rfl,(zbu BK247.out 2).trans rfl⟩ (fun hHeld=>?_); refine with_tabW fluxionref03_Of.tab1 fluxionref03_Of.bits1 (fun HT_ HW_=>?_)
 generalize w6.drew=w7 at BK247 BK248 HB hHeld ⊢
 refine qpT 0 (some 3) ?_
 refine qpT 2 (some 5) ?_
 refine qpT 5 (some 8) ?_
 refine take_ (i:=1) (N:=some 4) (v:=?_) (a':=?_) #[zt,zt,zt,zf,zf,zt,zf,zf,zf,zf] rfl rfl (zci HT_.out HW_.out (by kernel_rfl)) (fun _ _ _ h=>h) (Or.inl ⟨by rfl,?_⟩) hHeld ?_ ?_
 rotate_left
 ·
  rintro w' ⟨s0,s1,s2⟩
  go_simp
  with_reducible rfl
 rotate_left
 ·
  simp only [Act.put,zA1,zA2,zA3,zcj,zcz]
  rfl
 refine take_ (i:=3) (N:=some 6) (v:=?_) (a':=?_) #[zt,zt,zt,zt,zf,zt,zf,zf,zf,zf] rfl rfl (zci HT_.out HW_.out (by kernel_rfl)) (fun _ _ _ h=>h) (Or.inl ⟨by rfl,?_⟩) hHeld ?_ ?_
 rotate_left
 ·
  rintro w' ⟨s0,s1,s2⟩
  go_simp
  with_reducible rfl
 rotate_left
 ·
  simp only [Act.put,zA1,zA2,zA3,zcj,zcz]
  rfl
 refine take_ (i:=6) (N:=some 9) (v:=?_) (a':=?_) #[zt,zt,zt,zt,zf,zt,zt,zf,zf,zf] rfl rfl (zci HT_.out HW_.out (by kernel_rfl)) (fun _ _ _ h=>h) (Or.inl ⟨by rfl,?_⟩) hHeld ?_ ?_
 rotate_left
 ·
  rintro w' ⟨s0,s1,s2⟩
  go_simp
  with_reducible rfl
 rotate_left
 ·
  simp only [Act.put,zA1,zA2,zA3,zcj,zcz]
  rfl
 refine qoT 4 (some 7) (fun K hK=>?_)
 refine goes_ Try.func24 (by kernel_rfl) rfl #[.slice A0_1 l0_1.length c0_1] (by rfl) rfl rfl (by (try simp only [List.map_toArray,List.map_cons,List.map_nil]); first | done | rfl | (simp only [List.length_drop,List.length_take]; rfl)) ?_
 with_reducible refine(fluxionref01_Of.calls k _ _ l0_1 t249 _ ?side1 ?side2 A2.out).mono ?_
 (case side1=>exact qc (Kd.C_below HR0_1.out HB.out))
 (case side2=>exact HC0_1.out)
 rintro e w8 ⟨v250,rfl,ho0,hb⟩
 refine⟨_,rfl,?_⟩
 have n0_:=Aside0.mk (Kd.R_lower ho0 (zbs (qb2 HB.out GE247.out GE248.out)))
 have n1_:=Aside0.mk (zbt (g:=gb247) (o:=.cells #[.bool a0_0,.slice A0_1 l0_1.length c0_1,.slice A0_2 l0_2.length c0_2] 25 (0,0)) (qk BK247.out) hb)
 have n2_:=Aside0.mk (zbt (g:=gb248) (o:=.cells #[.bool false,.slice none 0 0,.slice none 0 0] 36 (0,0)) (qk BK248.out) hb)
 have n3_:=Aside0.mk (zbp (qb2 HB.out GE247.out GE248.out) hb)
 clear BK247
 clear BK248
 clear HB
 have HO251:=n0_
 have BK247:=n1_
 have BK248:=n2_
 have HB:=n3_
 clear n0_ n1_ n2_ n3_
 (try clear hb)
 (try clear hb2)
 (try clear hk)
 (try clear hi)
 (try clear ho0)
 refine hK.out _ _ ⟨(zbu BK247.out 0).trans rfl,(zbu BK247.out 1).trans rfl,(zbu BK247.out 2).trans rfl⟩ (fun hHeld=>?_)
 clear hK K
 refine qn ?_
 refine qoT 7 (some 10) (fun K hK=>?_)
 refine goes_ Try.func24 (by kernel_rfl) rfl #[.slice A0_2 l0_2.length c0_2] (by rfl) rfl rfl (by (try simp only [List.map_toArray,List.map_cons,List.map_nil]); first | done | rfl | (simp only [List.length_drop,List.length_take]; rfl)) ?_
 with_reducible refine(fluxionref01_Of.calls k _ _ l0_2 t252 _ ?side1 ?side2 A3.out).mono ?_
 (case side1=>exact qc (Kd.C_below HR0_2.out HB.out))
 (case side2=>exact HC0_2.out)
 rintro e w9 ⟨v253,rfl,ho0,hb⟩
 refine⟨_,rfl,?_⟩
 have n0_:=Aside0.mk (Kd.R_elder' (qr HO251.out) (Kd.R_base ho0) hb)
 have n1_:=Aside0.mk (Kd.R_lower (Kd.R_new' ho0 (Kd.R_lt (qr HO251.out))) (zbs (qb2 HB.out GE247.out GE248.out)))
 have n2_:=Aside0.mk (zbt (g:=gb247) (o:=.cells #[.bool a0_0,.slice A0_1 l0_1.length c0_1,.slice A0_2 l0_2.length c0_2] 25 (0,0)) (qk BK247.out) hb)
 have n3_:=Aside0.mk (zbt (g:=gb248) (o:=.cells #[.bool false,.slice none 0 0,.slice none 0 0] 36 (0,0)) (qk BK248.out) hb)
 have n4_:=Aside0.mk (zbp (qb2 HB.out GE247.out GE248.out) hb)
 clear HO251
 clear BK247
 clear BK248
 clear HB
 have HO251:=n0_
 have HO254:=n1_
 have BK247:=n2_
 have BK248:=n3_
 have HB:=n4_
 clear n0_ n1_ n2_ n3_ n4_
 (try clear hb)
 (try clear hb2)
 (try clear hk)
 (try clear hi)
 (try clear ho0)
 obtain⟨Ao10,co10,eo10⟩:=Kd.R_slice HO251.out
 (first | subst eo10 | (injection eo10 with f1_ f2_ f3_; have f4_:=f1_.symm; have f5_:=f3_.symm; clear f1_ f2_ f3_; subst f4_; subst f5_))
 obtain⟨Ao11,co11,eo11⟩:=Kd.R_slice HO254.out
 (first | subst eo11 | (injection eo11 with f1_ f2_ f3_; have f4_:=f1_.symm; have f5_:=f3_.symm; clear f1_ f2_ f3_; subst f4_; subst f5_))
 refine hK.out _ _ ⟨(zbu BK247.out 0).trans rfl,(zbu BK247.out 1).trans rfl,(zbu BK247.out 2).trans rfl⟩ (fun hHeld=>?_)
 clear hK K
 refine qn ?_
 refine qoT 8 (some 11) (fun K hK=>?_)
 refine goes_ Try.func25 (by kernel_rfl) rfl #[.bool a0_0,.slice Ao10 t249.length co10,.slice Ao11 t252.length co11] (by rfl) rfl rfl (by (try simp only [List.map_toArray,List.map_cons,List.map_nil]); first | done | rfl | (simp only [List.length_drop,List.length_take]; rfl)) ?_
 with_reducible refine(fluxionref03_Make.calls k a0_0 _ _ t249 _ _ t252 t255 t256 t259 _ ?side1 ?side2 ?side3 ?side4 A4.out).mono ?_
 (case side1=>exact qc (Kd.R_reads' HO251.out).2.2)
 (case side2=>exact(Kd.R_reads' HO251.out).2.1)
 (case side3=>exact qc (Kd.R_reads' HO254.out).2.2)
 (case side4=>exact(Kd.R_reads' HO254.out).2.1)
 rintro e w12 ⟨v257,v260,rfl,ho0,ho1,hb⟩
 refine⟨_,rfl,?_⟩
 have n0_:=Aside0.mk (Kd.R_mono (Kd.R_told (Kd.R_told (Kd.R_old (qr HO251.out) hb) (Kd.R_base ho0)) (Kd.R_base ho1)) (fun _ h_=>h_.1))
 have n1_:=Aside0.mk (Kd.R_mono (Kd.R_told (Kd.R_told (Kd.R_old (qr HO254.out) hb) (Kd.R_base ho0)) (Kd.R_base ho1)) (fun _ h_=>h_.1))
 have n2_:=Aside0.mk (Kd.R_lower (Kd.R_new' (Kd.R_new' ho0 (Kd.R_lt (qr HO251.out))) (Kd.R_lt (qr HO254.out))) (zbs (qb2 HB.out GE247.out GE248.out)))
 have n3_:=Aside0.mk (Kd.R_lower (Kd.R_new' (Kd.R_new' ho1 (Kd.R_lt (qr HO251.out))) (Kd.R_lt (qr HO254.out))) (zbs (qb2 HB.out GE247.out GE248.out)))
 have n4_:=Aside0.mk (zbt (g:=gb247) (o:=.cells #[.bool a0_0,.slice A0_1 l0_1.length c0_1,.slice A0_2 l0_2.length c0_2] 25 (0,0)) (qk BK247.out) hb)
 have n5_:=Aside0.mk (zbt (g:=gb248) (o:=.cells #[.bool false,.slice none 0 0,.slice none 0 0] 36 (0,0)) (qk BK248.out) hb)
 have n6_:=Aside0.mk (zbp (qb2 HB.out GE247.out GE248.out) hb)
 clear HO251
 clear HO254
 clear BK247
 clear BK248
 clear HB
 have HO251:=n0_
 have HO254:=n1_
 have HO258:=n2_
 have HO261:=n3_
 have BK247:=n4_
 have BK248:=n5_
 have HB:=n6_
 clear n0_ n1_ n2_ n3_ n4_ n5_ n6_
 (try clear hb)
 (try clear hb2)
 (try clear hk)
 (try clear hi)
 (try clear ho0)
 (try clear ho1)
 obtain⟨Ao14,co14,eo14⟩:=Kd.R_slice HO258.out
 (first | subst eo14 | (injection eo14 with f1_ f2_ f3_; have f4_:=f1_.symm; have f5_:=f3_.symm; clear f1_ f2_ f3_; subst f4_; subst f5_))
 obtain⟨Ao16,co16,eo16⟩:=Kd.R_slice HO261.out
 (first | subst eo16 | (injection eo16 with f1_ f2_ f3_; have f4_:=f1_.symm; have f5_:=f3_.symm; clear f1_ f2_ f3_; subst f4_; subst f5_))
 refine hK.out _ _ ⟨(zbu BK247.out 0).trans rfl,(zbu BK247.out 1).trans rfl,(zbu BK247.out 2).trans rfl⟩ (fun hHeld=>?_)
 clear hK K
 refine qn ?_
 refine qoT 9 none (fun K hK=>?_)
 have hs13:w12.cell? ⟨gb248,0,none⟩=some (.bool false):=(zbu BK248.out 0).trans rfl
 have hfs13:=zbD BK248.out 0
 have hns13_0:=NB247_248.out
 have hms13_0:=NB248_247.out
 have hs15:w12.cell? ⟨gb248,1,none⟩=some (.slice none 0 0):=(zbu BK248.out 1).trans rfl
 have hfs15:=zbD BK248.out 1
 have hns15_0:=NB247_248.out
 have hms15_0:=NB248_247.out
 have hs17:w12.cell? ⟨gb248,2,none⟩=some (.slice none 0 0):=(zbu BK248.out 2).trans rfl
 have hfs17:=zbD BK248.out 2
 have hns17_0:=NB247_248.out
 have hms17_0:=NB248_247.out
 refine qx ?_
 refine hK.out _ _ ⟨((zb9 (p:=⟨gb248,_,none⟩) NB247_248.out _).trans (((zb9 (p:=⟨gb248,_,none⟩) NB247_248.out _).trans (((zb9 (p:=⟨gb248,_,none⟩) NB247_248.out _).trans (hHeld.1)))))),((zb9 (p:=⟨gb248,_,none⟩) NB247_248.out _).trans (((zb9 (p:=⟨gb248,_,none⟩) NB247_248.out _).trans (((zb9 (p:=⟨gb248,_,none⟩) NB247_248.out _).trans (hHeld.2.1)))))),((zb9 (p:=⟨gb248,_,none⟩) NB247_248.out _).trans (((zb9 (p:=⟨gb248,_,none⟩) NB247_248.out _).trans (((zb9 (p:=⟨gb248,_,none⟩) NB247_248.out _).trans (hHeld.2.2))))))⟩ (fun hHeld=>?_)
 clear hK K
 refine done_ (done_of HT_.out (by kernel_rfl)) ?_
 try go_wp2
 refine bodyPost_ret (results_cell_row rfl _ _ gb248 36 #[.bool t255,.slice Ao14 t256.length co14,.slice Ao16 t259.length co16] (0,0) _ rfl (by (with_reducible repeat (first | refine zby ?_ _ | refine zbx ?_ | refine zbw ?_ _)); refine zbK (cs:=#[.bool t255,.slice Ao14 t256.length co14,.slice none 0 0]) ?_ 2 _ rfl; (with_reducible repeat (first | refine zby ?_ _ | refine zbx ?_ | refine zbw ?_ _)); refine zbK (cs:=#[.bool t255,.slice none 0 0,.slice none 0 0]) ?_ 1 _ rfl; (with_reducible repeat (first | refine zby ?_ _ | refine zbx ?_ | refine zbw ?_ _)); refine zbK (cs:=#[.bool false,.slice none 0 0,.slice none 0 0]) ?_ 0 _ rfl; (with_reducible repeat (first | refine zby ?_ _ | refine zbx ?_ | refine zbw ?_ _)); exact BK248.out) Try.underlying36 rfl (by kernel_rfl)) rfl ?_
 exact⟨_,_,by first | rfl | (simp [zbz,zbA]<;>rfl) | (simp [*,zbz,zbA]<;>rfl),by (with_reducible repeat (first | apply Kd.R_alloc | apply Kd.R_drewN | apply Kd.R_drew)); exact Kd.R_mono (Kd.R_far (p:=⟨gb248,2,none⟩) (Kd.R_far (p:=⟨gb248,1,none⟩) (Kd.R_far (p:=⟨gb248,0,none⟩) (Kd.R_types HO258.out BK248.out (by decide)) (fun _ hk=>hk.2) (.bool t255)) (fun _ hk=>hk.2) (.slice Ao14 t256.length co14)) (fun _ hk=>hk.2) (.slice Ao16 t259.length co16)) (fun _ hk=>hk.1.1.1),by (with_reducible repeat (first | apply Kd.R_alloc | apply Kd.R_drewN | apply Kd.R_drew)); exact Kd.R_mono (Kd.R_far (p:=⟨gb248,2,none⟩) (Kd.R_far (p:=⟨gb248,1,none⟩) (Kd.R_far (p:=⟨gb248,0,none⟩) (Kd.R_types HO261.out BK248.out (by decide)) (fun _ hk=>hk.2) (.bool t255)) (fun _ hk=>hk.2) (.slice Ao14 t256.length co14)) (fun _ hk=>hk.2) (.slice Ao16 t259.length co16)) (fun _ hk=>hk.1.1.1),by repeat (first | (with_reducible first | exact HB.out | apply zbq | apply zbr | apply zbv | refine zbE ?_ GE247.out | refine zbE ?_ GE248.out) | exact HB.out)⟩
def fluxionref03_Is.f (k:Nat) (a0_0:Bool) (l0_1:List Int) (l0_2:List Int) (a1_0:Bool) (l1_1:List Int) (l1_2:List Int):Option (Bool):=if (a1_0 == a0_0)=true then ((fluxionref01_Is.f k l0_1 l1_1).bind fun t264=>(if t264=true then ((fluxionref01_Is.f k l0_2 l1_2).bind fun t265=>(some t265)) else (some false))) else (some false)
theorem fluxionref03_Is.calls (k:Nat) (a0_0:Bool) (A0_1:Option Addr) (c0_1:Nat) (l0_1:List Int) (A0_2:Option Addr) (c0_2:Nat) (l0_2:List Int) (a1_0:Bool) (A1_1:Option Addr) (c1_1:Nat) (l1_1:List Int) (A1_2:Option Addr) (c1_2:Nat) (l1_2:List Int) (r:Bool) (w:World) (hr0_1:Kd.C (Kd.int .i64) w A0_1 l0_1.length l0_1) (hc0_1:l0_1.length≤c0_1) (hr0_2:Kd.C (Kd.int .i64) w A0_2 l0_2.length l0_2) (hc0_2:l0_2.length≤c0_2) (hr1_1:Kd.C (Kd.int .u32) w A1_1 l1_1.length l1_1) (hc1_1:l1_1.length≤c1_1) (hr1_2:Kd.C (Kd.int .u32) w A1_2 l1_2.length l1_2) (hc1_2:l1_2.length≤c1_2) (h:fluxionref03_Is.f k a0_0 l0_1 l0_2 a1_0 l1_1 l1_2=some r) :
  Calls Try.prog 20 #[.agg #[.bool a0_0,.slice A0_1 l0_1.length c0_1,.slice A0_2 l0_2.length c0_2],.agg #[.bool a1_0,.slice A1_1 l1_1.length c1_1,.slice A1_2 l1_2.length c1_2]] w fun e w'=>e=.returned (.bool r)∧Below w.heap.size w w':=by
 have hu36:=Try.underlying36
 have hu25:=Try.underlying25
 have HR0_1:=Aside0.mk hr0_1
 have HC0_1:=Aside0.mk hc0_1
 clear hr0_1 hc0_1
 have HR0_2:=Aside0.mk hr0_2
 have HC0_2:=Aside0.mk hc0_2
 clear hr0_2 hc0_2
 have HR1_1:=Aside0.mk hr1_1
 have HC1_1:=Aside0.mk hc1_1
 clear hr1_1 hc1_1
 have HR1_2:=Aside0.mk hr1_2
 have HC1_2:=Aside0.mk hc1_2
 clear hr1_2 hc1_2
 have HB:=Aside0.mk (Below.refl w.heap.size w)
 have H:(if (a1_0 == a0_0)=true then ((fluxionref01_Is.f k l0_1 l1_1).bind fun t264=>(if t264=true then ((fluxionref01_Is.f k l0_2 l1_2).bind fun t265=>(some t265)) else (some false))) else (some false))=some r:=h
 clear h
 by_cases c3:(a1_0 == a0_0)=true
 ·
  rw [if_pos c3] at H
  have c3b0:(a1_0 == a0_0)=true:=c3
  (try (have c3b1:decide (a1_0=a0_0)=true:=by simpa using c3))
  (try (have c3b2:(a1_0 == a0_0)=true:=by simpa using c3))
  clear c3
  replace H:=Option.bind_eq_some_iff.mp H
  obtain⟨t264,A40,H⟩:=H
  replace H:(if t264=true then ((fluxionref01_Is.f k l0_2 l1_2).bind fun t265=>(some t265)) else (some false))=some r:=H
  have A4:=Aside0.mk A40
  clear A40
  by_cases c5:t264=true
  ·
   subst c5
   have H1:((fluxionref01_Is.f k l0_2 l1_2).bind fun t265=>(some t265))=some r:=by rw [if_pos rfl] at H; exact H
   clear H
   have H:=H1
   clear H1
   replace H:=Option.bind_eq_some_iff.mp H
   obtain⟨t265,A60,H⟩:=H
   replace H:(some t265)=some r:=H
   have A6:=Aside0.mk A60
   clear A60
   obtain rfl:=Option.some.inj H
   go_enter Try.func20,Try.ntmps20
   go_wp2_with (first | ((with_reducible refine zbG (N:=2) rfl ?_); refine zbF ?hg (N:=2) ?hd (cs:=#[.bool a0_0,.slice A0_1 l0_1.length c0_1,.slice A0_2 l0_2.length c0_2]) (t:=36) ?hr ?_; (case hd=>rfl); (case hg=>rfl); (case hr=>first | (go_simp; done) | (go_simp; rfl)); intro gb262 hg w7 hbox hb; have n0_:=Aside0.mk (zbp (qb HB.out) hb); have n1_:=Aside0.mk (hbox); have n2_:=Aside0.mk ((by rw [hg]; exact(zbs (qb HB.out)):w.heap.size≤gb262)); have n3_:=Aside0.mk ((by rw [hg]; exact(zbs (qb HB.out)):w.heap.size≤gb262)); clear HB; have HB:=n0_; have BK262:=n1_; have GW262:=n2_; have GE262:=n3_; clear n0_ n1_ n2_ n3_; clear hb hbox hg) | ((with_reducible refine zbG (N:=3) rfl ?_); refine zbF ?hg (N:=3) ?hd (cs:=#[.bool a1_0,.slice A1_1 l1_1.length c1_1,.slice A1_2 l1_2.length c1_2]) (t:=25) ?hr ?_; (case hd=>rfl); (case hg=>rfl); (case hr=>first | (go_simp; done) | (go_simp; rfl)); intro gb263 hg w8 hbox hb; have n0_:=Aside0.mk (zbt (g:=gb262) (o:=.cells #[.bool a0_0,.slice A0_1 l0_1.length c0_1,.slice A0_2 l0_2.length c0_2] 36 (0,0)) (qk BK262.out) hb); have n1_:=Aside0.mk (zbp (qb1 HB.out GE262.out) hb); have n2_:=Aside0.mk (hbox); have n3_:=Aside0.mk ((by rw [hg]; exact(zbs (qb1 HB.out GE262.out)):w.heap.size≤gb263)); have n4_:=Aside0.mk ((by rw [hg]; exact(zbs (qb1 HB.out GE262.out)):w.heap.size≤gb263)); have n5_:=Aside0.mk ((by rw [hg]; exact Nat.ne_of_lt (zbQ (g:=gb262) (o:=.cells #[.bool a0_0,.slice A0_1 l0_1.length c0_1,.slice A0_2 l0_2.length c0_2] 36 (0,0)) (qk BK262.out)):gb262≠gb263)); have n6_:=Aside0.mk ((by rw [hg]; exact Nat.ne_of_gt (zbQ (g:=gb262) (o:=.cells #[.bool a0_0,.slice A0_1 l0_1.length c0_1,.slice A0_2 l0_2.length c0_2] 36 (0,0)) (qk BK262.out)):gb263≠gb262)); clear BK262; clear HB; have BK262:=n0_; have HB:=n1_; have BK263:=n2_; have GW263:=n3_; have GE263:=n4_; have NB262_263:=n5_; have NB263_262:=n6_; clear n0_ n1_ n2_ n3_ n4_ n5_ n6_; clear hb hbox hg; have hnb9:=NB263_262.out; have hnc9:=NB262_263.out; obtain⟨hcz10_0,hcz10_1,hcz10_2,hfz10_0,hfz10_1,hfz10_2⟩:=qz BK263.out; obtain⟨hcz11_0,hcz11_1,hcz11_2,hfz11_0,hfz11_1,hfz11_2⟩:=qz BK262.out) | (go_at_call 61; (with_reducible refine(fluxionref01_Is.calls k _ _ l0_1 _ _ l1_1 true _ ?side1 ?side2 ?side3 ?side4 A4.out).mono ?_); (case side1=>exact qc (Kd.C_below HR0_1.out HB.out)); (case side2=>exact HC0_1.out); (case side3=>exact qc (Kd.C_below HR1_1.out HB.out)); (case side4=>exact HC1_1.out); rintro e w12 ⟨rfl,hb⟩; have n0_:=Aside0.mk (zbt (g:=gb262) (o:=.cells #[.bool a0_0,.slice A0_1 l0_1.length c0_1,.slice A0_2 l0_2.length c0_2] 36 (0,0)) (qk BK262.out) hb); have n1_:=Aside0.mk (zbt (g:=gb263) (o:=.cells #[.bool a1_0,.slice A1_1 l1_1.length c1_1,.slice A1_2 l1_2.length c1_2] 25 (0,0)) (qk BK263.out) hb); have n2_:=Aside0.mk (zbp (qb2 HB.out GE262.out GE263.out) hb); clear BK262; clear BK263; clear HB; have BK262:=n0_; have BK263:=n1_; have HB:=n2_; clear n0_ n1_ n2_; (try clear hb); (try clear hb2); (try clear hk); (try clear hi); obtain⟨hcz13_0,hcz13_1,hcz13_2,hfz13_0,hfz13_1,hfz13_2⟩:=qz BK262.out; obtain⟨hcz14_0,hcz14_1,hcz14_2,hfz14_0,hfz14_1,hfz14_2⟩:=qz BK263.out) | (go_at_call 61; (with_reducible refine(fluxionref01_Is.calls k _ _ l0_2 _ _ l1_2 t265 _ ?side1 ?side2 ?side3 ?side4 A6.out).mono ?_); (case side1=>exact qc (Kd.C_below HR0_2.out HB.out)); (case side2=>exact HC0_2.out); (case side3=>exact qc (Kd.C_below HR1_2.out HB.out)); (case side4=>exact HC1_2.out); rintro e w15 ⟨rfl,hb⟩; have n0_:=Aside0.mk (zbt (g:=gb262) (o:=.cells #[.bool a0_0,.slice A0_1 l0_1.length c0_1,.slice A0_2 l0_2.length c0_2] 36 (0,0)) (qk BK262.out) hb); have n1_:=Aside0.mk (zbt (g:=gb263) (o:=.cells #[.bool a1_0,.slice A1_1 l1_1.length c1_1,.slice A1_2 l1_2.length c1_2] 25 (0,0)) (qk BK263.out) hb); have n2_:=Aside0.mk (zbp (qb2 HB.out GE262.out GE263.out) hb); clear BK262; clear BK263; clear HB; have BK262:=n0_; have BK263:=n1_; have HB:=n2_; clear n0_ n1_ n2_; (try clear hb); (try clear hb2); (try clear hk); (try clear hi)))
   go_ret
   exact⟨by first | rfl | (simp [zbz,zbA]<;>rfl) | (simp [*,zbz,zbA]<;>rfl),by repeat (first | (with_reducible first | exact HB.out | apply zbq | apply zbr | apply zbv | refine zbE ?_ GE262.out | refine zbE ?_ GE263.out) | exact HB.out)⟩
  ·
   replace c5:=Bool.eq_false_iff.mpr c5
   subst c5
   have H1:(some false)=some r:=by rw [if_neg (show ¬ (false=true) by decide)] at H; exact H
   clear H
   have H:=H1
   clear H1
   obtain rfl:=Option.some.inj H
   go_enter Try.func20,Try.ntmps20
   go_wp2_with (first | ((with_reducible refine zbG (N:=2) rfl ?_); refine zbF ?hg (N:=2) ?hd (cs:=#[.bool a0_0,.slice A0_1 l0_1.length c0_1,.slice A0_2 l0_2.length c0_2]) (t:=36) ?hr ?_; (case hd=>rfl); (case hg=>rfl); (case hr=>first | (go_simp; done) | (go_simp; rfl)); intro gb262 hg w16 hbox hb; have n0_:=Aside0.mk (zbp (qb HB.out) hb); have n1_:=Aside0.mk (hbox); have n2_:=Aside0.mk ((by rw [hg]; exact(zbs (qb HB.out)):w.heap.size≤gb262)); have n3_:=Aside0.mk ((by rw [hg]; exact(zbs (qb HB.out)):w.heap.size≤gb262)); clear HB; have HB:=n0_; have BK262:=n1_; have GW262:=n2_; have GE262:=n3_; clear n0_ n1_ n2_ n3_; clear hb hbox hg) | ((with_reducible refine zbG (N:=3) rfl ?_); refine zbF ?hg (N:=3) ?hd (cs:=#[.bool a1_0,.slice A1_1 l1_1.length c1_1,.slice A1_2 l1_2.length c1_2]) (t:=25) ?hr ?_; (case hd=>rfl); (case hg=>rfl); (case hr=>first | (go_simp; done) | (go_simp; rfl)); intro gb263 hg w17 hbox hb; have n0_:=Aside0.mk (zbt (g:=gb262) (o:=.cells #[.bool a0_0,.slice A0_1 l0_1.length c0_1,.slice A0_2 l0_2.length c0_2] 36 (0,0)) (qk BK262.out) hb); have n1_:=Aside0.mk (zbp (qb1 HB.out GE262.out) hb); have n2_:=Aside0.mk (hbox); have n3_:=Aside0.mk ((by rw [hg]; exact(zbs (qb1 HB.out GE262.out)):w.heap.size≤gb263)); have n4_:=Aside0.mk ((by rw [hg]; exact(zbs (qb1 HB.out GE262.out)):w.heap.size≤gb263)); have n5_:=Aside0.mk ((by rw [hg]; exact Nat.ne_of_lt (zbQ (g:=gb262) (o:=.cells #[.bool a0_0,.slice A0_1 l0_1.length c0_1,.slice A0_2 l0_2.length c0_2] 36 (0,0)) (qk BK262.out)):gb262≠gb263)); have n6_:=Aside0.mk ((by rw [hg]; exact Nat.ne_of_gt (zbQ (g:=gb262) (o:=.cells #[.bool a0_0,.slice A0_1 l0_1.length c0_1,.slice A0_2 l0_2.length c0_2] 36 (0,0)) (qk BK262.out)):gb263≠gb262)); clear BK262; clear HB; have BK262:=n0_; have HB:=n1_; have BK263:=n2_; have GW263:=n3_; have GE263:=n4_; have NB262_263:=n5_; have NB263_262:=n6_; clear n0_ n1_ n2_ n3_ n4_ n5_ n6_; clear hb hbox hg; have hnb18:=NB263_262.out; have hnc18:=NB262_263.out; obtain⟨hcz19_0,hcz19_1,hcz19_2,hfz19_0,hfz19_1,hfz19_2⟩:=qz BK263.out; obtain⟨hcz20_0,hcz20_1,hcz20_2,hfz20_0,hfz20_1,hfz20_2⟩:=qz BK262.out) | (go_at_call 61; (with_reducible refine(fluxionref01_Is.calls k _ _ l0_1 _ _ l1_1 false _ ?side1 ?side2 ?side3 ?side4 A4.out).mono ?_); (case side1=>exact qc (Kd.C_below HR0_1.out HB.out)); (case side2=>exact HC0_1.out); (case side3=>exact qc (Kd.C_below HR1_1.out HB.out)); (case side4=>exact HC1_1.out); rintro e w21 ⟨rfl,hb⟩; have n0_:=Aside0.mk (zbt (g:=gb262) (o:=.cells #[.bool a0_0,.slice A0_1 l0_1.length c0_1,.slice A0_2 l0_2.length c0_2] 36 (0,0)) (qk BK262.out) hb); have n1_:=Aside0.mk (zbt (g:=gb263) (o:=.cells #[.bool a1_0,.slice A1_1 l1_1.length c1_1,.slice A1_2 l1_2.length c1_2] 25 (0,0)) (qk BK263.out) hb); have n2_:=Aside0.mk (zbp (qb2 HB.out GE262.out GE263.out) hb); clear BK262; clear BK263; clear HB; have BK262:=n0_; have BK263:=n1_; have HB:=n2_; clear n0_ n1_ n2_; (try clear hb); (try clear hb2); (try clear hk); (try clear hi)))
   go_ret
   exact⟨by first | rfl | (simp [zbz,zbA]<;>rfl) | (simp [*,zbz,zbA]<;>rfl),by repeat (first | (with_reducible first | exact HB.out | apply zbq | apply zbr | apply zbv | refine zbE ?_ GE262.out | refine zbE ?_ GE263.out) | exact HB.out)⟩
 ·
  rw [if_neg c3] at H
  have c3b0:(a1_0 == a0_0)=false:=by simpa using c3
  (try (have c3b1:decide (a1_0=a0_0)=false:=by simpa using c3))
  (try (have c3b2:(a1_0 == a0_0)=false:=by simpa using c3))
  (try (have c3b3:¬ (a1_0=a0_0):=by simpa using c3))
  clear c3
  obtain rfl:=Option.some.inj H
  go_enter Try.func20,Try.ntmps20
  go_wp2_with (first | ((with_reducible refine zbG (N:=2) rfl ?_); refine zbF ?hg (N:=2) ?hd (cs:=#[.bool a0_0,.slice A0_1 l0_1.length c0_1,.slice A0_2 l0_2.length c0_2]) (t:=36) ?hr ?_; (case hd=>rfl); (case hg=>rfl); (case hr=>first | (go_simp; done) | (go_simp; rfl)); intro gb262 hg w22 hbox hb; have n0_:=Aside0.mk (zbp (qb HB.out) hb); have n1_:=Aside0.mk (hbox); have n2_:=Aside0.mk ((by rw [hg]; exact(zbs (qb HB.out)):w.heap.size≤gb262)); have n3_:=Aside0.mk ((by rw [hg]; exact(zbs (qb HB.out)):w.heap.size≤gb262)); clear HB; have HB:=n0_; have BK262:=n1_; have GW262:=n2_; have GE262:=n3_; clear n0_ n1_ n2_ n3_; clear hb hbox hg) | ((with_reducible refine zbG (N:=3) rfl ?_); refine zbF ?hg (N:=3) ?hd (cs:=#[.bool a1_0,.slice A1_1 l1_1.length c1_1,.slice A1_2 l1_2.length c1_2]) (t:=25) ?hr ?_; (case hd=>rfl); (case hg=>rfl); (case hr=>first | (go_simp; done) | (go_simp; rfl)); intro gb263 hg w23 hbox hb; have n0_:=Aside0.mk (zbt (g:=gb262) (o:=.cells #[.bool a0_0,.slice A0_1 l0_1.length c0_1,.slice A0_2 l0_2.length c0_2] 36 (0,0)) (qk BK262.out) hb); have n1_:=Aside0.mk (zbp (qb1 HB.out GE262.out) hb); have n2_:=Aside0.mk (hbox); have n3_:=Aside0.mk ((by rw [hg]; exact(zbs (qb1 HB.out GE262.out)):w.heap.size≤gb263)); have n4_:=Aside0.mk ((by rw [hg]; exact(zbs (qb1 HB.out GE262.out)):w.heap.size≤gb263)); have n5_:=Aside0.mk ((by rw [hg]; exact Nat.ne_of_lt (zbQ (g:=gb262) (o:=.cells #[.bool a0_0,.slice A0_1 l0_1.length c0_1,.slice A0_2 l0_2.length c0_2] 36 (0,0)) (qk BK262.out)):gb262≠gb263)); have n6_:=Aside0.mk ((by rw [hg]; exact Nat.ne_of_gt (zbQ (g:=gb262) (o:=.cells #[.bool a0_0,.slice A0_1 l0_1.length c0_1,.slice A0_2 l0_2.length c0_2] 36 (0,0)) (qk BK262.out)):gb263≠gb262)); clear BK262; clear HB; have BK262:=n0_; have HB:=n1_; have BK263:=n2_; have GW263:=n3_; have GE263:=n4_; have NB262_263:=n5_; have NB263_262:=n6_; clear n0_ n1_ n2_ n3_ n4_ n5_ n6_; clear hb hbox hg; have hnb24:=NB263_262.out; have hnc24:=NB262_263.out; obtain⟨hcz25_0,hcz25_1,hcz25_2,hfz25_0,hfz25_1,hfz25_2⟩:=qz BK263.out; obtain⟨hcz26_0,hcz26_1,hcz26_2,hfz26_0,hfz26_1,hfz26_2⟩:=qz BK262.out))
  go_ret
  exact⟨by first | rfl | (simp [zbz,zbA]<;>rfl) | (simp [*,zbz,zbA]<;>rfl),by repeat (first | (with_reducible first | exact HB.out | apply zbq | apply zbr | apply zbv | refine zbE ?_ GE262.out | refine zbE ?_ GE263.out) | exact HB.out)⟩
def fluxionref03_May.f (k:Nat) (a0_0:Bool) (l0_1:List Int) (l0_2:List Int):Option (Int):=(fluxionref03_Of.f k a0_0 l0_1 l0_2).bind fun bt267=>((fluxionref03_Is.f k bt267.1 bt267.2.1 bt267.2.2 a0_0 l0_1 l0_2).bind fun t275=>(if t275=true then (some 0) else (some 6)))
theorem fluxionref03_May.calls (k:Nat) (a0_0:Bool) (A0_1:Option Addr) (c0_1:Nat) (l0_1:List Int) (A0_2:Option Addr) (c0_2:Nat) (l0_2:List Int) (r:Int) (w:World) (hr0_1:Kd.C (Kd.int .u32) w A0_1 l0_1.length l0_1) (hc0_1:l0_1.length≤c0_1) (hr0_2:Kd.C (Kd.int .u32) w A0_2 l0_2.length l0_2) (hc0_2:l0_2.length≤c0_2) (h:fluxionref03_May.f k a0_0 l0_1 l0_2=some r) :
  Calls Try.prog 19 #[.agg #[.bool a0_0,.slice A0_1 l0_1.length c0_1,.slice A0_2 l0_2.length c0_2]] w fun e w'=>e=.returned (.int .i64 r)∧Below w.heap.size w w':=by
 have hu25:=Try.underlying25
 have hu36:=Try.underlying36
 have HR0_1:=Aside0.mk hr0_1
 have HC0_1:=Aside0.mk hc0_1
 clear hr0_1 hc0_1
 have HR0_2:=Aside0.mk hr0_2
 have HC0_2:=Aside0.mk hc0_2
 clear hr0_2 hc0_2
 have HB:=Aside0.mk (Below.refl w.heap.size w)
 have H:((fluxionref03_Of.f k a0_0 l0_1 l0_2).bind fun bt267=>((fluxionref03_Is.f k bt267.1 bt267.2.1 bt267.2.2 a0_0 l0_1 l0_2).bind fun t275=>(if t275=true then (some 0) else (some 6))))=some r:=h
 clear h
 replace H:=Option.bind_eq_some_iff.mp H
 obtain⟨⟨t267,t268,t271⟩,A20,H⟩:=H
 replace H:((fluxionref03_Is.f k t267 t268 t271 a0_0 l0_1 l0_2).bind fun t275=>(if t275=true then (some 0) else (some 6)))=some r:=H
 have A2:=Aside0.mk A20
 clear A20
 replace H:=Option.bind_eq_some_iff.mp H
 obtain⟨t275,A30,H⟩:=H
 replace H:(if t275=true then (some 0) else (some 6))=some r:=H
 have A3:=Aside0.mk A30
 clear A30
 by_cases c4:t275=true
 ·
  subst c4
  have H1:(some 0)=some r:=by rw [if_pos rfl] at H; exact H
  clear H
  have H:=H1
  clear H1
  obtain rfl:=Option.some.inj H
  go_enter Try.func19,Try.ntmps19
  go_wp2_with (first | ((with_reducible refine zbG (N:=1) rfl ?_); refine zbF ?hg (N:=1) ?hd (cs:=#[.bool a0_0,.slice A0_1 l0_1.length c0_1,.slice A0_2 l0_2.length c0_2]) (t:=25) ?hr ?_; (case hd=>rfl); (case hg=>rfl); (case hr=>first | (go_simp; done) | (go_simp; rfl)); intro gb266 hg w5 hbox hb; have n0_:=Aside0.mk (zbp (qb HB.out) hb); have n1_:=Aside0.mk (hbox); have n2_:=Aside0.mk ((by rw [hg]; exact(zbs (qb HB.out)):w.heap.size≤gb266)); have n3_:=Aside0.mk ((by rw [hg]; exact(zbs (qb HB.out)):w.heap.size≤gb266)); clear HB; have HB:=n0_; have BK266:=n1_; have GW266:=n2_; have GE266:=n3_; clear n0_ n1_ n2_ n3_; clear hb hbox hg; obtain⟨hcz6_0,hcz6_1,hcz6_2,hfz6_0,hfz6_1,hfz6_2⟩:=qz BK266.out) | ((with_reducible refine zbC (f:=21) rfl ?_); refine zbO (some 5) rfl rfl Try.func21 (by kernel_rfl) rfl #[.agg #[.bool a0_0,.slice A0_1 l0_1.length c0_1,.slice A0_2 l0_2.length c0_2]] rfl (by (try simp only [List.map_toArray,List.map_cons,List.map_nil]); first | done | rfl | (simp only [List.length_drop,List.length_take]; rfl)) ?_; (with_reducible refine(fluxionref03_Of.calls k a0_0 _ _ l0_1 _ _ l0_2 t267 t268 t271 _ ?side1 ?side2 ?side3 ?side4 A2.out).mono ?_); (case side1=>exact qc (Kd.C_below HR0_1.out HB.out)); (case side2=>exact HC0_1.out); (case side3=>exact qc (Kd.C_below HR0_2.out HB.out)); (case side4=>exact HC0_2.out); rintro e w7 ⟨v269,v272,rfl,ho0,ho1,hb⟩; refine⟨_,rfl,?_⟩; have n0_:=Aside0.mk (Kd.R_lower ho0 (zbs (qb1 HB.out GE266.out))); have n1_:=Aside0.mk (Kd.R_lower ho1 (zbs (qb1 HB.out GE266.out))); have n2_:=Aside0.mk (zbt (g:=gb266) (o:=.cells #[.bool a0_0,.slice A0_1 l0_1.length c0_1,.slice A0_2 l0_2.length c0_2] 25 (0,0)) (qk BK266.out) hb); have n3_:=Aside0.mk (zbp (qb1 HB.out GE266.out) hb); clear BK266; clear HB; have HO270:=n0_; have HO273:=n1_; have BK266:=n2_; have HB:=n3_; clear n0_ n1_ n2_ n3_; (try clear hb); (try clear hb2); (try clear hk); (try clear hi); (try clear ho0); (try clear ho1)) | ((with_reducible refine zbG (N:=3) rfl ?_); refine zbF ?hg (N:=3) ?hd (cs:=#[.bool false,.slice none 0 0,.slice none 0 0]) (t:=36) ?hr ?_; (case hd=>rfl); (case hg=>rfl); (case hr=>first | (go_simp; done) | (go_simp; rfl)); intro gb274 hg w8 hbox hb; have n0_:=Aside0.mk (Kd.R_below (qr HO270.out) hb); have n1_:=Aside0.mk (Kd.R_below (qr HO273.out) hb); have n2_:=Aside0.mk (zbt (g:=gb266) (o:=.cells #[.bool a0_0,.slice A0_1 l0_1.length c0_1,.slice A0_2 l0_2.length c0_2] 25 (0,0)) (qk BK266.out) hb); have n3_:=Aside0.mk (zbp (qb1 HB.out GE266.out) hb); have n4_:=Aside0.mk (hbox); have n5_:=Aside0.mk ((by rw [hg]; exact(zbs (qb1 HB.out GE266.out)):w.heap.size≤gb274)); have n6_:=Aside0.mk ((by rw [hg]; exact(zbs (qb1 HB.out GE266.out)):w.heap.size≤gb274)); have n7_:=Aside0.mk ((by rw [hg]; exact Nat.ne_of_lt (zbQ (g:=gb266) (o:=.cells #[.bool a0_0,.slice A0_1 l0_1.length c0_1,.slice A0_2 l0_2.length c0_2] 25 (0,0)) (qk BK266.out)):gb266≠gb274)); have n8_:=Aside0.mk ((by rw [hg]; exact Nat.ne_of_gt (zbQ (g:=gb266) (o:=.cells #[.bool a0_0,.slice A0_1 l0_1.length c0_1,.slice A0_2 l0_2.length c0_2] 25 (0,0)) (qk BK266.out)):gb274≠gb266)); clear HO270; clear HO273; clear BK266; clear HB; have HO270:=n0_; have HO273:=n1_; have BK266:=n2_; have HB:=n3_; have BK274:=n4_; have GW274:=n5_; have GE274:=n6_; have NB266_274:=n7_; have NB274_266:=n8_; clear n0_ n1_ n2_ n3_ n4_ n5_ n6_ n7_ n8_; clear hb hbox hg; have hnb9:=NB274_266.out; have hnc9:=NB266_274.out; obtain⟨hcz10_0,hcz10_1,hcz10_2,hfz10_0,hfz10_1,hfz10_2⟩:=qz BK274.out; obtain⟨Ao11,co11,eo11⟩:=Kd.R_slice HO270.out; subst eo11; obtain⟨Ao12,co12,eo12⟩:=Kd.R_slice HO273.out; subst eo12; obtain⟨hcz13_0,hcz13_1,hcz13_2,hfz13_0,hfz13_1,hfz13_2⟩:=qz BK266.out) | ((with_reducible refine zbC (f:=20) rfl ?_); refine zbO (some 8) rfl rfl Try.func20 (by kernel_rfl) rfl #[.agg #[.bool t267,.slice Ao11 t268.length co11,.slice Ao12 t271.length co12],.agg #[.bool a0_0,.slice A0_1 l0_1.length c0_1,.slice A0_2 l0_2.length c0_2]] rfl (by (try simp only [List.map_toArray,List.map_cons,List.map_nil]); first | done | rfl | (simp only [List.length_drop,List.length_take]; rfl)) ?_; (with_reducible refine(fluxionref03_Is.calls k t267 _ _ t268 _ _ t271 a0_0 _ _ l0_1 _ _ l0_2 true _ ?side1 ?side2 ?side3 ?side4 ?side5 ?side6 ?side7 ?side8 A3.out).mono ?_); (case side1=>refine(Kd.R_reads' (e:=3) (base:=w.heap.size) (ok:=fun k_=>some k_≠(.slice Ao12 t271.length co12:Value).ownBlock) (n:=t268.length) (c:=co11) ?_).2.2; exact(by (with_reducible repeat (first | apply Kd.R_alloc | apply Kd.R_drewN | apply Kd.R_drew)); exact(Kd.R_mono (Kd.R_far (p:=⟨gb274,2,none⟩) (Kd.R_far (p:=⟨gb274,1,none⟩) (Kd.R_far (p:=⟨gb274,0,none⟩) (Kd.R_types HO270.out BK274.out (by decide)) (fun _ hk=>hk.2) (.bool t267)) (fun _ hk=>hk.2) (.slice Ao11 t268.length co11)) (fun _ hk=>hk.2) (.slice Ao12 t271.length co12)) (fun _ h_=>h_.1)))); (case side2=>exact(Kd.R_reads' HO270.out).2.1); (case side3=>refine(Kd.R_reads' (e:=3) (base:=w.heap.size) (ok:=fun k_=>some k_≠(.slice Ao11 t268.length co11:Value).ownBlock) (n:=t271.length) (c:=co12) ?_).2.2; exact(by (with_reducible repeat (first | apply Kd.R_alloc | apply Kd.R_drewN | apply Kd.R_drew)); exact(Kd.R_mono (Kd.R_far (p:=⟨gb274,2,none⟩) (Kd.R_far (p:=⟨gb274,1,none⟩) (Kd.R_far (p:=⟨gb274,0,none⟩) (Kd.R_types HO273.out BK274.out (by decide)) (fun _ hk=>hk.2) (.bool t267)) (fun _ hk=>hk.2) (.slice Ao11 t268.length co11)) (fun _ hk=>hk.2) (.slice Ao12 t271.length co12)) (fun _ h_=>h_.1)))); (case side4=>exact(Kd.R_reads' HO273.out).2.1); (case side5=>exact Kd.C_below HR0_1.out (qb2 HB.out GE266.out GE274.out)); (case side6=>exact HC0_1.out); (case side7=>exact Kd.C_below HR0_2.out (qb2 HB.out GE266.out GE274.out)); (case side8=>exact HC0_2.out); rintro e w14 ⟨rfl,hb⟩; refine⟨_,rfl,?_⟩; have n0_:=Aside0.mk (Kd.R_below (by (with_reducible repeat (first | apply Kd.R_alloc | apply Kd.R_drewN | apply Kd.R_drew)); exact(Kd.R_mono (Kd.R_far (p:=⟨gb274,2,none⟩) (Kd.R_far (p:=⟨gb274,1,none⟩) (Kd.R_far (p:=⟨gb274,0,none⟩) (Kd.R_types HO270.out BK274.out (by decide)) (fun _ hk=>hk.2) (.bool t267)) (fun _ hk=>hk.2) (.slice Ao11 t268.length co11)) (fun _ hk=>hk.2) (.slice Ao12 t271.length co12)) (fun _ h_=>h_.1))) hb); have n1_:=Aside0.mk (Kd.R_below (by (with_reducible repeat (first | apply Kd.R_alloc | apply Kd.R_drewN | apply Kd.R_drew)); exact(Kd.R_mono (Kd.R_far (p:=⟨gb274,2,none⟩) (Kd.R_far (p:=⟨gb274,1,none⟩) (Kd.R_far (p:=⟨gb274,0,none⟩) (Kd.R_types HO273.out BK274.out (by decide)) (fun _ hk=>hk.2) (.bool t267)) (fun _ hk=>hk.2) (.slice Ao11 t268.length co11)) (fun _ hk=>hk.2) (.slice Ao12 t271.length co12)) (fun _ h_=>h_.1))) hb); have n2_:=Aside0.mk (zbt (g:=gb266) (o:=.cells #[.bool a0_0,.slice A0_1 l0_1.length c0_1,.slice A0_2 l0_2.length c0_2] 25 (0,0)) (by (with_reducible repeat (first | refine zby ?_ _ | refine zbx ?_ | refine zbw ?_ _)); refine zbP ?_ NB266_274.out _; (with_reducible repeat (first | refine zby ?_ _ | refine zbx ?_ | refine zbw ?_ _)); refine zbP ?_ NB266_274.out _; (with_reducible repeat (first | refine zby ?_ _ | refine zbx ?_ | refine zbw ?_ _)); refine zbP ?_ NB266_274.out _; (with_reducible repeat (first | refine zby ?_ _ | refine zbx ?_ | refine zbw ?_ _)); exact BK266.out) hb); have n3_:=Aside0.mk (zbt (g:=gb274) (o:=.cells #[.bool t267,.slice Ao11 t268.length co11,.slice Ao12 t271.length co12] 36 (0,0)) (by (with_reducible repeat (first | refine zby ?_ _ | refine zbx ?_ | refine zbw ?_ _)); refine zbK (cs:=#[.bool t267,.slice Ao11 t268.length co11,.slice none 0 0]) ?_ 2 _ rfl; (with_reducible repeat (first | refine zby ?_ _ | refine zbx ?_ | refine zbw ?_ _)); refine zbK (cs:=#[.bool t267,.slice none 0 0,.slice none 0 0]) ?_ 1 _ rfl; (with_reducible repeat (first | refine zby ?_ _ | refine zbx ?_ | refine zbw ?_ _)); refine zbK (cs:=#[.bool false,.slice none 0 0,.slice none 0 0]) ?_ 0 _ rfl; (with_reducible repeat (first | refine zby ?_ _ | refine zbx ?_ | refine zbw ?_ _)); exact BK274.out) hb); have n4_:=Aside0.mk (zbp (qb2 HB.out GE266.out GE274.out) hb); clear HO270; clear HO273; clear BK266; clear BK274; clear HB; have HO270:=n0_; have HO273:=n1_; have BK266:=n2_; have BK274:=n3_; have HB:=n4_; clear n0_ n1_ n2_ n3_ n4_; (try clear hb); (try clear hb2); (try clear hk); (try clear hi)))
  go_ret
  exact⟨by first | rfl | (simp [zbz,zbA]<;>rfl) | (simp [*,zbz,zbA]<;>rfl),by repeat (first | (with_reducible first | exact HB.out | apply zbq | apply zbr | apply zbv | refine zbE ?_ GE266.out | refine zbE ?_ GE274.out) | exact HB.out)⟩
 ·
  replace c4:=Bool.eq_false_iff.mpr c4
  subst c4
  have H1:(some 6)=some r:=by rw [if_neg (show ¬ (false=true) by decide)] at H; exact H
  clear H
  have H:=H1
  clear H1
  obtain rfl:=Option.some.inj H
  go_enter Try.func19,Try.ntmps19
  go_wp2_with (first | ((with_reducible refine zbG (N:=1) rfl ?_); refine zbF ?hg (N:=1) ?hd (cs:=#[.bool a0_0,.slice A0_1 l0_1.length c0_1,.slice A0_2 l0_2.length c0_2]) (t:=25) ?hr ?_; (case hd=>rfl); (case hg=>rfl); (case hr=>first | (go_simp; done) | (go_simp; rfl)); intro gb266 hg w15 hbox hb; have n0_:=Aside0.mk (zbp (qb HB.out) hb); have n1_:=Aside0.mk (hbox); have n2_:=Aside0.mk ((by rw [hg]; exact(zbs (qb HB.out)):w.heap.size≤gb266)); have n3_:=Aside0.mk ((by rw [hg]; exact(zbs (qb HB.out)):w.heap.size≤gb266)); clear HB; have HB:=n0_; have BK266:=n1_; have GW266:=n2_; have GE266:=n3_; clear n0_ n1_ n2_ n3_; clear hb hbox hg; obtain⟨hcz16_0,hcz16_1,hcz16_2,hfz16_0,hfz16_1,hfz16_2⟩:=qz BK266.out) | ((with_reducible refine zbC (f:=21) rfl ?_); refine zbO (some 5) rfl rfl Try.func21 (by kernel_rfl) rfl #[.agg #[.bool a0_0,.slice A0_1 l0_1.length c0_1,.slice A0_2 l0_2.length c0_2]] rfl (by (try simp only [List.map_toArray,List.map_cons,List.map_nil]); first | done | rfl | (simp only [List.length_drop,List.length_take]; rfl)) ?_; (with_reducible refine(fluxionref03_Of.calls k a0_0 _ _ l0_1 _ _ l0_2 t267 t268 t271 _ ?side1 ?side2 ?side3 ?side4 A2.out).mono ?_); (case side1=>exact qc (Kd.C_below HR0_1.out HB.out)); (case side2=>exact HC0_1.out); (case side3=>exact qc (Kd.C_below HR0_2.out HB.out)); (case side4=>exact HC0_2.out); rintro e w17 ⟨v269,v272,rfl,ho0,ho1,hb⟩; refine⟨_,rfl,?_⟩; have n0_:=Aside0.mk (Kd.R_lower ho0 (zbs (qb1 HB.out GE266.out))); have n1_:=Aside0.mk (Kd.R_lower ho1 (zbs (qb1 HB.out GE266.out))); have n2_:=Aside0.mk (zbt (g:=gb266) (o:=.cells #[.bool a0_0,.slice A0_1 l0_1.length c0_1,.slice A0_2 l0_2.length c0_2] 25 (0,0)) (qk BK266.out) hb); have n3_:=Aside0.mk (zbp (qb1 HB.out GE266.out) hb); clear BK266; clear HB; have HO270:=n0_; have HO273:=n1_; have BK266:=n2_; have HB:=n3_; clear n0_ n1_ n2_ n3_; (try clear hb); (try clear hb2); (try clear hk); (try clear hi); (try clear ho0); (try clear ho1)) | ((with_reducible refine zbG (N:=3) rfl ?_); refine zbF ?hg (N:=3) ?hd (cs:=#[.bool false,.slice none 0 0,.slice none 0 0]) (t:=36) ?hr ?_; (case hd=>rfl); (case hg=>rfl); (case hr=>first | (go_simp; done) | (go_simp; rfl)); intro gb274 hg w18 hbox hb; have n0_:=Aside0.mk (Kd.R_below (qr HO270.out) hb); have n1_:=Aside0.mk (Kd.R_below (qr HO273.out) hb); have n2_:=Aside0.mk (zbt (g:=gb266) (o:=.cells #[.bool a0_0,.slice A0_1 l0_1.length c0_1,.slice A0_2 l0_2.length c0_2] 25 (0,0)) (qk BK266.out) hb); have n3_:=Aside0.mk (zbp (qb1 HB.out GE266.out) hb); have n4_:=Aside0.mk (hbox); have n5_:=Aside0.mk ((by rw [hg]; exact(zbs (qb1 HB.out GE266.out)):w.heap.size≤gb274)); have n6_:=Aside0.mk ((by rw [hg]; exact(zbs (qb1 HB.out GE266.out)):w.heap.size≤gb274)); have n7_:=Aside0.mk ((by rw [hg]; exact Nat.ne_of_lt (zbQ (g:=gb266) (o:=.cells #[.bool a0_0,.slice A0_1 l0_1.length c0_1,.slice A0_2 l0_2.length c0_2] 25 (0,0)) (qk BK266.out)):gb266≠gb274)); have n8_:=Aside0.mk ((by rw [hg]; exact Nat.ne_of_gt (zbQ (g:=gb266) (o:=.cells #[.bool a0_0,.slice A0_1 l0_1.length c0_1,.slice A0_2 l0_2.length c0_2] 25 (0,0)) (qk BK266.out)):gb274≠gb266)); clear HO270; clear HO273; clear BK266; clear HB; have HO270:=n0_; have HO273:=n1_; have BK266:=n2_; have HB:=n3_; have BK274:=n4_; have GW274:=n5_; have GE274:=n6_; have NB266_274:=n7_; have NB274_266:=n8_; clear n0_ n1_ n2_ n3_ n4_ n5_ n6_ n7_ n8_; clear hb hbox hg; have hnb19:=NB274_266.out; have hnc19:=NB266_274.out; obtain⟨hcz20_0,hcz20_1,hcz20_2,hfz20_0,hfz20_1,hfz20_2⟩:=qz BK274.out; obtain⟨Ao21,co21,eo21⟩:=Kd.R_slice HO270.out; subst eo21; obtain⟨Ao22,co22,eo22⟩:=Kd.R_slice HO273.out; subst eo22; obtain⟨hcz23_0,hcz23_1,hcz23_2,hfz23_0,hfz23_1,hfz23_2⟩:=qz BK266.out) | ((with_reducible refine zbC (f:=20) rfl ?_); refine zbO (some 8) rfl rfl Try.func20 (by kernel_rfl) rfl #[.agg #[.bool t267,.slice Ao21 t268.length co21,.slice Ao22 t271.length co22],.agg #[.bool a0_0,.slice A0_1 l0_1.length c0_1,.slice A0_2 l0_2.length c0_2]] rfl (by (try simp only [List.map_toArray,List.map_cons,List.map_nil]); first | done | rfl | (simp only [List.length_drop,List.length_take]; rfl)) ?_; (with_reducible refine(fluxionref03_Is.calls k t267 _ _ t268 _ _ t271 a0_0 _ _ l0_1 _ _ l0_2 false _ ?side1 ?side2 ?side3 ?side4 ?side5 ?side6 ?side7 ?side8 A3.out).mono ?_); (case side1=>refine(Kd.R_reads' (e:=3) (base:=w.heap.size) (ok:=fun k_=>some k_≠(.slice Ao22 t271.length co22:Value).ownBlock) (n:=t268.length) (c:=co21) ?_).2.2; exact(by (with_reducible repeat (first | apply Kd.R_alloc | apply Kd.R_drewN | apply Kd.R_drew)); exact(Kd.R_mono (Kd.R_far (p:=⟨gb274,2,none⟩) (Kd.R_far (p:=⟨gb274,1,none⟩) (Kd.R_far (p:=⟨gb274,0,none⟩) (Kd.R_types HO270.out BK274.out (by decide)) (fun _ hk=>hk.2) (.bool t267)) (fun _ hk=>hk.2) (.slice Ao21 t268.length co21)) (fun _ hk=>hk.2) (.slice Ao22 t271.length co22)) (fun _ h_=>h_.1)))); (case side2=>exact(Kd.R_reads' HO270.out).2.1); (case side3=>refine(Kd.R_reads' (e:=3) (base:=w.heap.size) (ok:=fun k_=>some k_≠(.slice Ao21 t268.length co21:Value).ownBlock) (n:=t271.length) (c:=co22) ?_).2.2; exact(by (with_reducible repeat (first | apply Kd.R_alloc | apply Kd.R_drewN | apply Kd.R_drew)); exact(Kd.R_mono (Kd.R_far (p:=⟨gb274,2,none⟩) (Kd.R_far (p:=⟨gb274,1,none⟩) (Kd.R_far (p:=⟨gb274,0,none⟩) (Kd.R_types HO273.out BK274.out (by decide)) (fun _ hk=>hk.2) (.bool t267)) (fun _ hk=>hk.2) (.slice Ao21 t268.length co21)) (fun _ hk=>hk.2) (.slice Ao22 t271.length co22)) (fun _ h_=>h_.1)))); (case side4=>exact(Kd.R_reads' HO273.out).2.1); (case side5=>exact Kd.C_below HR0_1.out (qb2 HB.out GE266.out GE274.out)); (case side6=>exact HC0_1.out); (case side7=>exact Kd.C_below HR0_2.out (qb2 HB.out GE266.out GE274.out)); (case side8=>exact HC0_2.out); rintro e w24 ⟨rfl,hb⟩; refine⟨_,rfl,?_⟩; have n0_:=Aside0.mk (Kd.R_below (by (with_reducible repeat (first | apply Kd.R_alloc | apply Kd.R_drewN | apply Kd.R_drew)); exact(Kd.R_mono (Kd.R_far (p:=⟨gb274,2,none⟩) (Kd.R_far (p:=⟨gb274,1,none⟩) (Kd.R_far (p:=⟨gb274,0,none⟩) (Kd.R_types HO270.out BK274.out (by decide)) (fun _ hk=>hk.2) (.bool t267)) (fun _ hk=>hk.2) (.slice Ao21 t268.length co21)) (fun _ hk=>hk.2) (.slice Ao22 t271.length co22)) (fun _ h_=>h_.1))) hb); have n1_:=Aside0.mk (Kd.R_below (by (with_reducible repeat (first | apply Kd.R_alloc | apply Kd.R_drewN | apply Kd.R_drew)); exact(Kd.R_mono (Kd.R_far (p:=⟨gb274,2,none⟩) (Kd.R_far (p:=⟨gb274,1,none⟩) (Kd.R_far (p:=⟨gb274,0,none⟩) (Kd.R_types HO273.out BK274.out (by decide)) (fun _ hk=>hk.2) (.bool t267)) (fun _ hk=>hk.2) (.slice Ao21 t268.length co21)) (fun _ hk=>hk.2) (.slice Ao22 t271.length co22)) (fun _ h_=>h_.1))) hb); have n2_:=Aside0.mk (zbt (g:=gb266) (o:=.cells #[.bool a0_0,.slice A0_1 l0_1.length c0_1,.slice A0_2 l0_2.length c0_2] 25 (0,0)) (by (with_reducible repeat (first | refine zby ?_ _ | refine zbx ?_ | refine zbw ?_ _)); refine zbP ?_ NB266_274.out _; (with_reducible repeat (first | refine zby ?_ _ | refine zbx ?_ | refine zbw ?_ _)); refine zbP ?_ NB266_274.out _; (with_reducible repeat (first | refine zby ?_ _ | refine zbx ?_ | refine zbw ?_ _)); refine zbP ?_ NB266_274.out _; (with_reducible repeat (first | refine zby ?_ _ | refine zbx ?_ | refine zbw ?_ _)); exact BK266.out) hb); have n3_:=Aside0.mk (zbt (g:=gb274) (o:=.cells #[.bool t267,.slice Ao21 t268.length co21,.slice Ao22 t271.length co22] 36 (0,0)) (by (with_reducible repeat (first | refine zby ?_ _ | refine zbx ?_ | refine zbw ?_ _)); refine zbK (cs:=#[.bool t267,.slice Ao21 t268.length co21,.slice none 0 0]) ?_ 2 _ rfl; (with_reducible repeat (first | refine zby ?_ _ | refine zbx ?_ | refine zbw ?_ _)); refine zbK (cs:=#[.bool t267,.slice none 0 0,.slice none 0 0]) ?_ 1 _ rfl; (with_reducible repeat (first | refine zby ?_ _ | refine zbx ?_ | refine zbw ?_ _)); refine zbK (cs:=#[.bool false,.slice none 0 0,.slice none 0 0]) ?_ 0 _ rfl; (with_reducible repeat (first | refine zby ?_ _ | refine zbx ?_ | refine zbw ?_ _)); exact BK274.out) hb); have n4_:=Aside0.mk (zbp (qb2 HB.out GE266.out GE274.out) hb); clear HO270; clear HO273; clear BK266; clear BK274; clear HB; have HO270:=n0_; have HO273:=n1_; have BK266:=n2_; have BK274:=n3_; have HB:=n4_; clear n0_ n1_ n2_ n3_ n4_; (try clear hb); (try clear hb2); (try clear hk); (try clear hi)))
  go_ret
  exact⟨by first | rfl | (simp [zbz,zbA]<;>rfl) | (simp [*,zbz,zbA]<;>rfl),by repeat (first | (with_reducible first | exact HB.out | apply zbq | apply zbr | apply zbv | refine zbE ?_ GE266.out | refine zbE ?_ GE274.out) | exact HB.out)⟩
def fluxionref03_size.f (k:Nat) (a0:Int):Option (List Int):=if a0 < 0 then ((fluxionref01_Small.f k (wrap64 (-(wrap64 (a0+1))))).bind fun t276=>((fluxionref01_Add.f k t276 (([1]:List Int))).bind fun t282=>(some t282))) else ((fluxionref01_Small.f k a0).bind fun t285=>(some t285))
theorem fluxionref03_size.calls (k:Nat) (a0:Int) (r:List Int) (w:World) (h:fluxionref03_size.f k a0=some r) :
  Calls Try.prog 72 #[.int .i64 a0] w fun e w'=>∃ v0_:Value,e=.returned (v0_)∧Kd.R (Kd.int .i64) 3 w' w.heap.size (fun _=>True) v0_ r∧Below w.heap.size w w':=by
 have HB:=Aside0.mk (Below.refl w.heap.size w)
 have H:(if a0 < 0 then ((fluxionref01_Small.f k (wrap64 (-(wrap64 (a0+1))))).bind fun t276=>((fluxionref01_Add.f k t276 (([1]:List Int))).bind fun t282=>(some t282))) else ((fluxionref01_Small.f k a0).bind fun t285=>(some t285)))=some r:=h
 clear h
 by_cases c2:a0 < 0
 ·
  rw [if_pos c2] at H
  have c2b0:decide (a0 < 0)=true:=decide_eq_true c2
  clear c2
  replace H:=Option.bind_eq_some_iff.mp H
  obtain⟨t276,A30,H⟩:=H
  replace H:((fluxionref01_Add.f k t276 (([1]:List Int))).bind fun t282=>(some t282))=some r:=H
  have A3:=Aside0.mk A30
  clear A30
  obtain⟨y279,hy279⟩:∃ y_:List Int,y_=(([1]:List Int)):=⟨_,rfl⟩
  replace H:((fluxionref01_Add.f k t276 y279).bind fun t282=>(some t282))=some r:=by first | (rw [hy279]; with_reducible exact H) | (have H2_:=(Option.bind_some _ _).symm.trans H; rw [hy279]; with_reducible exact H2_) | (have H2_:=(Option.bind_some _ _).symm.trans H; with_reducible exact H2_) | with_reducible exact H | (rw [hy279]; exact H) | exact H
  have Ny279:=Aside0.mk hy279
  clear hy279
  replace H:=Option.bind_eq_some_iff.mp H
  obtain⟨t282,A40,H⟩:=H
  replace H:(some t282)=some r:=H
  have A4:=Aside0.mk A40
  clear A40
  obtain rfl:=Option.some.inj H
  go_enter Try.func72,Try.ntmps72
  go_wp2_with (first | ((with_reducible refine zbC (f:=68) rfl ?_); refine zbO (some 8) rfl rfl Try.func68 (by kernel_rfl) rfl #[.int .i64 (wrap64 (-(wrap64 (a0+1))))] rfl (by (try simp only [List.map_toArray,List.map_cons,List.map_nil]); first | done | rfl | (simp only [List.length_drop,List.length_take]; rfl)) ?_; (with_reducible refine(fluxionref01_Small.calls k (wrap64 (-(wrap64 (a0+1)))) t276 _ A3.out).mono ?_); rintro e w5 ⟨v277,rfl,ho0,hb⟩; refine⟨_,rfl,?_⟩; have n0_:=Aside0.mk (Kd.R_lower ho0 (zbs (qb HB.out))); have n1_:=Aside0.mk (zbp (qb HB.out) hb); clear HB; have HO278:=n0_; have HB:=n1_; clear n0_ n1_; (try clear hb); (try clear hb2); (try clear hk); (try clear hi); (try clear ho0)) | ((with_reducible refine zbG (N:=9) rfl ?_); refine Kd.R_lit (Kd.int .i64) _ 3 ?hg (N:=9) ?hd (xs:=([1]:List Int)) (inner:=[.int .i64 1]) (ok:=fun _=>True) (okp:=fun _=>True) ?hr ?hp (fun _ hk=>hk) trivial (Below.refl _ _) (Nat.le_refl _) (by simp) ?_; (case hd=>rfl); (case hg=>rfl); (case hr=>first | (go_simp; done) | (go_simp; rfl)); (case hp=>exact(Reps.one (show Kd.M (Kd.int .i64) _ _ _ 1 [.int .i64 1] from rfl) (Reps.none _ _))); intro v280 w6 ho7 hb hg_ hnew_; clear hg_ hnew_; (first | rw [← Ny279.out] at ho7 | (simp only [Int.reduceToNat] at ho7; rw [← Ny279.out] at ho7)); have n0_:=Aside0.mk (Kd.R_elder' (qr HO278.out) (Kd.R_base ho7) hb); have n1_:=Aside0.mk (Kd.R_lower (Kd.R_new' ho7 (Kd.R_lt (qr HO278.out))) (zbs (qb HB.out))); have n2_:=Aside0.mk (zbp (qb HB.out) hb); clear HO278; clear HB; have HO278:=n0_; have HO281:=n1_; have HB:=n2_; clear n0_ n1_ n2_; clear hb ho7; obtain⟨Ao8,co8,eo8⟩:=Kd.R_slice HO278.out; subst eo8; obtain⟨Ao9,co9,eo9⟩:=Kd.R_slice HO281.out; subst eo9) | ((with_reducible refine zbC (f:=66) rfl ?_); refine zbO (some 10) rfl rfl Try.func66 (by kernel_rfl) rfl #[.slice Ao8 t276.length co8,.slice Ao9 y279.length co9] rfl (by (try simp only [List.map_toArray,List.map_cons,List.map_nil]); first | done | rfl | (simp only [List.length_drop,List.length_take]; rfl)) ?_; (with_reducible refine(fluxionref01_Add.calls k _ _ t276 _ _ y279 t282 _ ?side1 ?side2 ?side3 ?side4 A4.out).mono ?_); (case side1=>exact qc (Kd.R_reads' HO278.out).2.2); (case side2=>exact(Kd.R_reads' HO278.out).2.1); (case side3=>exact qc (Kd.R_reads' HO281.out).2.2); (case side4=>exact(Kd.R_reads' HO281.out).2.1); rintro e w10 ⟨v283,rfl,ho0,hb⟩; refine⟨_,rfl,?_⟩; have n0_:=Aside0.mk (Kd.R_elder' (qr HO278.out) (Kd.R_base ho0) hb); have n1_:=Aside0.mk (Kd.R_elder' (qr HO281.out) (Kd.R_base ho0) hb); have n2_:=Aside0.mk (Kd.R_lower (Kd.R_new' (Kd.R_new' ho0 (Kd.R_lt (qr HO278.out))) (Kd.R_lt (qr HO281.out))) (zbs (qb HB.out))); have n3_:=Aside0.mk (zbp (qb HB.out) hb); clear HO278; clear HO281; clear HB; have HO278:=n0_; have HO281:=n1_; have HO284:=n2_; have HB:=n3_; clear n0_ n1_ n2_ n3_; (try clear hb); (try clear hb2); (try clear hk); (try clear hi); (try clear ho0)))
  go_ret
  exact⟨_,by first | rfl | (simp [zbz,zbA]<;>rfl) | (simp [*,zbz,zbA]<;>rfl),by (with_reducible repeat (first | apply Kd.R_alloc | apply Kd.R_drewN | apply Kd.R_drew)); exact Kd.R_mono HO284.out (fun _ hk=>trivial),by repeat (first | (with_reducible first | exact HB.out | apply zbq | apply zbr | apply zbv) | exact HB.out)⟩
 ·
  rw [if_neg c2] at H
  have c2b0:decide (a0 < 0)=false:=decide_eq_false c2
  clear c2
  replace H:=Option.bind_eq_some_iff.mp H
  obtain⟨t285,A110,H⟩:=H
  replace H:(some t285)=some r:=H
  have A11:=Aside0.mk A110
  clear A110
  obtain rfl:=Option.some.inj H
  go_enter Try.func72,Try.ntmps72
  go_wp2_with (first | ((with_reducible refine zbC (f:=68) rfl ?_); refine zbO (some 12) rfl rfl Try.func68 (by kernel_rfl) rfl #[.int .i64 a0] rfl (by (try simp only [List.map_toArray,List.map_cons,List.map_nil]); first | done | rfl | (simp only [List.length_drop,List.length_take]; rfl)) ?_; (with_reducible refine(fluxionref01_Small.calls k a0 t285 _ A11.out).mono ?_); rintro e w12 ⟨v286,rfl,ho0,hb⟩; refine⟨_,rfl,?_⟩; have n0_:=Aside0.mk (Kd.R_lower ho0 (zbs (qb HB.out))); have n1_:=Aside0.mk (zbp (qb HB.out) hb); clear HB; have HO287:=n0_; have HB:=n1_; clear n0_ n1_; (try clear hb); (try clear hb2); (try clear hk); (try clear hi); (try clear ho0)))
  go_ret
  exact⟨_,by first | rfl | (simp [zbz,zbA]<;>rfl) | (simp [*,zbz,zbA]<;>rfl),by (with_reducible repeat (first | apply Kd.R_alloc | apply Kd.R_drewN | apply Kd.R_drew)); exact HO287.out,by repeat (first | (with_reducible first | exact HB.out | apply zbq | apply zbr | apply zbv) | exact HB.out)⟩
def fluxionref03_Int.f (k:Nat) (a0:Int):Option (Bool×List Int×List Int):=(fluxionref03_size.f k a0).bind fun t289=>(some (decide (a0 < 0),t289,(([1]:List Int))))
theorem fluxionref03_Int.calls (k:Nat) (a0:Int) (r1:Bool) (r2:List Int) (r3:List Int) (w:World) (h:fluxionref03_Int.f k a0=some (r1,r2,r3)) :
  Calls Try.prog 27 #[.int .i64 a0] w fun e w'=>∃ v1_ v2_:Value,e=.returned (.agg #[.bool r1,v1_,v2_])∧Kd.R (Kd.int .i64) 3 w' w.heap.size (fun k_=>some k_≠(v2_:Value).ownBlock) v1_ r2∧Kd.R (Kd.int .i64) 3 w' w.heap.size (fun k_=>some k_≠(v1_:Value).ownBlock) v2_ r3∧Below w.heap.size w w':=by
 have hu36:=Try.underlying36
 have HB:=Aside0.mk (Below.refl w.heap.size w)
 have H:((fluxionref03_size.f k a0).bind fun t289=>(some (decide (a0 < 0),t289,(([1]:List Int)))))=some (r1,r2,r3):=h
 clear h
 replace H:=Option.bind_eq_some_iff.mp H
 obtain⟨t289,A20,H⟩:=H
 replace H:(some (decide (a0 < 0),t289,(([1]:List Int))))=some (r1,r2,r3):=H
 have A2:=Aside0.mk A20
 clear A20
 obtain⟨y292,hy292⟩:∃ y_:List Int,y_=(([1]:List Int)):=⟨_,rfl⟩
 replace H:(some (decide (a0 < 0),t289,y292))=some (r1,r2,r3):=by first | (rw [hy292]; with_reducible exact H) | (have H2_:=(Option.bind_some _ _).symm.trans H; rw [hy292]; with_reducible exact H2_) | (have H2_:=(Option.bind_some _ _).symm.trans H; with_reducible exact H2_) | with_reducible exact H | (rw [hy292]; exact H) | exact H
 have Ny292:=Aside0.mk hy292
 clear hy292
 simp only [Option.some.injEq,Prod.mk.injEq] at H
 obtain⟨rfl,rfl,rfl⟩:=H
 go_enter Try.func27,Try.ntmps27
 go_wp2_with (first | ((with_reducible refine zbG (N:=2) rfl ?_); refine zbF ?hg (N:=2) ?hd (cs:=#[.bool false,.slice none 0 0,.slice none 0 0]) (t:=36) ?hr ?_; (case hd=>rfl); (case hg=>rfl); (case hr=>first | (go_simp; done) | (go_simp; rfl)); intro gb288 hg w3 hbox hb; have n0_:=Aside0.mk (zbp (qb HB.out) hb); have n1_:=Aside0.mk (hbox); have n2_:=Aside0.mk ((by rw [hg]; exact(zbs (qb HB.out)):w.heap.size≤gb288)); have n3_:=Aside0.mk ((by rw [hg]; exact(zbs (qb HB.out)):w.heap.size≤gb288)); clear HB; have HB:=n0_; have BK288:=n1_; have GW288:=n2_; have GE288:=n3_; clear n0_ n1_ n2_ n3_; clear hb hbox hg) | ((with_reducible refine zbC (f:=72) rfl ?_); refine zbO (some 6) rfl rfl Try.func72 (by kernel_rfl) rfl #[.int .i64 a0] rfl (by (try simp only [List.map_toArray,List.map_cons,List.map_nil]); first | done | rfl | (simp only [List.length_drop,List.length_take]; rfl)) ?_; (with_reducible refine(fluxionref03_size.calls k a0 t289 _ A2.out).mono ?_); rintro e w4 ⟨v290,rfl,ho0,hb⟩; refine⟨_,rfl,?_⟩; have n0_:=Aside0.mk (Kd.R_lower ho0 (zbs (qb1 HB.out GE288.out))); have n1_:=Aside0.mk (zbt (g:=gb288) (o:=.cells #[.bool false,.slice none 0 0,.slice none 0 0] 36 (0,0)) (qk BK288.out) hb); have n2_:=Aside0.mk (zbp (qb1 HB.out GE288.out) hb); clear BK288; clear HB; have HO291:=n0_; have BK288:=n1_; have HB:=n2_; clear n0_ n1_ n2_; (try clear hb); (try clear hb2); (try clear hk); (try clear hi); (try clear ho0)) | ((with_reducible refine zbG (N:=7) rfl ?_); refine Kd.R_lit (Kd.int .i64) _ 3 ?hg (N:=7) ?hd (xs:=([1]:List Int)) (inner:=[.int .i64 1]) (ok:=fun _=>True) (okp:=fun _=>True) ?hr ?hp (fun _ hk=>hk) trivial (Below.refl _ _) (Nat.le_refl _) (by simp) ?_; (case hd=>rfl); (case hg=>rfl); (case hr=>first | (go_simp; done) | (go_simp; rfl)); (case hp=>exact(Reps.one (show Kd.M (Kd.int .i64) _ _ _ 1 [.int .i64 1] from rfl) (Reps.none _ _))); intro v293 w5 ho6 hb hg_ hnew_; clear hg_ hnew_; (first | rw [← Ny292.out] at ho6 | (simp only [Int.reduceToNat] at ho6; rw [← Ny292.out] at ho6)); have n0_:=Aside0.mk (Kd.R_elder' (qr HO291.out) (Kd.R_base ho6) hb); have n1_:=Aside0.mk (Kd.R_lower (Kd.R_new' ho6 (Kd.R_lt (qr HO291.out))) (zbs (qb1 HB.out GE288.out))); have n2_:=Aside0.mk (zbt (g:=gb288) (o:=.cells #[.bool false,.slice none 0 0,.slice none 0 0] 36 (0,0)) (qk BK288.out) hb); have n3_:=Aside0.mk (zbp (qb1 HB.out GE288.out) hb); clear HO291; clear BK288; clear HB; have HO291:=n0_; have HO294:=n1_; have BK288:=n2_; have HB:=n3_; clear n0_ n1_ n2_ n3_; clear hb ho6; obtain⟨Ao7,co7,eo7⟩:=Kd.R_slice HO294.out; subst eo7; obtain⟨Ao8,co8,eo8⟩:=Kd.R_slice HO291.out; subst eo8; obtain⟨hcz9_0,hcz9_1,hcz9_2,hfz9_0,hfz9_1,hfz9_2⟩:=qz BK288.out))
 refine bodyPost_ret (results_cell_row rfl _ _ gb288 36 #[.bool (decide (a0 < 0)),.slice Ao8 t289.length co8,.slice Ao7 y292.length co7] (0,0) _ rfl (by (with_reducible repeat (first | refine zby ?_ _ | refine zbx ?_ | refine zbw ?_ _)); refine zbK (cs:=#[.bool (decide (a0 < 0)),.slice Ao8 t289.length co8,.slice none 0 0]) ?_ 2 _ rfl; (with_reducible repeat (first | refine zby ?_ _ | refine zbx ?_ | refine zbw ?_ _)); refine zbK (cs:=#[.bool (decide (a0 < 0)),.slice none 0 0,.slice none 0 0]) ?_ 1 _ rfl; (with_reducible repeat (first | refine zby ?_ _ | refine zbx ?_ | refine zbw ?_ _)); refine zbK (cs:=#[.bool false,.slice none 0 0,.slice none 0 0]) ?_ 0 _ rfl; (with_reducible repeat (first | refine zby ?_ _ | refine zbx ?_ | refine zbw ?_ _)); exact BK288.out) Try.underlying36 rfl (by kernel_rfl)) rfl ?_
 exact⟨_,_,by first | rfl | (simp [zbz,zbA]<;>rfl) | (simp [*,zbz,zbA]<;>rfl),by (with_reducible repeat (first | apply Kd.R_alloc | apply Kd.R_drewN | apply Kd.R_drew)); exact Kd.R_mono (Kd.R_far (p:=⟨gb288,2,none⟩) (Kd.R_far (p:=⟨gb288,1,none⟩) (Kd.R_far (p:=⟨gb288,0,none⟩) (Kd.R_types HO291.out BK288.out (by decide)) (fun _ hk=>hk.2) (.bool (decide (a0 < 0)))) (fun _ hk=>hk.2) (.slice Ao8 t289.length co8)) (fun _ hk=>hk.2) (.slice Ao7 y292.length co7)) (fun _ hk=>hk.1.2),by (with_reducible repeat (first | apply Kd.R_alloc | apply Kd.R_drewN | apply Kd.R_drew)); exact Kd.R_mono (Kd.R_far (p:=⟨gb288,2,none⟩) (Kd.R_far (p:=⟨gb288,1,none⟩) (Kd.R_far (p:=⟨gb288,0,none⟩) (Kd.R_types HO294.out BK288.out (by decide)) (fun _ hk=>hk.2) (.bool (decide (a0 < 0)))) (fun _ hk=>hk.2) (.slice Ao8 t289.length co8)) (fun _ hk=>hk.2) (.slice Ao7 y292.length co7)) (fun _ hk=>hk.1.2),by repeat (first | (with_reducible first | exact HB.out | apply zbq | apply zbr | apply zbv | refine zbE ?_ GE288.out) | exact HB.out)⟩
end Go.Proofs.Ytehghijlchpeaaa.L
end
section
namespace Go.Proofs.Ytehghijlchpeaaa.L
open Go.RowKit YtehghijlchpeaaaW.PrintWords YtehghijlchpeaaaW.PrintLast YtehghijlchpeaaaW.PrintMore
attribute [local go_sem] zb6 zb4 zca zcb zbY zbX zb5 zb7   -- for this text's walks alone
def fluxionref01_Mul.l0:Nat→List Int→List Int→List Int→Int→Option (List Int)
 | 0,_,_,_,_=>none
 | k+1,x0,x1,x5,x6=>if x6 ≥ 0 then (if (x5.length:Int) > 0 then ((some (([0]:List Int):List Int)).bind fun y313=>(if y313.length+x5.length < 17592186044416 then (if 0≤x6 then (if x6 < (x1.length:Int) then ((fluxionref01_Times.f k x0 (rd x1 x6)).bind fun t320=>((fluxionref01_Add.f k (y313++x5) t320).bind fun t323=>(fluxionref01_Mul.l0 k x0 x1 t323 (wrap64 (x6-1))))) else (none)) else (none)) else (none))) else (if 0≤x6 then (if x6 < (x1.length:Int) then ((fluxionref01_Times.f k x0 (rd x1 x6)).bind fun t327=>((fluxionref01_Add.f k ([]:List Int) t327).bind fun t330=>(fluxionref01_Mul.l0 k x0 x1 t330 (wrap64 (x6-1))))) else (none)) else (none))) else (some x5)
end Go.Proofs.Ytehghijlchpeaaa.L
end
section
namespace Go.Proofs.Ytehghijlchpeaaa.L
open Go.RowKit YtehghijlchpeaaaW.PrintWords YtehghijlchpeaaaW.PrintLast YtehghijlchpeaaaW.PrintMore
attribute [local go_sem] zb6 zb4 zca zcb zbY zbX zb5 zb7   -- for this text's walks alone
end Go.Proofs.Ytehghijlchpeaaa.L
end
