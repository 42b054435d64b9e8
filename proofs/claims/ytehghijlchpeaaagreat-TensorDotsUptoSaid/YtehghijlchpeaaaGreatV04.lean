/- Part 5 of the proof of tensorDotsUpto_holds: what it uses, in build order. -/
import Derived.Test.YtehghijlchpeaaaGreatV03
import Derived.ArgAppend
import Derived.Below
import Derived.BigQuiet
import Derived.Deep.AppendLies
import Derived.Deep.CutBlock
import Derived.Deep.DeepCutAuto
import Derived.Deep.Draws
import Derived.Deep.LoopGhost
import Derived.Deep.OwnRows
import Derived.Deep.QuietTactic
import Derived.Deep.RegionHeld3
import Derived.KernelRfl
import Derived.Laws.BitsLemmas
import Derived.Laws.BytesArg
import Derived.Laws.IdiomCopy
import Derived.Laws.MakeOwn
import Derived.Laws.OwnMore
import Derived.Laws.Rows
import Derived.Laws.Slices
import Derived.Lib.AppendStr
import Derived.Lib.ConvBytes
import Derived.Maps.AppendAt
import Derived.OrdersHeld
import Derived.OwnWalk
import Derived.RowKit
import Derived.RowKit3
import Derived.Tactics
import Derived.Test.YtehghijlchpeaaaGreatProg
import Derived.WalkKit
import Derived.WideLaws
set_option maxHeartbeats 8000000
set_option maxRecDepth 100000
set_option linter.unusedVariables false
set_option linter.unusedSimpArgs false
set_option linter.unusedSectionVars false
section
namespace Go.Proofs.YtehghijlchpeaaaGreat.L
open Go.RowKit YtehghijlchpeaaaGreatW.PrintWords YtehghijlchpeaaaGreatW.PrintLast YtehghijlchpeaaaGreatW.PrintMore
attribute [local go_sem] zbX zbZ zb2 zb1 zbQ zbR zbW zbY   -- for this text's walks alone
def errW:Option Int→Value
 | none=>.nilIface
 | some c=>.iface 0 (.int .i64 c)
theorem zbx:errW none=.nilIface:=rfl
theorem zbw (c:Int):errW (some c)=.iface 0 (.int .i64 c):=rfl
theorem info3:(Tryz.prog.info? 3).map (fun i=>(i.zero,i.size,i.bytes))=some (some (.int .i64 0),1,8):=by kernel_rfl
end Go.Proofs.YtehghijlchpeaaaGreat.L
end
section
namespace Go.Proofs.YtehghijlchpeaaaGreat.L
open Go.RowKit YtehghijlchpeaaaGreatW.PrintWords YtehghijlchpeaaaGreatW.PrintLast YtehghijlchpeaaaGreatW.PrintMore
attribute [local go_sem] zbX zbZ zb2 zb1 zbQ zbR zbW zbY   -- for this text's walks alone
def nat_top.l0:Nat→List Int→Int→Option (Int)
 | 0,_,_=>none
 | k+1,x0,x3=>if x3 > 0 then (if 0≤(wrap64 (x3-1)) then (if (wrap64 (x3-1)) < (x0.length:Int) then (if (rd x0 (wrap64 (x3-1)))=0 then (nat_top.l0 k x0 (wrap64 (x3-1))) else (some x3)) else (none)) else (none)) else (some x3)
def nat_top.f (k:Nat) (l0:List Int):Option (Int):=nat_top.l0 k l0 (l0.length:Int)
theorem nat_top.mono_l:∀ k,(∀ y0 y1,LeO (nat_top.l0 k y0 y1) (nat_top.l0 (k+1) y0 y1))
 | 0=>fun _ _ r h=>by simp [nat_top.l0] at h
 | k+1=>by
  have ih0:=nat_top.mono_l k
  ·
   intro y0 y1
   unfold nat_top.l0
   repeat' first
   | (with_reducible exact ih0 _ _)
   | (with_reducible exact LeO.refl _)
   | (with_reducible exact LeO.none _)
   | (with_reducible refine LeO.ite ?_ ?_)
   | (with_reducible refine LeO.bind ?_ (fun _=>?_))
   | exact ih0 _ _
   | exact LeO.none _
   | refine LeO.ite ?_ ?_
   | refine LeO.bind ?_ (fun _=>?_)
theorem nat_top.mono:∀ a0 k,LeO (nat_top.f k a0) (nat_top.f (k+1) a0):=by
 intro a0 k
 have ih0:=nat_top.mono_l k
 unfold nat_top.f
 repeat' first
   | (with_reducible exact ih0 _ _)
   | (with_reducible exact LeO.refl _)
   | (with_reducible exact LeO.none _)
   | (with_reducible refine LeO.ite ?_ ?_)
   | (with_reducible refine LeO.bind ?_ (fun _=>?_))
   | exact ih0 _ _
   | exact LeO.none _
   | refine LeO.ite ?_ ?_
   | refine LeO.bind ?_ (fun _=>?_)
theorem nat_top.calls (k:Nat) (A0:Option Addr) (c0:Nat) (l0:List Int) (r:Int) (w:World) (hr0:Kd.C (Kd.int .u32) w A0 l0.length l0) (hc0:l0.length≤c0) (h:nat_top.f k l0=some r) :
  Calls Tryz.prog 170 #[.slice A0 l0.length c0] w fun e w'=>e=.returned (.int .i64 r)∧Drawn0 w w':=by
 have HR0:=Aside0.mk hr0
 have HC0:=Aside0.mk hc0
 clear hr0 hc0
 have H:(nat_top.l0 k l0 (l0.length:Int))=some r:=h
 clear h
 have H':=Aside0.mk H
 clear H
 go_enter Tryz.func170,Tryz.ntmps170
 go_wp2
 go_loopg [3] k (fun kq v3 w'=>∃ (x3_1:Int),v3=.int .i64 x3_1∧Aside0 (nat_top.l0 kq l0 x3_1=some r)∧Aside0 (kq≤k)∧Drawn0 w w')
 case atStart=>exact⟨((l0.length:Int)),(by first | rfl | (simp; done) | (simp [*]; done)),H',⟨Nat.le_refl _⟩,by repeat (first | exact Drawn0.refl _ | apply Drawn0.step)⟩
 case round =>
  clear H'
  try clear c1
  obtain⟨x3_1,rfl,HA,HK1,⟨m1,rfl⟩⟩:=hrel
  cases gk with
  | zero=>exact absurd HA.out (by simp [nat_top.l0])
  | succ k1 =>
   have H:=HA.out
   clear HA
   simp only [nat_top.l0] at H
   by_cases c2:x3_1 > 0
   ·
    rw [if_pos c2] at H
    have c2b0:decide (0 < x3_1)=true:=decide_eq_true c2
    clear c2
    obtain⟨ji3,hji3⟩:∃ j_:Int,(wrap64 (x3_1-1))=j_:=⟨_,rfl⟩
    replace H:(if 0≤(ji3) then (if (ji3) < (l0.length:Int) then (if (rd l0 (ji3))=0 then (nat_top.l0 k1 l0 ji3) else (some x3_1)) else (none)) else (none))=some r:=by first | (rw [hji3] at H; exact H) | (simp only [hji3] at H ⊢; exact H)
    have hji3w:(IntKind.i64.wrap (x3_1-1))=ji3:=(zcb _).trans hji3
    by_cases c4:0≤(ji3)
    ·
     rw [if_pos c4] at H
     have c4b0:decide (0≤(ji3))=true:=decide_eq_true c4
     clear c4
     by_cases c5:(ji3) < (l0.length:Int)
     ·
      rw [if_pos c5] at H
      have c5b0:decide ((ji3) < (l0.length:Int))=true:=decide_eq_true c5
      clear c5
      by_cases c6:(rd l0 (ji3))=0
      ·
       rw [if_pos c6] at H
       have c6b0:((rd l0 (ji3)) == 0)=true:=beq_iff_eq.mpr c6
       have c6b1:((rd l0 (ji3)) != 0)=false:=bne_eq_false_iff_eq.mpr c6
       clear c6
       have H':=Aside0.mk H
       clear H
       have p101:0≤((ji3):Int):=of_decide_eq_true qs
       have q101:(ji3) < (l0.length:Int):=of_decide_eq_true qs
       obtain⟨ad101,e101,hx101_0⟩:=Kd.at_int HR0.out (ji3) p101 q101
       cases e101
       replace p101:=eq_true p101
       replace q101:=eq_true q101
       go_wp2
       go_roundg k1
       case measure=>have:=HK1.out; omega
       case rel=>exact⟨(ji3),(by first | rfl | (simp; done) | (simp only [← hji3]<;>(first | rfl | simp)) | (simp [*]; done)),H',⟨by have:=HK1.out; omega⟩,by repeat (first | exact Drawn0.refl _ | apply Drawn0.step)⟩
      ·
       rw [if_neg c6] at H
       have c6b0:((rd l0 (ji3)) == 0)=false:=beq_eq_false_iff_ne.mpr c6
       have c6b1:((rd l0 (ji3)) != 0)=true:=bne_iff_ne.mpr c6
       obtain rfl:=Option.some.inj H
       have p101:0≤((ji3):Int):=of_decide_eq_true qs
       have q101:(ji3) < (l0.length:Int):=of_decide_eq_true qs
       obtain⟨ad101,e101,hx101_0⟩:=Kd.at_int HR0.out (ji3) p101 q101
       cases e101
       replace p101:=eq_true p101
       replace q101:=eq_true q101
       go_wp2
       go_ret
       exact⟨by first | rfl | (simp; done) | (simp only [← hji3]<;>(first | rfl | simp)) | (simp [*]; done),by repeat (first | exact Drawn0.refl _ | apply Drawn0.step)⟩
     ·
      rw [if_neg c5] at H
      exact absurd H (by simp)
    ·
     rw [if_neg c4] at H
     exact absurd H (by simp)
   ·
    rw [if_neg c2] at H
    have c2b0:decide (0 < x3_1)=false:=decide_eq_false c2
    clear c2
    obtain rfl:=Option.some.inj H
    go_wp2
    go_ret
    exact⟨by first | rfl | (simp; done) | (simp [*]; done),by repeat (first | exact Drawn0.refl _ | apply Drawn0.step)⟩
def nat_limb.f (l0:List Int) (a1:Int):Option (Int):=if a1 < 0 then (some 0) else (if a1 ≥ (l0.length:Int) then (some 0) else (if 0≤a1 then (if a1 < (l0.length:Int) then (some (IntKind.u64.wrap (rd l0 a1))) else (none)) else (none)))
theorem nat_limb.calls (A0:Option Addr) (c0:Nat) (l0:List Int) (a1:Int) (r:Int) (w:World) (hr0:Kd.C (Kd.int .u32) w A0 l0.length l0) (hc0:l0.length≤c0) (h:nat_limb.f l0 a1=some r) :
  Calls Tryz.prog 174 #[.slice A0 l0.length c0,.int .i64 a1] w fun e w'=>e=.returned (.int .u64 r)∧Drawn0 w w':=by
 have HR0:=Aside0.mk hr0
 have HC0:=Aside0.mk hc0
 clear hr0 hc0
 have H:(if a1 < 0 then (some 0) else (if a1 ≥ (l0.length:Int) then (some 0) else (if 0≤a1 then (if a1 < (l0.length:Int) then (some (IntKind.u64.wrap (rd l0 a1))) else (none)) else (none))))=some r:=h
 clear h
 by_cases c3:a1 < 0
 ·
  rw [if_pos c3] at H
  have c3b0:decide (a1 < 0)=true:=decide_eq_true c3
  clear c3
  obtain rfl:=Option.some.inj H
  go_enter Tryz.func174,Tryz.ntmps174
  go_wp2
  go_ret
  exact⟨by first | rfl | (simp; done) | (simp [*]; done),by repeat (first | exact Drawn0.refl _ | apply Drawn0.step)⟩
 ·
  rw [if_neg c3] at H
  have c3b0:decide (a1 < 0)=false:=decide_eq_false c3
  clear c3
  by_cases c4:a1 ≥ (l0.length:Int)
  ·
   rw [if_pos c4] at H
   have c4b0:decide ((l0.length:Int)≤a1)=true:=decide_eq_true c4
   clear c4
   obtain rfl:=Option.some.inj H
   go_enter Tryz.func174,Tryz.ntmps174
   go_wp2
   go_ret
   exact⟨by first | rfl | (simp; done) | (simp [*]; done),by repeat (first | exact Drawn0.refl _ | apply Drawn0.step)⟩
  ·
   rw [if_neg c4] at H
   have c4b0:decide ((l0.length:Int)≤a1)=false:=decide_eq_false c4
   clear c4
   by_cases c5:0≤a1
   ·
    rw [if_pos c5] at H
    have c5b0:decide (0≤a1)=true:=decide_eq_true c5
    clear c5
    by_cases c6:a1 < (l0.length:Int)
    ·
     rw [if_pos c6] at H
     have c6b0:decide (a1 < (l0.length:Int))=true:=decide_eq_true c6
     clear c6
     obtain rfl:=Option.some.inj H
     have p102:0≤(a1:Int):=of_decide_eq_true qs
     have q102:a1 < (l0.length:Int):=of_decide_eq_true qs
     obtain⟨ad102,e102,hx102_0⟩:=Kd.at_int HR0.out a1 p102 q102
     cases e102
     replace p102:=eq_true p102
     replace q102:=eq_true q102
     go_enter Tryz.func174,Tryz.ntmps174
     go_wp2
     go_ret
     exact⟨by first | rfl | (simp; done) | (simp [*]; done),by repeat (first | exact Drawn0.refl _ | apply Drawn0.step)⟩
    ·
     rw [if_neg c6] at H
     exact absurd H (by simp)
   ·
    rw [if_neg c5] at H
    exact absurd H (by simp)
def fluxionref01_digit.f (l0:List Int) (a1:Int):Option (Int):=if a1 < (l0.length:Int) then (if 0≤a1 then (some (rd l0 a1)) else (none)) else (some 0)
theorem fluxionref01_digit.calls (A0:Option Addr) (c0:Nat) (l0:List Int) (a1:Int) (r:Int) (w:World) (hr0:Kd.C (Kd.int .i64) w A0 l0.length l0) (hc0:l0.length≤c0) (h:fluxionref01_digit.f l0 a1=some r) :
  Calls Tryz.prog 154 #[.slice A0 l0.length c0,.int .i64 a1] w fun e w'=>e=.returned (.int .i64 r)∧Drawn0 w w':=by
 have HR0:=Aside0.mk hr0
 have HC0:=Aside0.mk hc0
 clear hr0 hc0
 have H:(if a1 < (l0.length:Int) then (if 0≤a1 then (some (rd l0 a1)) else (none)) else (some 0))=some r:=h
 clear h
 by_cases c3:a1 < (l0.length:Int)
 ·
  rw [if_pos c3] at H
  have c3b0:decide (a1 < (l0.length:Int))=true:=decide_eq_true c3
  clear c3
  by_cases c4:0≤a1
  ·
   rw [if_pos c4] at H
   have c4b0:decide (0≤a1)=true:=decide_eq_true c4
   clear c4
   obtain rfl:=Option.some.inj H
   have p103:0≤(a1:Int):=of_decide_eq_true qs
   have q103:a1 < (l0.length:Int):=of_decide_eq_true qs
   obtain⟨ad103,e103,hx103_0⟩:=Kd.at_int HR0.out a1 p103 q103
   cases e103
   replace p103:=eq_true p103
   replace q103:=eq_true q103
   go_enter Tryz.func154,Tryz.ntmps154
   go_wp2
   go_ret
   exact⟨by first | rfl | (simp; done) | (simp [*]; done),by repeat (first | exact Drawn0.refl _ | apply Drawn0.step)⟩
  ·
   rw [if_neg c4] at H
   exact absurd H (by simp)
 ·
  rw [if_neg c3] at H
  have c3b0:decide (a1 < (l0.length:Int))=false:=decide_eq_false c3
  clear c3
  obtain rfl:=Option.some.inj H
  go_enter Tryz.func154,Tryz.ntmps154
  go_wp2
  go_ret
  exact⟨by first | rfl | (simp; done) | (simp [*]; done),by repeat (first | exact Drawn0.refl _ | apply Drawn0.step)⟩
mutual
def fluxionref01_Add.l0:Nat→List Int→List Int→List Int→Int→Int→Option (List Int)
 | 0,_,_,_,_,_=>none
 | k+1,x0,x1,x5,x6,x7=>if x7 < (x0.length:Int) then (fluxionref01_Add.j1 k x0 x1 x5 x6 x7 true) else (if x7 < (x1.length:Int) then (fluxionref01_Add.j1 k x0 x1 x5 x6 x7 true) else (fluxionref01_Add.j1 k x0 x1 x5 x6 x7 (decide (x6 > 0))))
def fluxionref01_Add.j1:Nat→List Int→List Int→List Int→Int→Int→Bool→Option (List Int)
 | 0,_,_,_,_,_,_=>none
 | k+1,x0,x1,x5,x6,x7,x22=>if x22=true then ((fluxionref01_digit.f x0 x7).bind fun t104=>((fluxionref01_digit.f x1 x7).bind fun t105=>(if x5.length < 17592186044416 then (fluxionref01_Add.l0 k x0 x1 (x5++[Int.tmod (wrap64 ((wrap64 (t104+t105))+x6)) 10000]) (wrap64 (Int.tdiv (wrap64 ((wrap64 (t104+t105))+x6)) 10000)) (wrap64 (x7+1))) else (none)))) else (some x5)
end
def fluxionref01_Add.f (k:Nat) (l0:List Int) (l1:List Int):Option (List Int):=fluxionref01_Add.l0 k l0 l1 ([]:List Int) 0 0
theorem fluxionref01_Add.calls (k:Nat) (A0:Option Addr) (c0:Nat) (l0:List Int) (A1:Option Addr) (c1:Nat) (l1:List Int) (r:List Int) (w:World) (hr0:Kd.C (Kd.int .i64) w A0 l0.length l0) (hc0:l0.length≤c0) (hr1:Kd.C (Kd.int .i64) w A1 l1.length l1) (hc1:l1.length≤c1) (h:fluxionref01_Add.f k l0 l1=some r) :
  Calls Tryz.prog 126 #[.slice A0 l0.length c0,.slice A1 l1.length c1] w fun e w'=>∃ v0_:Value,e=.returned (v0_)∧Kd.R (Kd.int .i64) 3 w' w.heap.size (fun _=>True) v0_ r∧Below w.heap.size w w':=by
 have HR0:=Aside0.mk hr0
 have HC0:=Aside0.mk hc0
 clear hr0 hc0
 have HR1:=Aside0.mk hr1
 have HC1:=Aside0.mk hc1
 clear hr1 hc1
 have HB:=Aside0.mk (Below.refl w.heap.size w)
 have H:(fluxionref01_Add.l0 k l0 l1 ([]:List Int) 0 0)=some r:=h
 clear h
 have H':=Aside0.mk H
 clear H
 go_enter Tryz.func126,Tryz.ntmps126
 go_wp2
 go_loopg [5,6,7] k (fun kq v5 v6 v7 w'=>∃ (x5_1:List Int) (x6_1:Int) (x7_1:Int),v6=.int .i64 x6_1∧v7=.int .i64 x7_1∧Aside0 (fluxionref01_Add.l0 kq l0 l1 x5_1 x6_1 x7_1=some r)∧Aside0 (kq≤k)∧Aside0 (Kd.R (Kd.int .i64) 3 w' w.heap.size (fun _=>True) v5 x5_1)∧Aside0 (Below w.heap.size w w'))
 case atStart=>exact⟨(([]:List Int)),(0),(0),(by first | rfl | (simp; done) | (simp [*]; done)),(by first | rfl | (simp; done) | (simp [*]; done)),H',⟨Nat.le_refl _⟩,⟨by first | exact Kd.R_nil _ _ _ _ _ | exact Kd.N_nil _ _ _ _ _ | exact Kd.V_nil _ _ _ _ _ | exact Kd.Q_nil _ _ _ _ _ | exact Kd.S_nil _ _ _ _ _⟩,⟨by repeat (first | (with_reducible first | exact HB.out | apply zbn | apply zbo | apply zbs) | exact HB.out)⟩⟩
 case round =>
  clear H'
  try clear c1
  try clear p2
  obtain⟨x5_1,x6_1,x7_1,rfl,rfl,HA,HK1,HO_5,HB⟩:=hrel
  cases gk with
  | zero=>exact absurd HA.out (by simp [fluxionref01_Add.l0])
  | succ k1 =>
   have H:=HA.out
   clear HA
   simp only [fluxionref01_Add.l0] at H
   have HC3:=Aside0.mk H
   clear H
   go_upto_region 4 with (fail)
   go_cut [22] (fun v22 wc=>∃ (kq:Nat) (x22_2:Bool),v22=.bool x22_2∧Aside0 (fluxionref01_Add.j1 kq l0 l1 x5_1 x6_1 x7_1 x22_2=some r)∧Aside0 (kq≤k1)∧Aside0 (Kd.R (Kd.int .i64) 3 wc w.heap.size (fun _=>True) u5 x5_1)∧Aside0 (Below w.heap.size w wc))
   case first =>
    have H:=HC3.out
    clear HC3
    by_cases c4:x7_1 < (l0.length:Int)
    ·
     rw [if_pos c4] at H
     have c4b0:decide (x7_1 < (l0.length:Int))=true:=decide_eq_true c4
     clear c4
     (first | rw [c4b0] | (simp only [zcb,zcw]; rw [c4b0]) | skip)
     have H':=Aside0.mk H
     clear H
     go_wp2
     go_meet
     case rel=>exact⟨_,(true),(by first | rfl | (simp; done) | (simp [*]; done)),H',⟨by have:=HK1.out; first | omega | exact Nat.le_refl _⟩,⟨by (with_reducible repeat (first | apply Kd.R_alloc | apply Kd.R_drewN | apply Kd.R_drew)); exact HO_5.out⟩,⟨by repeat (first | (with_reducible first | exact HB.out | apply zbn | apply zbo | apply zbs) | exact HB.out)⟩⟩
    ·
     rw [if_neg c4] at H
     have c4b0:decide (x7_1 < (l0.length:Int))=false:=decide_eq_false c4
     clear c4
     (first | rw [c4b0] | (simp only [zcb,zcw]; rw [c4b0]) | skip)
     by_cases c5:x7_1 < (l1.length:Int)
     ·
      rw [if_pos c5] at H
      have c5b0:decide (x7_1 < (l1.length:Int))=true:=decide_eq_true c5
      clear c5
      have H':=Aside0.mk H
      clear H
      go_wp2
      go_meet
      case rel=>exact⟨_,(true),(by first | rfl | (simp; done) | (simp [*]; done)),H',⟨by have:=HK1.out; first | omega | exact Nat.le_refl _⟩,⟨by (with_reducible repeat (first | apply Kd.R_alloc | apply Kd.R_drewN | apply Kd.R_drew)); exact HO_5.out⟩,⟨by repeat (first | (with_reducible first | exact HB.out | apply zbn | apply zbo | apply zbs) | exact HB.out)⟩⟩
     ·
      rw [if_neg c5] at H
      have c5b0:decide (x7_1 < (l1.length:Int))=false:=decide_eq_false c5
      clear c5
      have H':=Aside0.mk H
      clear H
      go_wp2
      go_meet
      case rel=>exact⟨_,(decide (x6_1 > 0)),(by first | rfl | (simp; done) | (simp [*]; done)),H',⟨by have:=HK1.out; first | omega | exact Nat.le_refl _⟩,⟨by (with_reducible repeat (first | apply Kd.R_alloc | apply Kd.R_drewN | apply Kd.R_drew)); exact HO_5.out⟩,⟨by repeat (first | (with_reducible first | exact HB.out | apply zbn | apply zbo | apply zbs) | exact HB.out)⟩⟩
   case rest =>
    clear HC3
    try clear c1
    try clear p2
    try clear c4
    try clear c4b0
    try clear c5
    try clear c5b0
    try clear p2
    obtain⟨kq,x22_2,rfl,HA,HJ2,HO_5,HB⟩:=hcut
    cases kq with
    | zero=>exact absurd HA.out (by simp [fluxionref01_Add.j1])
    | succ kj2 =>
     have H:=HA.out
     clear HA
     simp only [fluxionref01_Add.j1] at H
     by_cases c6:x22_2=true
     ·
      subst c6
      have H1:((fluxionref01_digit.f l0 x7_1).bind fun t104=>((fluxionref01_digit.f l1 x7_1).bind fun t105=>(if x5_1.length < 17592186044416 then (fluxionref01_Add.l0 kj2 l0 l1 (x5_1++[Int.tmod (wrap64 ((wrap64 (t104+t105))+x6_1)) 10000]) (wrap64 (Int.tdiv (wrap64 ((wrap64 (t104+t105))+x6_1)) 10000)) (wrap64 (x7_1+1))) else (none))))=some r:=by rw [if_pos rfl] at H; exact H
      clear H
      have H:=H1
      clear H1
      replace H:=Option.bind_eq_some_iff.mp H
      obtain⟨t104,A70,H⟩:=H
      replace H:((fluxionref01_digit.f l1 x7_1).bind fun t105=>(if x5_1.length < 17592186044416 then (fluxionref01_Add.l0 kj2 l0 l1 (x5_1++[Int.tmod (wrap64 ((wrap64 (t104+t105))+x6_1)) 10000]) (wrap64 (Int.tdiv (wrap64 ((wrap64 (t104+t105))+x6_1)) 10000)) (wrap64 (x7_1+1))) else (none)))=some r:=H
      have A7:=Aside0.mk A70
      clear A70
      replace H:=Option.bind_eq_some_iff.mp H
      obtain⟨t105,A80,H⟩:=H
      replace H:(if x5_1.length < 17592186044416 then (fluxionref01_Add.l0 kj2 l0 l1 (x5_1++[Int.tmod (wrap64 ((wrap64 (t104+t105))+x6_1)) 10000]) (wrap64 (Int.tdiv (wrap64 ((wrap64 (t104+t105))+x6_1)) 10000)) (wrap64 (x7_1+1))) else (none))=some r:=H
      have A8:=Aside0.mk A80
      clear A80
      by_cases c9:x5_1.length < 17592186044416
      ·
       rw [if_pos c9] at H
       have LMc9:=Aside0.mk c9
       clear c9
       obtain⟨y106,hy106⟩:∃ y_:List Int,y_=(x5_1++[Int.tmod (wrap64 ((wrap64 (t104+t105))+x6_1)) 10000]):=⟨_,rfl⟩
       replace H:(fluxionref01_Add.l0 kj2 l0 l1 y106 (wrap64 (Int.tdiv (wrap64 ((wrap64 (t104+t105))+x6_1)) 10000)) (wrap64 (x7_1+1)))=some r:=by first | (rw [hy106]; with_reducible exact H) | (have H2_:=(Option.bind_some _ _).symm.trans H; rw [hy106]; with_reducible exact H2_) | (have H2_:=(Option.bind_some _ _).symm.trans H; with_reducible exact H2_) | with_reducible exact H | (rw [hy106]; exact H) | exact H
       have Ny106:=Aside0.mk hy106
       clear hy106
       have H':=Aside0.mk H
       clear H
       go_wp2_with (first | ((with_reducible refine zbz (f:=154) rfl ?_); refine zbK (some 27) rfl rfl Tryz.func154 (by kernel_rfl) rfl #[.slice A0 l0.length c0,.int .i64 x7_1] rfl (by (try simp only [List.map_toArray,List.map_cons,List.map_nil]); first | done | rfl | (simp only [List.length_drop,List.length_take]; rfl)) ?_; (with_reducible refine(fluxionref01_digit.calls _ _ l0 x7_1 t104 _ ?side1 ?side2 A7.out).mono ?_); (case side1=>exact qc (Kd.C_below HR0.out HB.out)); (case side2=>exact HC0.out); rintro e w' ⟨rfl,⟨nd,rfl⟩⟩; refine⟨_,rfl,?_⟩) | ((with_reducible refine zbz (f:=154) rfl ?_); refine zbK (some 30) rfl rfl Tryz.func154 (by kernel_rfl) rfl #[.slice A1 l1.length c1,.int .i64 x7_1] rfl (by (try simp only [List.map_toArray,List.map_cons,List.map_nil]); first | done | rfl | (simp only [List.length_drop,List.length_take]; rfl)) ?_; (with_reducible refine(fluxionref01_digit.calls _ _ l1 x7_1 t105 _ ?side1 ?side2 A8.out).mono ?_); (case side1=>repeat (first | exact(Kd.C_below HR1.out (qb HB.out)) | (with_reducible refine Kd.C_alloc ?_ _) | (with_reducible refine Kd.C_drewN ?_ _) | (with_reducible refine Kd.C_drew ?_))); (case side2=>exact HC1.out); rintro e w' ⟨rfl,⟨nd,rfl⟩⟩; refine⟨_,rfl,?_⟩) | ((with_reducible refine zbO (b:=.append) (xs:=#[.tmp 34,.tmp 37]) rfl ?_); (try (refine gate_guard (by rfl) ?_; dsimp only)); at_builtin; refine Kd.R_append (Kd.int .i64) (w0:=w) w.heap.size rfl (.tmp 34) (.tmp 37) 38 3 (.int .i64 0) 8 rfl Tryz.underlying38 info3 rfl (by decide) (by omega) u5 x5_1 (Int.tmod (wrap64 ((wrap64 (t104+t105))+x6_1)) 10000) [.int .i64 (Int.tmod (wrap64 ((wrap64 (t104+t105))+x6_1)) 10000)] (fun _=>True) (fun _=>False) rfl rfl ?aP (fun _ hk=>hk.elim) ?aF ?aO ?aB ?aS ?aL ?_; (case aP=>exact rfl); (case aB=>exact(qb HB.out)); (case aF=>exact(fun _ _=>trivial)); (case aO=>exact(qr HO_5.out)); (case aS=>exact(zbp (qb HB.out))); (case aL=>have:=LMc9.out; omega); intro v107 w10 ho hb hg hat; rw [← Ny106.out] at ho; have n0_:=Aside0.mk (hb); have n1_:=Aside0.mk (ho); clear HB; clear HO_5; have HB:=n0_; have HO108:=n1_; clear n0_ n1_; clear ho hb hg hat))
       go_roundg kj2
       case measure=>have:=HK1.out; have:=HJ2.out; omega
       case rel=>exact⟨(y106),(wrap64 (Int.tdiv (wrap64 ((wrap64 (t104+t105))+x6_1)) 10000)),(wrap64 (x7_1+1)),(by first | rfl | (simp; done) | (simp [*]; done)),(by first | rfl | (simp; done) | (simp [*]; done)),H',⟨by have:=HK1.out; have:=HJ2.out; omega⟩,⟨by (with_reducible repeat (first | apply Kd.R_alloc | apply Kd.R_drewN | apply Kd.R_drew)); exact HO108.out⟩,⟨by repeat (first | (with_reducible first | exact HB.out | apply zbn | apply zbo | apply zbs) | exact HB.out)⟩⟩
      ·
       rw [if_neg c9] at H
       exact absurd H (by simp)
     ·
      replace c6:=Bool.eq_false_iff.mpr c6
      subst c6
      have H1:(some x5_1)=some r:=by rw [if_neg (show ¬ (false=true) by decide)] at H; exact H
      clear H
      have H:=H1
      clear H1
      obtain rfl:=Option.some.inj H
      go_wp2
      go_ret
      exact⟨_,by first | rfl | (simp [zbx,zbw]<;>rfl) | (simp [*,zbx,zbw]<;>rfl),by (with_reducible repeat (first | apply Kd.R_alloc | apply Kd.R_drewN | apply Kd.R_drew)); exact HO_5.out,by repeat (first | (with_reducible first | exact HB.out | apply zbn | apply zbo | apply zbs) | exact HB.out)⟩
def fluxionref01_trim.l0:Nat→List Int→Int→Option (List Int)
 | 0,_,_=>none
 | k+1,x0,x3=>if x3 > 0 then (if 0≤(wrap64 (x3-1)) then (if (wrap64 (x3-1)) < (x0.length:Int) then (if (rd x0 (wrap64 (x3-1)))=0 then (fluxionref01_trim.l0 k x0 (wrap64 (x3-1))) else (if 0≤x3 then (if x3≤(x0.length:Int) then (some (x0.take (x3:Int).toNat)) else (none)) else (none))) else (none)) else (none)) else (if 0≤x3 then (if x3≤(x0.length:Int) then (some (x0.take (x3:Int).toNat)) else (none)) else (none))
def fluxionref01_trim.f (k:Nat) (l0:List Int):Option (List Int):=fluxionref01_trim.l0 k l0 (l0.length:Int)
theorem fluxionref01_trim.calls (k:Nat) (P0_:Nat→Prop) (u9000_:Value) (l0:List Int) (r:List Int) (w0 w:World) (hB:Below w0.heap.size w0 w) (ho0:Kd.R (Kd.int .i64) 3 w w0.heap.size P0_ u9000_ l0) (h:fluxionref01_trim.f k l0=some r) :
  Calls Tryz.prog 155 #[u9000_] w fun e w'=>∃ v0_:Value,e=.returned (v0_)∧Kd.R (Kd.int .i64) 3 w' w0.heap.size (fun k_=>(P0_ k_∨w.heap.size≤k_)) v0_ r∧Below w0.heap.size w0 w'∧zcn w w' (fun k_=>P0_ k_):=by
 have HO0:=Aside0.mk (show Kd.R (Kd.int .i64) 3 w w0.heap.size (fun k_=>(P0_ k_∨w.heap.size≤k_)) u9000_ l0 from Kd.R_mono ho0 (fun k_ hk=>(.inl hk)))
 have HK:=Aside0.mk (zcn.refl w (fun k_=>P0_ k_))
 have HW0:=Aside0.mk hB.size
 have HB:=Aside0.mk hB
 clear hB
 have H:(fluxionref01_trim.l0 k l0 (l0.length:Int))=some r:=h
 clear h
 have H':=Aside0.mk H
 clear H
 obtain⟨Ao2,co2,eo2⟩:=Kd.R_slice HO0.out
 subst eo2
 go_enter Tryz.func155,Tryz.ntmps155
 go_wp2
 go_loopg [3] k (fun kq v3 w'=>∃ (x3_1:Int),v3=.int .i64 x3_1∧Aside0 (fluxionref01_trim.l0 kq l0 x3_1=some r)∧Aside0 (kq≤k)∧Aside0 (Kd.R (Kd.int .i64) 3 w' w0.heap.size (fun k_=>(P0_ k_∨w.heap.size≤k_)) (.slice Ao2 l0.length co2) l0)∧Aside0 (zcn w w' (fun k_=>P0_ k_))∧Aside0 (Below w0.heap.size w0 w'))
 case atStart=>exact⟨((l0.length:Int)),(by first | rfl | (simp; done) | (simp [*]; done)),H',⟨Nat.le_refl _⟩,⟨by (with_reducible repeat (first | apply Kd.R_alloc | apply Kd.R_drewN | apply Kd.R_drew)); exact HO0.out⟩,⟨by repeat (first | (with_reducible first | exact HK.out | apply zcn.alloc | apply zcn.drewN | apply zcn.drew) | exact HK.out)⟩,⟨by repeat (first | (with_reducible first | exact HB.out | apply zbn | apply zbo | apply zbs) | exact HB.out)⟩⟩
 case round =>
  clear H'
  try clear c1
  try clear p2
  obtain⟨x3_1,rfl,HA,HK1,HO_0,HK,HB⟩:=hrel
  cases gk with
  | zero=>exact absurd HA.out (by simp [fluxionref01_trim.l0])
  | succ k1 =>
   have H:=HA.out
   clear HA
   simp only [fluxionref01_trim.l0] at H
   by_cases c3:x3_1 > 0
   ·
    rw [if_pos c3] at H
    have c3b0:decide (0 < x3_1)=true:=decide_eq_true c3
    clear c3
    obtain⟨ji4,hji4⟩:∃ j_:Int,(wrap64 (x3_1-1))=j_:=⟨_,rfl⟩
    replace H:(if 0≤(ji4) then (if (ji4) < (l0.length:Int) then (if (rd l0 (ji4))=0 then (fluxionref01_trim.l0 k1 l0 ji4) else (if 0≤x3_1 then (if x3_1≤(l0.length:Int) then (some (l0.take (x3_1:Int).toNat)) else (none)) else (none))) else (none)) else (none))=some r:=by first | (rw [hji4] at H; exact H) | (simp only [hji4] at H ⊢; exact H)
    have hji4w:(IntKind.i64.wrap (x3_1-1))=ji4:=(zcb _).trans hji4
    by_cases c5:0≤(ji4)
    ·
     rw [if_pos c5] at H
     have c5b0:decide (0≤(ji4))=true:=decide_eq_true c5
     clear c5
     by_cases c6:(ji4) < (l0.length:Int)
     ·
      rw [if_pos c6] at H
      have c6b0:decide ((ji4) < (l0.length:Int))=true:=decide_eq_true c6
      clear c6
      by_cases c7:(rd l0 (ji4))=0
      ·
       rw [if_pos c7] at H
       have c7b0:((rd l0 (ji4)) == 0)=true:=beq_iff_eq.mpr c7
       have c7b1:((rd l0 (ji4)) != 0)=false:=bne_eq_false_iff_eq.mpr c7
       clear c7
       have H':=Aside0.mk H
       clear H
       have p109:0≤((ji4):Int):=of_decide_eq_true qs
       have q109:(ji4) < (l0.length:Int):=of_decide_eq_true qs
       obtain⟨ad109,e109,hx109_0⟩:=Kd.at_int (Kd.R_reads' HO_0.out).2.2 (ji4) p109 q109
       cases e109
       replace p109:=eq_true p109
       replace q109:=eq_true q109
       go_wp2
       go_roundg k1
       case measure=>have:=HK1.out; omega
       case rel=>exact⟨(ji4),(by first | rfl | (simp; done) | (simp only [← hji4]<;>(first | rfl | simp)) | (simp [*]; done)),H',⟨by have:=HK1.out; omega⟩,⟨by (with_reducible repeat (first | apply Kd.R_alloc | apply Kd.R_drewN | apply Kd.R_drew)); exact HO_0.out⟩,⟨by repeat (first | (with_reducible first | exact HK.out | apply zcn.alloc | apply zcn.drewN | apply zcn.drew) | exact HK.out)⟩,⟨by repeat (first | (with_reducible first | exact HB.out | apply zbn | apply zbo | apply zbs) | exact HB.out)⟩⟩
      ·
       rw [if_neg c7] at H
       have c7b0:((rd l0 (ji4)) == 0)=false:=beq_eq_false_iff_ne.mpr c7
       have c7b1:((rd l0 (ji4)) != 0)=true:=bne_iff_ne.mpr c7
       by_cases c8:0≤x3_1
       ·
        rw [if_pos c8] at H
        have c8b0:=eq_true c8
        have c8b1:decide (0≤x3_1)=true:=decide_eq_true c8
        clear c8
        by_cases c9:x3_1≤(l0.length:Int)
        ·
         rw [if_pos c9] at H
         have c9b0:=eq_true c9
         have c9b1:decide (x3_1≤(l0.length:Int))=true:=decide_eq_true c9
         clear c9
         obtain⟨y110,hy110⟩:∃ y_:List Int,y_=(l0.take (x3_1:Int).toNat):=⟨_,rfl⟩
         replace H:(some y110)=some r:=by first | (rw [hy110]; with_reducible exact H) | (have H2_:=(Option.bind_some _ _).symm.trans H; rw [hy110]; with_reducible exact H2_) | (have H2_:=(Option.bind_some _ _).symm.trans H; with_reducible exact H2_) | with_reducible exact H | (rw [hy110]; exact H) | exact H
         have Ny110:=Aside0.mk hy110
         clear hy110
         obtain rfl:=Option.some.inj H
         have p109:0≤((ji4):Int):=of_decide_eq_true qs
         have q109:(ji4) < (l0.length:Int):=of_decide_eq_true qs
         obtain⟨ad109,e109,hx109_0⟩:=Kd.at_int (Kd.R_reads' HO_0.out).2.2 (ji4) p109 q109
         cases e109
         replace p109:=eq_true p109
         replace q109:=eq_true q109
         have q10:(x3_1:Int)≤((l0.length:Int):Int):=of_decide_eq_true qs
         obtain⟨i010,hi010,_,hsz10,_⟩:=info_parts info3
         have hcut10:=cut_to (P:=Tryz.prog) 38 3 .i64 Tryz.underlying38 hi010 (some ad109) l0.length co2 x3_1 (of_decide_eq_true qs) q10 (Kd.R_reads' HO_0.out).2.1
         have hr10:=Kd.R_take (m:=(x3_1:Int).toNat) HO_0.out (by omega)
         have hy10:y110.length=(x3_1:Int).toNat:=(by rw [Ny110.out,List.length_take]; omega)
         rw [← Ny110.out] at hr10
         rw [← hy10] at hr10 hcut10
         clear hy10 hi010 hsz10 HO_0
         have HO112:=Aside0.mk hr10
         clear hr10
         replace q10:=eq_true q10
         go_wp2
         go_ret
         exact⟨_,by first | rfl | (simp [zbx,zbw]<;>rfl) | (simp only [← hji4]; first | rfl | (simp [zbx,zbw]<;>rfl)) | (simp [*,zbx,zbw]<;>rfl),by (with_reducible repeat (first | apply Kd.R_alloc | apply Kd.R_drewN | apply Kd.R_drew)); exact HO112.out,by repeat (first | (with_reducible first | exact HB.out | apply zbn | apply zbo | apply zbs) | exact HB.out),by repeat (first | (with_reducible first | exact HK.out | apply zcn.alloc | apply zcn.drewN | apply zcn.drew) | exact HK.out)⟩
        ·
         rw [if_neg c9] at H
         exact absurd H (by simp)
       ·
        rw [if_neg c8] at H
        exact absurd H (by simp)
     ·
      rw [if_neg c6] at H
      exact absurd H (by simp)
    ·
     rw [if_neg c5] at H
     exact absurd H (by simp)
   ·
    rw [if_neg c3] at H
    have c3b0:decide (0 < x3_1)=false:=decide_eq_false c3
    clear c3
    by_cases c11:0≤x3_1
    ·
     rw [if_pos c11] at H
     have c11b0:=eq_true c11
     have c11b1:decide (0≤x3_1)=true:=decide_eq_true c11
     clear c11
     by_cases c12:x3_1≤(l0.length:Int)
     ·
      rw [if_pos c12] at H
      have c12b0:=eq_true c12
      have c12b1:decide (x3_1≤(l0.length:Int))=true:=decide_eq_true c12
      clear c12
      obtain⟨y113,hy113⟩:∃ y_:List Int,y_=(l0.take (x3_1:Int).toNat):=⟨_,rfl⟩
      replace H:(some y113)=some r:=by first | (rw [hy113]; with_reducible exact H) | (have H2_:=(Option.bind_some _ _).symm.trans H; rw [hy113]; with_reducible exact H2_) | (have H2_:=(Option.bind_some _ _).symm.trans H; with_reducible exact H2_) | with_reducible exact H | (rw [hy113]; exact H) | exact H
      have Ny113:=Aside0.mk hy113
      clear hy113
      obtain rfl:=Option.some.inj H
      have q13:(x3_1:Int)≤((l0.length:Int):Int):=of_decide_eq_true qs
      obtain⟨i013,hi013,_,hsz13,_⟩:=info_parts info3
      have hcut13:=cut_to (P:=Tryz.prog) 38 3 .i64 Tryz.underlying38 hi013 Ao2 l0.length co2 x3_1 (of_decide_eq_true qs) q13 (Kd.R_reads' HO_0.out).2.1
      have hr13:=Kd.R_take (m:=(x3_1:Int).toNat) HO_0.out (by omega)
      have hy13:y113.length=(x3_1:Int).toNat:=(by rw [Ny113.out,List.length_take]; omega)
      rw [← Ny113.out] at hr13
      rw [← hy13] at hr13 hcut13
      clear hy13 hi013 hsz13 HO_0
      have HO115:=Aside0.mk hr13
      clear hr13
      replace q13:=eq_true q13
      go_wp2
      go_ret
      exact⟨_,by first | rfl | (simp [zbx,zbw]<;>rfl) | (simp [*,zbx,zbw]<;>rfl),by (with_reducible repeat (first | apply Kd.R_alloc | apply Kd.R_drewN | apply Kd.R_drew)); exact HO115.out,by repeat (first | (with_reducible first | exact HB.out | apply zbn | apply zbo | apply zbs) | exact HB.out),by repeat (first | (with_reducible first | exact HK.out | apply zcn.alloc | apply zcn.drewN | apply zcn.drew) | exact HK.out)⟩
     ·
      rw [if_neg c12] at H
      exact absurd H (by simp)
    ·
     rw [if_neg c11] at H
     exact absurd H (by simp)
def fluxionref01_Times.l0:Nat→List Int→Int→List Int→Int→Int→Option (List Int)
 | 0,_,_,_,_,_=>none
 | k+1,x0,x1,x5,x6,x7=>if x7 < (x0.length:Int) then ((fluxionref01_digit.f x0 x7).bind fun t116=>(if x5.length < 17592186044416 then (fluxionref01_Times.l0 k x0 x1 (x5++[Int.tmod (wrap64 ((wrap64 (t116*x1))+x6)) 10000]) (wrap64 (Int.tdiv (wrap64 ((wrap64 (t116*x1))+x6)) 10000)) (wrap64 (x7+1))) else (none))) else (if x6 > 0 then ((fluxionref01_digit.f x0 x7).bind fun t120=>(if x5.length < 17592186044416 then (fluxionref01_Times.l0 k x0 x1 (x5++[Int.tmod (wrap64 ((wrap64 (t120*x1))+x6)) 10000]) (wrap64 (Int.tdiv (wrap64 ((wrap64 (t120*x1))+x6)) 10000)) (wrap64 (x7+1))) else (none))) else ((fluxionref01_trim.f k x5).bind fun t124=>(some t124)))
def fluxionref01_Times.f (k:Nat) (l0:List Int) (a1:Int):Option (List Int):=fluxionref01_Times.l0 k l0 a1 ([]:List Int) 0 0
theorem fluxionref01_Times.calls (k:Nat) (A0:Option Addr) (c0:Nat) (l0:List Int) (a1:Int) (r:List Int) (w:World) (hr0:Kd.C (Kd.int .i64) w A0 l0.length l0) (hc0:l0.length≤c0) (h:fluxionref01_Times.f k l0 a1=some r) :
  Calls Tryz.prog 127 #[.slice A0 l0.length c0,.int .i64 a1] w fun e w'=>∃ v0_:Value,e=.returned (v0_)∧Kd.R (Kd.int .i64) 3 w' w.heap.size (fun _=>True) v0_ r∧Below w.heap.size w w':=by
 have HR0:=Aside0.mk hr0
 have HC0:=Aside0.mk hc0
 clear hr0 hc0
 have HB:=Aside0.mk (Below.refl w.heap.size w)
 have H:(fluxionref01_Times.l0 k l0 a1 ([]:List Int) 0 0)=some r:=h
 clear h
 have H':=Aside0.mk H
 clear H
 go_enter Tryz.func127,Tryz.ntmps127
 go_wp2
 go_loopg [5,6,7] k (fun kq v5 v6 v7 w'=>∃ (x5_1:List Int) (x6_1:Int) (x7_1:Int),v6=.int .i64 x6_1∧v7=.int .i64 x7_1∧Aside0 (fluxionref01_Times.l0 kq l0 a1 x5_1 x6_1 x7_1=some r)∧Aside0 (kq≤k)∧Aside0 (Kd.R (Kd.int .i64) 3 w' w.heap.size (fun _=>True) v5 x5_1)∧Aside0 (Below w.heap.size w w'))
 case atStart=>exact⟨(([]:List Int)),(0),(0),(by first | rfl | (simp; done) | (simp [*]; done)),(by first | rfl | (simp; done) | (simp [*]; done)),H',⟨Nat.le_refl _⟩,⟨by first | exact Kd.R_nil _ _ _ _ _ | exact Kd.N_nil _ _ _ _ _ | exact Kd.V_nil _ _ _ _ _ | exact Kd.Q_nil _ _ _ _ _ | exact Kd.S_nil _ _ _ _ _⟩,⟨by repeat (first | (with_reducible first | exact HB.out | apply zbn | apply zbo | apply zbs) | exact HB.out)⟩⟩
 case round =>
  clear H'
  try clear c1
  try clear p2
  obtain⟨x5_1,x6_1,x7_1,rfl,rfl,HA,HK1,HO_5,HB⟩:=hrel
  cases gk with
  | zero=>exact absurd HA.out (by simp [fluxionref01_Times.l0])
  | succ k1 =>
   have H:=HA.out
   clear HA
   simp only [fluxionref01_Times.l0] at H
   by_cases c3:x7_1 < (l0.length:Int)
   ·
    rw [if_pos c3] at H
    have c3b0:decide (x7_1 < (l0.length:Int))=true:=decide_eq_true c3
    clear c3
    replace H:=Option.bind_eq_some_iff.mp H
    obtain⟨t116,A40,H⟩:=H
    replace H:(if x5_1.length < 17592186044416 then (fluxionref01_Times.l0 k1 l0 a1 (x5_1++[Int.tmod (wrap64 ((wrap64 (t116*a1))+x6_1)) 10000]) (wrap64 (Int.tdiv (wrap64 ((wrap64 (t116*a1))+x6_1)) 10000)) (wrap64 (x7_1+1))) else (none))=some r:=H
    have A4:=Aside0.mk A40
    clear A40
    by_cases c5:x5_1.length < 17592186044416
    ·
     rw [if_pos c5] at H
     have LMc5:=Aside0.mk c5
     clear c5
     obtain⟨y117,hy117⟩:∃ y_:List Int,y_=(x5_1++[Int.tmod (wrap64 ((wrap64 (t116*a1))+x6_1)) 10000]):=⟨_,rfl⟩
     replace H:(fluxionref01_Times.l0 k1 l0 a1 y117 (wrap64 (Int.tdiv (wrap64 ((wrap64 (t116*a1))+x6_1)) 10000)) (wrap64 (x7_1+1)))=some r:=by first | (rw [hy117]; with_reducible exact H) | (have H2_:=(Option.bind_some _ _).symm.trans H; rw [hy117]; with_reducible exact H2_) | (have H2_:=(Option.bind_some _ _).symm.trans H; with_reducible exact H2_) | with_reducible exact H | (rw [hy117]; exact H) | exact H
     have Ny117:=Aside0.mk hy117
     clear hy117
     have H':=Aside0.mk H
     clear H
     go_wp2_with (first | ((with_reducible refine zbz (f:=154) rfl ?_); refine zbK (some 21) rfl rfl Tryz.func154 (by kernel_rfl) rfl #[.slice A0 l0.length c0,.int .i64 x7_1] rfl (by (try simp only [List.map_toArray,List.map_cons,List.map_nil]); first | done | rfl | (simp only [List.length_drop,List.length_take]; rfl)) ?_; (with_reducible refine(fluxionref01_digit.calls _ _ l0 x7_1 t116 _ ?side1 ?side2 A4.out).mono ?_); (case side1=>exact qc (Kd.C_below HR0.out HB.out)); (case side2=>exact HC0.out); rintro e w' ⟨rfl,⟨nd,rfl⟩⟩; refine⟨_,rfl,?_⟩) | ((with_reducible refine zbO (b:=.append) (xs:=#[.tmp 26,.tmp 29]) rfl ?_); at_builtin; refine Kd.R_append (Kd.int .i64) (w0:=w) w.heap.size rfl (.tmp 26) (.tmp 29) 38 3 (.int .i64 0) 8 rfl Tryz.underlying38 info3 rfl (by decide) (by omega) u5 x5_1 (Int.tmod (wrap64 ((wrap64 (t116*a1))+x6_1)) 10000) [.int .i64 (Int.tmod (wrap64 ((wrap64 (t116*a1))+x6_1)) 10000)] (fun _=>True) (fun _=>False) rfl rfl ?aP (fun _ hk=>hk.elim) ?aF ?aO ?aB ?aS ?aL ?_; (case aP=>exact rfl); (case aB=>exact(qb HB.out)); (case aF=>exact(fun _ _=>trivial)); (case aO=>exact(qr HO_5.out)); (case aS=>exact(zbp (qb HB.out))); (case aL=>have:=LMc5.out; omega); intro v118 w6 ho hb hg hat; rw [← Ny117.out] at ho; have n0_:=Aside0.mk (hb); have n1_:=Aside0.mk (ho); clear HB; clear HO_5; have HB:=n0_; have HO119:=n1_; clear n0_ n1_; clear ho hb hg hat))
     go_roundg k1
     case measure=>have:=HK1.out; omega
     case rel=>exact⟨(y117),(wrap64 (Int.tdiv (wrap64 ((wrap64 (t116*a1))+x6_1)) 10000)),(wrap64 (x7_1+1)),(by first | rfl | (simp; done) | (simp [*]; done)),(by first | rfl | (simp; done) | (simp [*]; done)),H',⟨by have:=HK1.out; omega⟩,⟨by (with_reducible repeat (first | apply Kd.R_alloc | apply Kd.R_drewN | apply Kd.R_drew)); exact HO119.out⟩,⟨by repeat (first | (with_reducible first | exact HB.out | apply zbn | apply zbo | apply zbs) | exact HB.out)⟩⟩
    ·
     rw [if_neg c5] at H
     exact absurd H (by simp)
   ·
    rw [if_neg c3] at H
    have c3b0:decide (x7_1 < (l0.length:Int))=false:=decide_eq_false c3
    clear c3
    by_cases c7:x6_1 > 0
    ·
     rw [if_pos c7] at H
     have c7b0:decide (0 < x6_1)=true:=decide_eq_true c7
     clear c7
     replace H:=Option.bind_eq_some_iff.mp H
     obtain⟨t120,A80,H⟩:=H
     replace H:(if x5_1.length < 17592186044416 then (fluxionref01_Times.l0 k1 l0 a1 (x5_1++[Int.tmod (wrap64 ((wrap64 (t120*a1))+x6_1)) 10000]) (wrap64 (Int.tdiv (wrap64 ((wrap64 (t120*a1))+x6_1)) 10000)) (wrap64 (x7_1+1))) else (none))=some r:=H
     have A8:=Aside0.mk A80
     clear A80
     by_cases c9:x5_1.length < 17592186044416
     ·
      rw [if_pos c9] at H
      have LMc9:=Aside0.mk c9
      clear c9
      obtain⟨y121,hy121⟩:∃ y_:List Int,y_=(x5_1++[Int.tmod (wrap64 ((wrap64 (t120*a1))+x6_1)) 10000]):=⟨_,rfl⟩
      replace H:(fluxionref01_Times.l0 k1 l0 a1 y121 (wrap64 (Int.tdiv (wrap64 ((wrap64 (t120*a1))+x6_1)) 10000)) (wrap64 (x7_1+1)))=some r:=by first | (rw [hy121]; with_reducible exact H) | (have H2_:=(Option.bind_some _ _).symm.trans H; rw [hy121]; with_reducible exact H2_) | (have H2_:=(Option.bind_some _ _).symm.trans H; with_reducible exact H2_) | with_reducible exact H | (rw [hy121]; exact H) | exact H
      have Ny121:=Aside0.mk hy121
      clear hy121
      have H':=Aside0.mk H
      clear H
      go_wp2_with (first | ((with_reducible refine zbz (f:=154) rfl ?_); refine zbK (some 21) rfl rfl Tryz.func154 (by kernel_rfl) rfl #[.slice A0 l0.length c0,.int .i64 x7_1] rfl (by (try simp only [List.map_toArray,List.map_cons,List.map_nil]); first | done | rfl | (simp only [List.length_drop,List.length_take]; rfl)) ?_; (with_reducible refine(fluxionref01_digit.calls _ _ l0 x7_1 t120 _ ?side1 ?side2 A8.out).mono ?_); (case side1=>exact qc (Kd.C_below HR0.out HB.out)); (case side2=>exact HC0.out); rintro e w' ⟨rfl,⟨nd,rfl⟩⟩; refine⟨_,rfl,?_⟩) | ((with_reducible refine zbO (b:=.append) (xs:=#[.tmp 26,.tmp 29]) rfl ?_); at_builtin; refine Kd.R_append (Kd.int .i64) (w0:=w) w.heap.size rfl (.tmp 26) (.tmp 29) 38 3 (.int .i64 0) 8 rfl Tryz.underlying38 info3 rfl (by decide) (by omega) u5 x5_1 (Int.tmod (wrap64 ((wrap64 (t120*a1))+x6_1)) 10000) [.int .i64 (Int.tmod (wrap64 ((wrap64 (t120*a1))+x6_1)) 10000)] (fun _=>True) (fun _=>False) rfl rfl ?aP (fun _ hk=>hk.elim) ?aF ?aO ?aB ?aS ?aL ?_; (case aP=>exact rfl); (case aB=>exact(qb HB.out)); (case aF=>exact(fun _ _=>trivial)); (case aO=>exact(qr HO_5.out)); (case aS=>exact(zbp (qb HB.out))); (case aL=>have:=LMc9.out; omega); intro v122 w10 ho hb hg hat; rw [← Ny121.out] at ho; have n0_:=Aside0.mk (hb); have n1_:=Aside0.mk (ho); clear HB; clear HO_5; have HB:=n0_; have HO123:=n1_; clear n0_ n1_; clear ho hb hg hat))
      go_roundg k1
      case measure=>have:=HK1.out; omega
      case rel=>exact⟨(y121),(wrap64 (Int.tdiv (wrap64 ((wrap64 (t120*a1))+x6_1)) 10000)),(wrap64 (x7_1+1)),(by first | rfl | (simp; done) | (simp [*]; done)),(by first | rfl | (simp; done) | (simp [*]; done)),H',⟨by have:=HK1.out; omega⟩,⟨by (with_reducible repeat (first | apply Kd.R_alloc | apply Kd.R_drewN | apply Kd.R_drew)); exact HO123.out⟩,⟨by repeat (first | (with_reducible first | exact HB.out | apply zbn | apply zbo | apply zbs) | exact HB.out)⟩⟩
     ·
      rw [if_neg c9] at H
      exact absurd H (by simp)
    ·
     rw [if_neg c7] at H
     have c7b0:decide (0 < x6_1)=false:=decide_eq_false c7
     clear c7
     replace H:=Option.bind_eq_some_iff.mp H
     obtain⟨t124,A110,H⟩:=H
     replace H:(some t124)=some r:=H
     have A11:=Aside0.mk A110
     clear A110
     obtain rfl:=Option.some.inj H
     obtain⟨Ao12,co12,eo12⟩:=Kd.R_slice HO_5.out
     subst eo12
     go_wp2_with (first | ((with_reducible refine zbz (f:=155) rfl ?_); refine zbK (some 34) rfl rfl Tryz.func155 (by kernel_rfl) rfl #[.slice Ao12 x5_1.length co12] rfl (by (try simp only [List.map_toArray,List.map_cons,List.map_nil]); first | done | rfl | (simp only [List.length_drop,List.length_take]; rfl)) ?_; (with_reducible refine(fluxionref01_trim.calls k1 (fun k_=>some k_=(.slice Ao12 x5_1.length co12:Value).ownBlock) (.slice Ao12 x5_1.length co12) x5_1 t124 w _ ?side1 ?side2 A11.out).mono ?_); (case side1=>repeat (first | (with_reducible first | exact HB.out | apply zbn | apply zbo | apply zbs) | exact HB.out)); (case side2=>exact Kd.R_tight rfl HO_5.out); rintro e w13 ⟨v125,rfl,ho0,hb,hkp⟩; refine⟨_,rfl,?_⟩; have n0_:=Aside0.mk (Kd.R_mono (ok':=fun k_=>True) ho0 (fun k_ hk_=>trivial)); have n1_:=Aside0.mk (hb); clear HB; clear HO_5; have HO126:=n0_; have HB:=n1_; clear n0_ n1_; (try clear hb); (try clear hkp); (try clear ho0)))
     go_ret
     exact⟨_,by first | rfl | (simp [zbx,zbw]<;>rfl) | (simp [*,zbx,zbw]<;>rfl),by (with_reducible repeat (first | apply Kd.R_alloc | apply Kd.R_drewN | apply Kd.R_drew)); exact HO126.out,by repeat (first | (with_reducible first | exact HB.out | apply zbn | apply zbo | apply zbs) | exact HB.out)⟩
def fluxionref01_Small.l0:Nat→Int→List Int→Option (List Int)
 | 0,_,_=>none
 | k+1,x0,x3=>if x0 > 0 then (if x3.length < 17592186044416 then (fluxionref01_Small.l0 k (wrap64 (Int.tdiv x0 10000)) (x3++[Int.tmod x0 10000])) else (none)) else (some x3)
def fluxionref01_Small.f (k:Nat) (a0:Int):Option (List Int):=fluxionref01_Small.l0 k a0 ([]:List Int)
theorem fluxionref01_Small.calls (k:Nat) (a0:Int) (r:List Int) (w:World) (h:fluxionref01_Small.f k a0=some r) :
  Calls Tryz.prog 128 #[.int .i64 a0] w fun e w'=>∃ v0_:Value,e=.returned (v0_)∧Kd.R (Kd.int .i64) 3 w' w.heap.size (fun _=>True) v0_ r∧Below w.heap.size w w':=by
 have HB:=Aside0.mk (Below.refl w.heap.size w)
 have H:(fluxionref01_Small.l0 k a0 ([]:List Int))=some r:=h
 clear h
 have H':=Aside0.mk H
 clear H
 go_enter Tryz.func128,Tryz.ntmps128
 go_wp2
 go_loopg [0,3] k (fun kq v0 v3 w'=>∃ (x0_1:Int) (x3_1:List Int),v0=.int .i64 x0_1∧Aside0 (fluxionref01_Small.l0 kq x0_1 x3_1=some r)∧Aside0 (kq≤k)∧Aside0 (Kd.R (Kd.int .i64) 3 w' w.heap.size (fun _=>True) v3 x3_1)∧Aside0 (Below w.heap.size w w'))
 case atStart=>exact⟨(a0),(([]:List Int)),(by first | rfl | (simp; done) | (simp [*]; done)),H',⟨Nat.le_refl _⟩,⟨by first | exact Kd.R_nil _ _ _ _ _ | exact Kd.N_nil _ _ _ _ _ | exact Kd.V_nil _ _ _ _ _ | exact Kd.Q_nil _ _ _ _ _ | exact Kd.S_nil _ _ _ _ _⟩,⟨by repeat (first | (with_reducible first | exact HB.out | apply zbn | apply zbo | apply zbs) | exact HB.out)⟩⟩
 case round =>
  clear H'
  try clear c1
  obtain⟨x0_1,x3_1,rfl,HA,HK1,HO_3,HB⟩:=hrel
  cases gk with
  | zero=>exact absurd HA.out (by simp [fluxionref01_Small.l0])
  | succ k1 =>
   have H:=HA.out
   clear HA
   simp only [fluxionref01_Small.l0] at H
   by_cases c2:x0_1 > 0
   ·
    rw [if_pos c2] at H
    have c2b0:decide (0 < x0_1)=true:=decide_eq_true c2
    clear c2
    by_cases c3:x3_1.length < 17592186044416
    ·
     rw [if_pos c3] at H
     have LMc3:=Aside0.mk c3
     clear c3
     obtain⟨y127,hy127⟩:∃ y_:List Int,y_=(x3_1++[Int.tmod x0_1 10000]):=⟨_,rfl⟩
     replace H:(fluxionref01_Small.l0 k1 (wrap64 (Int.tdiv x0_1 10000)) y127)=some r:=by first | (rw [hy127]; with_reducible exact H) | (have H2_:=(Option.bind_some _ _).symm.trans H; rw [hy127]; with_reducible exact H2_) | (have H2_:=(Option.bind_some _ _).symm.trans H; with_reducible exact H2_) | with_reducible exact H | (rw [hy127]; exact H) | exact H
     have Ny127:=Aside0.mk hy127
     clear hy127
     have H':=Aside0.mk H
     clear H
     go_wp2_with (first | ((with_reducible refine zbO (b:=.append) (xs:=#[.tmp 6,.tmp 9]) rfl ?_); at_builtin; refine Kd.R_append (Kd.int .i64) (w0:=w) w.heap.size rfl (.tmp 6) (.tmp 9) 38 3 (.int .i64 0) 8 rfl Tryz.underlying38 info3 rfl (by decide) (by omega) u3 x3_1 (Int.tmod x0_1 10000) [.int .i64 (Int.tmod x0_1 10000)] (fun _=>True) (fun _=>False) rfl rfl ?aP (fun _ hk=>hk.elim) ?aF ?aO ?aB ?aS ?aL ?_; (case aP=>exact rfl); (case aB=>exact(qb HB.out)); (case aF=>exact(fun _ _=>trivial)); (case aO=>exact(qr HO_3.out)); (case aS=>exact(zbp (qb HB.out))); (case aL=>have:=LMc3.out; omega); intro v128 w4 ho hb hg hat; rw [← Ny127.out] at ho; have n0_:=Aside0.mk (hb); have n1_:=Aside0.mk (ho); clear HB; clear HO_3; have HB:=n0_; have HO129:=n1_; clear n0_ n1_; clear ho hb hg hat))
     go_roundg k1
     case measure=>have:=HK1.out; omega
     case rel=>exact⟨(wrap64 (Int.tdiv x0_1 10000)),(y127),(by first | rfl | (simp; done) | (simp [*]; done)),H',⟨by have:=HK1.out; omega⟩,⟨by (with_reducible repeat (first | apply Kd.R_alloc | apply Kd.R_drewN | apply Kd.R_drew)); exact HO129.out⟩,⟨by repeat (first | (with_reducible first | exact HB.out | apply zbn | apply zbo | apply zbs) | exact HB.out)⟩⟩
    ·
     rw [if_neg c3] at H
     exact absurd H (by simp)
   ·
    rw [if_neg c2] at H
    have c2b0:decide (0 < x0_1)=false:=decide_eq_false c2
    clear c2
    obtain rfl:=Option.some.inj H
    go_wp2
    go_ret
    exact⟨_,by first | rfl | (simp [zbx,zbw]<;>rfl) | (simp [*,zbx,zbw]<;>rfl),by (with_reducible repeat (first | apply Kd.R_alloc | apply Kd.R_drewN | apply Kd.R_drew)); exact HO_3.out,by repeat (first | (with_reducible first | exact HB.out | apply zbn | apply zbo | apply zbs) | exact HB.out)⟩
end Go.Proofs.YtehghijlchpeaaaGreat.L
end
section
namespace Go.Proofs.YtehghijlchpeaaaGreat.L
open Go.RowKit YtehghijlchpeaaaGreatW.PrintWords YtehghijlchpeaaaGreatW.PrintLast YtehghijlchpeaaaGreatW.PrintMore
attribute [local go_sem] zbX zbZ zb2 zb1 zbQ zbR zbW zbY   -- for this text's walks alone
def fluxionref01_Of.l0:Nat→List Int→List Int→Int→Option (List Int)
 | 0,_,_,_=>none
 | k+1,x0,x3,x4=>if x4 ≥ 0 then ((fluxionref01_Times.f k x3 65536).bind fun t130=>((fluxionref01_Times.f k t130 65536).bind fun t133=>(if 0≤x4 then (if x4 < (x0.length:Int) then ((fluxionref01_Small.f k (wrap64 (rd x0 x4))).bind fun t137=>((fluxionref01_Add.f k t133 t137).bind fun t140=>(fluxionref01_Of.l0 k x0 t140 (wrap64 (x4-1))))) else (none)) else (none)))) else (some x3)
def fluxionref01_Of.f (k:Nat) (l0:List Int):Option (List Int):=fluxionref01_Of.l0 k l0 ([]:List Int) (wrap64 ((l0.length:Int)-1))
def fluxionref01_Of.T5:Bool×List (List Nat×List Nat):=(true,[([],[]),([0],[0]),([1,1],[1]),([],[]),([],[]),([3,4],[3,4]),([5],[5]),([6],[6]),([7,2],[7]),([2,8,8],[2,8]),([9,9,0,1,2,3,4,5,6,7,8,9],[0,9])])
def fluxionref01_Of.B5:List Nat:=[0,1,3,0,0,24,56,120,255,511,1023]
theorem fluxionref01_Of.tab5:rtab .any (opsOf Tryz.f77 5)=fluxionref01_Of.T5:=by kernel_rfl
theorem fluxionref01_Of.bits5:zct fluxionref01_Of.T5.2 fluxionref01_Of.B5=true:=by kernel_rfl
theorem fluxionref01_Of.calls (k:Nat) (A0:Option Addr) (c0:Nat) (l0:List Int) (r:List Int) (w:World) (hr0:Kd.C (Kd.int .u32) w A0 l0.length l0) (hc0:l0.length≤c0) (h:fluxionref01_Of.f k l0=some r) :
  Calls Tryz.prog 77 #[.slice A0 l0.length c0] w fun e w'=>∃ v0_:Value,e=.returned (v0_)∧Kd.R (Kd.int .i64) 3 w' w.heap.size (fun _=>True) v0_ r∧Below w.heap.size w w':=by
 have HR0:=Aside0.mk hr0
 have HC0:=Aside0.mk hc0
 clear hr0 hc0
 have HB:=Aside0.mk (Below.refl w.heap.size w)
 have H:(fluxionref01_Of.l0 k l0 ([]:List Int) (wrap64 ((l0.length:Int)-1)))=some r:=h
 clear h
 have H':=Aside0.mk H
 clear H
 go_enter Tryz.func77,Tryz.ntmps77
 go_wp2
 go_loopg [3,4] k (fun kq v3 v4 w'=>∃ (x3_1:List Int) (x4_1:Int),v4=.int .i64 x4_1∧Aside0 (fluxionref01_Of.l0 kq l0 x3_1 x4_1=some r)∧Aside0 (kq≤k)∧Aside0 (Kd.R (Kd.int .i64) 3 w' w.heap.size (fun _=>True) v3 x3_1)∧Aside0 (Below w.heap.size w w'))
 case atStart=>exact⟨(([]:List Int)),(wrap64 ((l0.length:Int)-1)),(by first | rfl | (simp; done) | (simp [*]; done)),H',⟨Nat.le_refl _⟩,⟨by first | exact Kd.R_nil _ _ _ _ _ | exact Kd.N_nil _ _ _ _ _ | exact Kd.V_nil _ _ _ _ _ | exact Kd.Q_nil _ _ _ _ _ | exact Kd.S_nil _ _ _ _ _⟩,⟨by repeat (first | (with_reducible first | exact HB.out | apply zbn | apply zbo | apply zbs) | exact HB.out)⟩⟩
 case round =>
  clear H'
  obtain⟨x3_1,x4_1,rfl,HA,HK1,HO_3,HB⟩:=hrel
  cases gk with
  | zero=>exact absurd HA.out (by simp [fluxionref01_Of.l0])
  | succ k1 =>
   have H:=HA.out
   clear HA
   simp only [fluxionref01_Of.l0] at H
   by_cases c2:x4_1 ≥ 0
   ·
    rw [if_pos c2] at H
    have c2b0:decide (0≤x4_1)=true:=decide_eq_true c2
    clear c2
    replace H:=Option.bind_eq_some_iff.mp H
    obtain⟨t130,A30,H⟩:=H
    replace H:((fluxionref01_Times.f k1 t130 65536).bind fun t133=>(if 0≤x4_1 then (if x4_1 < (l0.length:Int) then ((fluxionref01_Small.f k1 (wrap64 (rd l0 x4_1))).bind fun t137=>((fluxionref01_Add.f k1 t133 t137).bind fun t140=>(fluxionref01_Of.l0 k1 l0 t140 (wrap64 (x4_1-1))))) else (none)) else (none)))=some r:=H
    have A3:=Aside0.mk A30
    clear A30
    replace H:=Option.bind_eq_some_iff.mp H
    obtain⟨t133,A40,H⟩:=H
    replace H:(if 0≤x4_1 then (if x4_1 < (l0.length:Int) then ((fluxionref01_Small.f k1 (wrap64 (rd l0 x4_1))).bind fun t137=>((fluxionref01_Add.f k1 t133 t137).bind fun t140=>(fluxionref01_Of.l0 k1 l0 t140 (wrap64 (x4_1-1))))) else (none)) else (none))=some r:=H
    have A4:=Aside0.mk A40
    clear A40
    by_cases c5:0≤x4_1
    ·
     rw [if_pos c5] at H
     have c5b0:decide (0≤x4_1)=true:=decide_eq_true c5
     clear c5
     by_cases c6:x4_1 < (l0.length:Int)
     ·
      rw [if_pos c6] at H
      have c6b0:decide (x4_1 < (l0.length:Int))=true:=decide_eq_true c6
      clear c6
      replace H:=Option.bind_eq_some_iff.mp H
      obtain⟨t137,A70,H⟩:=H
      replace H:((fluxionref01_Add.f k1 t133 t137).bind fun t140=>(fluxionref01_Of.l0 k1 l0 t140 (wrap64 (x4_1-1))))=some r:=H
      have A7:=Aside0.mk A70
      clear A70
      replace H:=Option.bind_eq_some_iff.mp H
      obtain⟨t140,A80,H⟩:=H
      replace H:(fluxionref01_Of.l0 k1 l0 t140 (wrap64 (x4_1-1)))=some r:=H
      have A8:=Aside0.mk A80
      clear A80
      have H':=Aside0.mk H
      clear H
      try go_wp2
      have n0_:=Aside0.mk (Kd.R_drew HO_3.out)
      have n1_:=Aside0.mk (zbs HB.out)
      clear HO_3
      clear HB
      have HO_3:=n0_
      have HB:=n1_
      clear n0_ n1_
      have p136:0≤(x4_1:Int):=of_decide_eq_true qs
      have q136:x4_1 < (l0.length:Int):=of_decide_eq_true qs
      obtain⟨ad136,e136,hx136_0⟩:=Kd.at_int HR0.out x4_1 p136 q136
      have hw136_0:=hx136_0
      cases e136
      replace hx136_0:=(HB.out.cell (World.block_lt_of_cell? w _ hx136_0)).trans hx136_0
      replace p136:=eq_true p136
      replace q136:=eq_true q136
      obtain⟨Ao10,co10,eo10⟩:=Kd.R_slice HO_3.out
      (first | subst eo10 | (injection eo10 with f1_ f2_ f3_; have f4_:=f1_.symm; have f5_:=f3_.symm; clear f1_ f2_ f3_; subst f4_; subst f5_))
      refine zco (n:=11) (S:=fun w'=>w'.cell? (ad136.add (x4_1).toNat)=some (.int .u32 (rd l0 x4_1))) (ds:=[]) #[zf,zf,zf,zf,zf,zf,zf,zf,zf,zf,zf] (by kernel_rfl) rfl rfl (((HB.out.cell (World.block_lt_of_cell? w _ hw136_0)).trans hw136_0)) (fun hHeld=>?_); refine zcf fluxionref01_Of.tab5 fluxionref01_Of.bits5 (fun HT_ HW_=>?_)
      generalize wr.drew=w9 at HO_3 HB hx136_0 hHeld ⊢
      refine qpT 0 (some 12) ?_
      refine qpT 3 (some 15) ?_
      refine qpT 4 (some 16) ?_
      refine qpT 5 (some 17) ?_
      refine qtT 6 (some 18) ?_
      refine qpT 7 (some 19) ?_
      refine qoT 1 (some 13) (fun K hK=>?_)
      refine goes_ Tryz.func127 (by kernel_rfl) rfl #[.slice Ao10 x3_1.length co10,.int .i64 65536] (by rfl) rfl rfl (by (try simp only [List.map_toArray,List.map_cons,List.map_nil]); first | done | rfl | (simp only [List.length_drop,List.length_take]; rfl)) ?_
      with_reducible refine(fluxionref01_Times.calls k1 _ _ x3_1 65536 t130 _ ?side1 ?side2 A3.out).mono ?_
      (case side1=>exact qc (Kd.R_reads' HO_3.out).2.2)
      (case side2=>exact(Kd.R_reads' HO_3.out).2.1)
      rintro e w11 ⟨v131,rfl,ho0,hb⟩
      refine⟨_,rfl,?_⟩
      have n0_:=Aside0.mk (Kd.R_elder' (qr HO_3.out) (Kd.R_base ho0) hb)
      have n1_:=Aside0.mk (Kd.R_lower (Kd.R_new' ho0 (Kd.R_lt (qr HO_3.out))) (zbp (qb HB.out)))
      have n2_:=Aside0.mk (zbm (qb HB.out) hb)
      clear HO_3
      clear HB
      have HO_3:=n0_
      have HO132:=n1_
      have HB:=n2_
      clear n0_ n1_ n2_
      (try clear hb)
      (try clear hb2)
      (try clear hk)
      (try clear hi)
      (try clear ho0)
      obtain⟨Ao12,co12,eo12⟩:=Kd.R_slice HO132.out
      (first | subst eo12 | (injection eo12 with f1_ f2_ f3_; have f4_:=f1_.symm; have f5_:=f3_.symm; clear f1_ f2_ f3_; subst f4_; subst f5_))
      refine hK.out _ _ (((HB.out.cell (World.block_lt_of_cell? w _ hw136_0)).trans hw136_0)) (fun hHeld=>?_)
      clear hK K
      refine qn ?_
      refine qoT 2 (some 14) (fun K hK=>?_)
      refine goes_ Tryz.func127 (by kernel_rfl) rfl #[.slice Ao12 t130.length co12,.int .i64 65536] (by rfl) rfl rfl (by (try simp only [List.map_toArray,List.map_cons,List.map_nil]); first | done | rfl | (simp only [List.length_drop,List.length_take]; rfl)) ?_
      with_reducible refine(fluxionref01_Times.calls k1 _ _ t130 65536 t133 _ ?side1 ?side2 A4.out).mono ?_
      (case side1=>exact qc (Kd.R_reads' HO132.out).2.2)
      (case side2=>exact(Kd.R_reads' HO132.out).2.1)
      rintro e w13 ⟨v134,rfl,ho0,hb⟩
      refine⟨_,rfl,?_⟩
      have n0_:=Aside0.mk (Kd.R_elder' (qr HO_3.out) (Kd.R_base ho0) hb)
      have n1_:=Aside0.mk (Kd.R_elder' (qr HO132.out) (Kd.R_base ho0) hb)
      have n2_:=Aside0.mk (Kd.R_lower (Kd.R_new' (Kd.R_new' ho0 (Kd.R_lt (qr HO_3.out))) (Kd.R_lt (qr HO132.out))) (zbp (qb HB.out)))
      have n3_:=Aside0.mk (zbm (qb HB.out) hb)
      clear HO_3
      clear HO132
      clear HB
      have HO_3:=n0_
      have HO132:=n1_
      have HO135:=n2_
      have HB:=n3_
      clear n0_ n1_ n2_ n3_
      (try clear hb)
      (try clear hb2)
      (try clear hk)
      (try clear hi)
      (try clear ho0)
      refine hK.out _ _ (((HB.out.cell (World.block_lt_of_cell? w _ hw136_0)).trans hw136_0)) (fun hHeld=>?_)
      clear hK K
      refine qn ?_
      refine qoT 8 (some 20) (fun K hK=>?_)
      refine goes_ Tryz.func128 (by kernel_rfl) rfl #[.int .i64 (wrap64 (rd l0 x4_1))] (by rfl) rfl rfl (by (try simp only [List.map_toArray,List.map_cons,List.map_nil]); first | done | rfl | (simp only [List.length_drop,List.length_take]; rfl)) ?_
      with_reducible refine(fluxionref01_Small.calls k1 (wrap64 (rd l0 x4_1)) t137 _ A7.out).mono ?_
      rintro e w14 ⟨v138,rfl,ho0,hb⟩
      refine⟨_,rfl,?_⟩
      have n0_:=Aside0.mk (Kd.R_elder' (qr HO_3.out) (Kd.R_base ho0) hb)
      have n1_:=Aside0.mk (Kd.R_elder' (qr HO132.out) (Kd.R_base ho0) hb)
      have n2_:=Aside0.mk (Kd.R_elder' (qr HO135.out) (Kd.R_base ho0) hb)
      have n3_:=Aside0.mk (Kd.R_lower (Kd.R_new' (Kd.R_new' (Kd.R_new' ho0 (Kd.R_lt (qr HO_3.out))) (Kd.R_lt (qr HO132.out))) (Kd.R_lt (qr HO135.out))) (zbp (qb HB.out)))
      have n4_:=Aside0.mk (zbm (qb HB.out) hb)
      clear HO_3
      clear HO132
      clear HO135
      clear HB
      have HO_3:=n0_
      have HO132:=n1_
      have HO135:=n2_
      have HO139:=n3_
      have HB:=n4_
      clear n0_ n1_ n2_ n3_ n4_
      (try clear hb)
      (try clear hb2)
      (try clear hk)
      (try clear hi)
      (try clear ho0)
      obtain⟨Ao15,co15,eo15⟩:=Kd.R_slice HO135.out
      (first | subst eo15 | (injection eo15 with f1_ f2_ f3_; have f4_:=f1_.symm; have f5_:=f3_.symm; clear f1_ f2_ f3_; subst f4_; subst f5_))
      obtain⟨Ao16,co16,eo16⟩:=Kd.R_slice HO139.out
      (first | subst eo16 | (injection eo16 with f1_ f2_ f3_; have f4_:=f1_.symm; have f5_:=f3_.symm; clear f1_ f2_ f3_; subst f4_; subst f5_))
      refine hK.out _ _ (((HB.out.cell (World.block_lt_of_cell? w _ hw136_0)).trans hw136_0)) (fun hHeld=>?_)
      clear hK K
      refine qn ?_
      refine qoT 9 (some 21) (fun K hK=>?_)
      refine goes_ Tryz.func126 (by kernel_rfl) rfl #[.slice Ao15 t133.length co15,.slice Ao16 t137.length co16] (by rfl) rfl rfl (by (try simp only [List.map_toArray,List.map_cons,List.map_nil]); first | done | rfl | (simp only [List.length_drop,List.length_take]; rfl)) ?_
      with_reducible refine(fluxionref01_Add.calls k1 _ _ t133 _ _ t137 t140 _ ?side1 ?side2 ?side3 ?side4 A8.out).mono ?_
      (case side1=>exact qc (Kd.R_reads' HO135.out).2.2)
      (case side2=>exact(Kd.R_reads' HO135.out).2.1)
      (case side3=>exact qc (Kd.R_reads' HO139.out).2.2)
      (case side4=>exact(Kd.R_reads' HO139.out).2.1)
      rintro e w17 ⟨v141,rfl,ho0,hb⟩
      refine⟨_,rfl,?_⟩
      have n0_:=Aside0.mk (Kd.R_elder' (qr HO_3.out) (Kd.R_base ho0) hb)
      have n1_:=Aside0.mk (Kd.R_elder' (qr HO132.out) (Kd.R_base ho0) hb)
      have n2_:=Aside0.mk (Kd.R_elder' (qr HO135.out) (Kd.R_base ho0) hb)
      have n3_:=Aside0.mk (Kd.R_elder' (qr HO139.out) (Kd.R_base ho0) hb)
      have n4_:=Aside0.mk (Kd.R_lower (Kd.R_new' (Kd.R_new' (Kd.R_new' (Kd.R_new' ho0 (Kd.R_lt (qr HO_3.out))) (Kd.R_lt (qr HO132.out))) (Kd.R_lt (qr HO135.out))) (Kd.R_lt (qr HO139.out))) (zbp (qb HB.out)))
      have n5_:=Aside0.mk (zbm (qb HB.out) hb)
      clear HO_3
      clear HO132
      clear HO135
      clear HO139
      clear HB
      have HO_3:=n0_
      have HO132:=n1_
      have HO135:=n2_
      have HO139:=n3_
      have HO142:=n4_
      have HB:=n5_
      clear n0_ n1_ n2_ n3_ n4_ n5_
      (try clear hb)
      (try clear hb2)
      (try clear hk)
      (try clear hi)
      (try clear ho0)
      refine hK.out _ _ (((HB.out.cell (World.block_lt_of_cell? w _ hw136_0)).trans hw136_0)) (fun hHeld=>?_)
      clear hK K
      refine qn ?_
      refine qpT 10 (some 3) ?_
      refine done_ (done_of HT_.out (by kernel_rfl)) ?_
      try go_wp2
      go_roundg k1
      case measure=>have:=HK1.out; omega
      case rel=>exact⟨(t140),(wrap64 (x4_1-1)),(by first | rfl | (simp; done) | (simp [*]; done)),H',⟨by have:=HK1.out; omega⟩,⟨by (with_reducible repeat (first | apply Kd.R_alloc | apply Kd.R_drewN | apply Kd.R_drew)); exact Kd.R_mono HO142.out (fun _ hk=>trivial)⟩,⟨by repeat (first | (with_reducible first | exact HB.out | apply zbn | apply zbo | apply zbs) | exact HB.out)⟩⟩
     ·
      rw [if_neg c6] at H
      exact absurd H (by simp)
    ·
     rw [if_neg c5] at H
     exact absurd H (by simp)
   ·
    rw [if_neg c2] at H
    have c2b0:decide (0≤x4_1)=false:=decide_eq_false c2
    clear c2
    obtain rfl:=Option.some.inj H
    go_wp2
    go_ret
    exact⟨_,by first | rfl | (simp [zbx,zbw]<;>rfl) | (simp [*,zbx,zbw]<;>rfl),by (with_reducible repeat (first | apply Kd.R_alloc | apply Kd.R_drewN | apply Kd.R_drew)); exact HO_3.out,by repeat (first | (with_reducible first | exact HB.out | apply zbn | apply zbo | apply zbs) | exact HB.out)⟩
def fluxionref01_Canonical.f (l0:List Int):Option (Bool):=if (l0.length:Int)=0 then (some true) else (if 0≤(wrap64 ((l0.length:Int)-1)) then (if (wrap64 ((l0.length:Int)-1)) < (l0.length:Int) then (some ((rd l0 (wrap64 ((l0.length:Int)-1))) != 0)) else (none)) else (none))
theorem fluxionref01_Canonical.calls (A0:Option Addr) (c0:Nat) (l0:List Int) (r:Bool) (w:World) (hr0:Kd.C (Kd.int .u32) w A0 l0.length l0) (hc0:l0.length≤c0) (h:fluxionref01_Canonical.f l0=some r) :
  Calls Tryz.prog 137 #[.slice A0 l0.length c0] w fun e w'=>e=.returned (.bool r)∧Drawn0 w w':=by
 have HR0:=Aside0.mk hr0
 have HC0:=Aside0.mk hc0
 clear hr0 hc0
 have H:(if (l0.length:Int)=0 then (some true) else (if 0≤(wrap64 ((l0.length:Int)-1)) then (if (wrap64 ((l0.length:Int)-1)) < (l0.length:Int) then (some ((rd l0 (wrap64 ((l0.length:Int)-1))) != 0)) else (none)) else (none)))=some r:=h
 clear h
 by_cases c2:(l0.length:Int)=0
 ·
  rw [if_pos c2] at H
  have c2b0:((l0.length:Int) == 0)=true:=beq_iff_eq.mpr c2
  have c2b1:((l0.length:Int) != 0)=false:=bne_eq_false_iff_eq.mpr c2
  clear c2
  obtain rfl:=Option.some.inj H
  go_enter Tryz.func137,Tryz.ntmps137
  go_wp2
  go_ret
  exact⟨by first | rfl | (simp; done) | (simp [*]; done),by repeat (first | exact Drawn0.refl _ | apply Drawn0.step)⟩
 ·
  rw [if_neg c2] at H
  have c2b0:((l0.length:Int) == 0)=false:=beq_eq_false_iff_ne.mpr c2
  have c2b1:((l0.length:Int) != 0)=true:=bne_iff_ne.mpr c2
  have c2b2:¬ (l0=[]):=fun h_=>c2 (by rw [h_]; rfl)
  obtain⟨ji3,hji3⟩:∃ j_:Int,(wrap64 ((l0.length:Int)-1))=j_:=⟨_,rfl⟩
  replace H:(if 0≤(ji3) then (if (ji3) < (l0.length:Int) then (some ((rd l0 (ji3)) != 0)) else (none)) else (none))=some r:=by first | (rw [hji3] at H; exact H) | (simp only [hji3] at H ⊢; exact H)
  have hji3w:(IntKind.i64.wrap ((l0.length:Int)-1))=ji3:=(zcb _).trans hji3
  by_cases c4:0≤(ji3)
  ·
   rw [if_pos c4] at H
   have c4b0:decide (0≤(ji3))=true:=decide_eq_true c4
   clear c4
   by_cases c5:(ji3) < (l0.length:Int)
   ·
    rw [if_pos c5] at H
    have c5b0:decide ((ji3) < (l0.length:Int))=true:=decide_eq_true c5
    clear c5
    obtain rfl:=Option.some.inj H
    have p143:0≤((ji3):Int):=of_decide_eq_true qs
    have q143:(ji3) < (l0.length:Int):=of_decide_eq_true qs
    obtain⟨ad143,e143,hx143_0⟩:=Kd.at_int HR0.out (ji3) p143 q143
    cases e143
    replace p143:=eq_true p143
    replace q143:=eq_true q143
    go_enter Tryz.func137,Tryz.ntmps137
    go_wp2
    go_ret
    exact⟨by first | rfl | (simp; done) | (simp only [← hji3]<;>(first | rfl | simp)) | (simp [*]; done),by repeat (first | exact Drawn0.refl _ | apply Drawn0.step)⟩
   ·
    rw [if_neg c5] at H
    exact absurd H (by simp)
  ·
   rw [if_neg c4] at H
   exact absurd H (by simp)
def fluxionref01_Cmp.l0:Nat→List Int→List Int→Int→Option (Int)
 | 0,_,_,_=>none
 | k+1,x0,x1,x5=>if x5 ≥ 0 then (if 0≤x5 then (if x5 < (x0.length:Int) then (if x5 < (x1.length:Int) then (if (rd x0 x5) < (rd x1 x5) then (some (-1)) else (if (rd x0 x5) > (rd x1 x5) then (some 1) else (fluxionref01_Cmp.l0 k x0 x1 (wrap64 (x5-1))))) else (none)) else (none)) else (none)) else (some 0)
def fluxionref01_Cmp.f (k:Nat) (l0:List Int) (l1:List Int):Option (Int):=if (l0.length:Int)=(l1.length:Int) then (fluxionref01_Cmp.l0 k l0 l1 (wrap64 ((l0.length:Int)-1))) else (if (l0.length:Int) < (l1.length:Int) then (some (-1)) else (some 1))
theorem fluxionref01_Cmp.calls (k:Nat) (A0:Option Addr) (c0:Nat) (l0:List Int) (A1:Option Addr) (c1:Nat) (l1:List Int) (r:Int) (w:World) (hr0:Kd.C (Kd.int .i64) w A0 l0.length l0) (hc0:l0.length≤c0) (hr1:Kd.C (Kd.int .i64) w A1 l1.length l1) (hc1:l1.length≤c1) (h:fluxionref01_Cmp.f k l0 l1=some r) :
  Calls Tryz.prog 138 #[.slice A0 l0.length c0,.slice A1 l1.length c1] w fun e w'=>e=.returned (.int .i64 r)∧Drawn0 w w':=by
 have HR0:=Aside0.mk hr0
 have HC0:=Aside0.mk hc0
 clear hr0 hc0
 have HR1:=Aside0.mk hr1
 have HC1:=Aside0.mk hc1
 clear hr1 hc1
 have H:(if (l0.length:Int)=(l1.length:Int) then (fluxionref01_Cmp.l0 k l0 l1 (wrap64 ((l0.length:Int)-1))) else (if (l0.length:Int) < (l1.length:Int) then (some (-1)) else (some 1)))=some r:=h
 clear h
 by_cases c3:(l0.length:Int)=(l1.length:Int)
 ·
  rw [if_pos c3] at H
  have c3b0:((l0.length:Int) == (l1.length:Int))=true:=beq_iff_eq.mpr c3
  have c3b1:((l0.length:Int) != (l1.length:Int))=false:=bne_eq_false_iff_eq.mpr c3
  have c3b2:(l0.length == l1.length)=true:=by first | simpa using c3 | (simp at c3 ⊢; omega)
  clear c3
  have H':=Aside0.mk H
  clear H
  go_enter Tryz.func138,Tryz.ntmps138
  go_wp2
  repeat (go_quiet (fail); try go_wp2)
  go_loopg [5] k (fun kq v5 w'=>∃ (x5_1:Int),v5=.int .i64 x5_1∧Aside0 (fluxionref01_Cmp.l0 kq l0 l1 x5_1=some r)∧Aside0 (kq≤k)∧Drawn0 w w')
  case atStart=>exact⟨(wrap64 ((l0.length:Int)-1)),(by first | rfl | (simp; done) | (simp [*]; done)),H',⟨Nat.le_refl _⟩,by repeat (first | exact Drawn0.refl _ | apply Drawn0.step)⟩
  case round =>
   clear H'
   try clear c1
   try clear p2
   try clear c3
   try clear c3b0
   try clear c3b1
   try clear c3b2
   obtain⟨x5_1,rfl,HA,HK1,⟨m1,rfl⟩⟩:=hrel
   cases gk with
   | zero=>exact absurd HA.out (by simp [fluxionref01_Cmp.l0])
   | succ k1 =>
    have H:=HA.out
    clear HA
    simp only [fluxionref01_Cmp.l0] at H
    by_cases c4:x5_1 ≥ 0
    ·
     rw [if_pos c4] at H
     have c4b0:decide (0≤x5_1)=true:=decide_eq_true c4
     clear c4
     by_cases c5:0≤x5_1
     ·
      rw [if_pos c5] at H
      have c5b0:decide (0≤x5_1)=true:=decide_eq_true c5
      clear c5
      by_cases c6:x5_1 < (l0.length:Int)
      ·
       rw [if_pos c6] at H
       have c6b0:decide (x5_1 < (l0.length:Int))=true:=decide_eq_true c6
       clear c6
       by_cases c7:x5_1 < (l1.length:Int)
       ·
        rw [if_pos c7] at H
        have c7b0:decide (x5_1 < (l1.length:Int))=true:=decide_eq_true c7
        clear c7
        by_cases c8:(rd l0 x5_1) < (rd l1 x5_1)
        ·
         rw [if_pos c8] at H
         have c8b0:decide ((rd l0 x5_1) < (rd l1 x5_1))=true:=decide_eq_true c8
         clear c8
         obtain rfl:=Option.some.inj H
         have p144:0≤(x5_1:Int):=of_decide_eq_true qs
         have q144:x5_1 < (l0.length:Int):=of_decide_eq_true qs
         obtain⟨ad144,e144,hx144_0⟩:=Kd.at_int HR0.out x5_1 p144 q144
         cases e144
         replace p144:=eq_true p144
         replace q144:=eq_true q144
         have p145:0≤(x5_1:Int):=of_decide_eq_true qs
         have q145:x5_1 < (l1.length:Int):=of_decide_eq_true qs
         obtain⟨ad145,e145,hx145_0⟩:=Kd.at_int HR1.out x5_1 p145 q145
         cases e145
         replace p145:=eq_true p145
         replace q145:=eq_true q145
         go_wp2
         repeat (go_quiet (fail); try go_wp2)
         go_ret
         exact⟨by first | rfl | (simp; done) | (simp [*]; done),by repeat (first | exact Drawn0.refl _ | apply Drawn0.step)⟩
        ·
         rw [if_neg c8] at H
         have c8b0:decide ((rd l0 x5_1) < (rd l1 x5_1))=false:=decide_eq_false c8
         clear c8
         by_cases c9:(rd l0 x5_1) > (rd l1 x5_1)
         ·
          rw [if_pos c9] at H
          have c9b0:decide ((rd l1 x5_1) < (rd l0 x5_1))=true:=decide_eq_true c9
          clear c9
          obtain rfl:=Option.some.inj H
          have p144:0≤(x5_1:Int):=of_decide_eq_true qs
          have q144:x5_1 < (l0.length:Int):=of_decide_eq_true qs
          obtain⟨ad144,e144,hx144_0⟩:=Kd.at_int HR0.out x5_1 p144 q144
          cases e144
          replace p144:=eq_true p144
          replace q144:=eq_true q144
          have p145:0≤(x5_1:Int):=of_decide_eq_true qs
          have q145:x5_1 < (l1.length:Int):=of_decide_eq_true qs
          obtain⟨ad145,e145,hx145_0⟩:=Kd.at_int HR1.out x5_1 p145 q145
          cases e145
          replace p145:=eq_true p145
          replace q145:=eq_true q145
          have p146:0≤(x5_1:Int):=of_decide_eq_true qs
          have q146:x5_1 < (l0.length:Int):=of_decide_eq_true qs
          obtain⟨ad146,e146,hx146_0⟩:=Kd.at_int HR0.out x5_1 p146 q146
          obtain rfl:ad144=ad146:=(by injection e146)
          replace p146:=eq_true p146
          replace q146:=eq_true q146
          have p147:0≤(x5_1:Int):=of_decide_eq_true qs
          have q147:x5_1 < (l1.length:Int):=of_decide_eq_true qs
          obtain⟨ad147,e147,hx147_0⟩:=Kd.at_int HR1.out x5_1 p147 q147
          obtain rfl:ad145=ad147:=(by injection e147)
          replace p147:=eq_true p147
          replace q147:=eq_true q147
          go_wp2
          repeat (go_quiet (fail); try go_wp2)
          go_ret
          exact⟨by first | rfl | (simp; done) | (simp [*]; done),by repeat (first | exact Drawn0.refl _ | apply Drawn0.step)⟩
         ·
          rw [if_neg c9] at H
          have c9b0:decide ((rd l1 x5_1) < (rd l0 x5_1))=false:=decide_eq_false c9
          clear c9
          have H':=Aside0.mk H
          clear H
          have p144:0≤(x5_1:Int):=of_decide_eq_true qs
          have q144:x5_1 < (l0.length:Int):=of_decide_eq_true qs
          obtain⟨ad144,e144,hx144_0⟩:=Kd.at_int HR0.out x5_1 p144 q144
          cases e144
          replace p144:=eq_true p144
          replace q144:=eq_true q144
          have p145:0≤(x5_1:Int):=of_decide_eq_true qs
          have q145:x5_1 < (l1.length:Int):=of_decide_eq_true qs
          obtain⟨ad145,e145,hx145_0⟩:=Kd.at_int HR1.out x5_1 p145 q145
          cases e145
          replace p145:=eq_true p145
          replace q145:=eq_true q145
          have p146:0≤(x5_1:Int):=of_decide_eq_true qs
          have q146:x5_1 < (l0.length:Int):=of_decide_eq_true qs
          obtain⟨ad146,e146,hx146_0⟩:=Kd.at_int HR0.out x5_1 p146 q146
          obtain rfl:ad144=ad146:=(by injection e146)
          replace p146:=eq_true p146
          replace q146:=eq_true q146
          have p147:0≤(x5_1:Int):=of_decide_eq_true qs
          have q147:x5_1 < (l1.length:Int):=of_decide_eq_true qs
          obtain⟨ad147,e147,hx147_0⟩:=Kd.at_int HR1.out x5_1 p147 q147
          obtain rfl:ad145=ad147:=(by injection e147)
          replace p147:=eq_true p147
          replace q147:=eq_true q147
          go_wp2
          repeat (go_quiet (fail); try go_wp2)
          go_roundg k1
          case measure=>have:=HK1.out; omega
          case rel=>exact⟨(wrap64 (x5_1-1)),(by first | rfl | (simp; done) | (simp [*]; done)),H',⟨by have:=HK1.out; omega⟩,by repeat (first | exact Drawn0.refl _ | apply Drawn0.step)⟩
       ·
        rw [if_neg c7] at H
        exact absurd H (by simp)
      ·
       rw [if_neg c6] at H
       exact absurd H (by simp)
     ·
      rw [if_neg c5] at H
      exact absurd H (by simp)
    ·
     rw [if_neg c4] at H
     have c4b0:decide (0≤x5_1)=false:=decide_eq_false c4
     clear c4
     obtain rfl:=Option.some.inj H
     go_wp2
     repeat (go_quiet (fail); try go_wp2)
     go_ret
     exact⟨by first | rfl | (simp; done) | (simp [*]; done),by repeat (first | exact Drawn0.refl _ | apply Drawn0.step)⟩
 ·
  rw [if_neg c3] at H
  have c3b0:((l0.length:Int) == (l1.length:Int))=false:=beq_eq_false_iff_ne.mpr c3
  have c3b1:((l0.length:Int) != (l1.length:Int))=true:=bne_iff_ne.mpr c3
  have c3b2:(l0.length == l1.length)=false:=by first | simpa using c3 | (simp at c3 ⊢; omega)
  by_cases c10:(l0.length:Int) < (l1.length:Int)
  ·
   rw [if_pos c10] at H
   have c10b0:decide ((l0.length:Int) < (l1.length:Int))=true:=decide_eq_true c10
   have c10b1:decide (l0.length < l1.length)=true:=decide_eq_true (Int.ofNat_lt.mp c10)
   clear c10
   obtain rfl:=Option.some.inj H
   go_enter Tryz.func138,Tryz.ntmps138
   go_wp2
   repeat (go_quiet (fail); try go_wp2)
   go_ret
   exact⟨by first | rfl | (simp; done) | (simp [*]; done),by repeat (first | exact Drawn0.refl _ | apply Drawn0.step)⟩
  ·
   rw [if_neg c10] at H
   have c10b0:decide ((l0.length:Int) < (l1.length:Int))=false:=decide_eq_false c10
   have c10b1:decide (l0.length < l1.length)=false:=decide_eq_false (fun h=>c10 (Int.ofNat_lt.mpr h))
   clear c10
   obtain rfl:=Option.some.inj H
   go_enter Tryz.func138,Tryz.ntmps138
   go_wp2
   repeat (go_quiet (fail); try go_wp2)
   go_ret
   exact⟨by first | rfl | (simp; done) | (simp [*]; done),by repeat (first | exact Drawn0.refl _ | apply Drawn0.step)⟩
def fluxionref01_Is.f (k:Nat) (l0:List Int) (l1:List Int):Option (Bool):=(fluxionref01_Canonical.f l1).bind fun t148=>(if t148=true then ((fluxionref01_Of.f k l1).bind fun t149=>((fluxionref01_Cmp.f k t149 l0).bind fun t152=>(some (t152 == 0)))) else (some false))
theorem fluxionref01_Is.calls (k:Nat) (A0:Option Addr) (c0:Nat) (l0:List Int) (A1:Option Addr) (c1:Nat) (l1:List Int) (r:Bool) (w:World) (hr0:Kd.C (Kd.int .i64) w A0 l0.length l0) (hc0:l0.length≤c0) (hr1:Kd.C (Kd.int .u32) w A1 l1.length l1) (hc1:l1.length≤c1) (h:fluxionref01_Is.f k l0 l1=some r) :
  Calls Tryz.prog 91 #[.slice A0 l0.length c0,.slice A1 l1.length c1] w fun e w'=>e=.returned (.bool r)∧Below w.heap.size w w':=by
 have HR0:=Aside0.mk hr0
 have HC0:=Aside0.mk hc0
 clear hr0 hc0
 have HR1:=Aside0.mk hr1
 have HC1:=Aside0.mk hc1
 clear hr1 hc1
 have HB:=Aside0.mk (Below.refl w.heap.size w)
 have H:((fluxionref01_Canonical.f l1).bind fun t148=>(if t148=true then ((fluxionref01_Of.f k l1).bind fun t149=>((fluxionref01_Cmp.f k t149 l0).bind fun t152=>(some (t152 == 0)))) else (some false)))=some r:=h
 clear h
 replace H:=Option.bind_eq_some_iff.mp H
 obtain⟨t148,A30,H⟩:=H
 replace H:(if t148=true then ((fluxionref01_Of.f k l1).bind fun t149=>((fluxionref01_Cmp.f k t149 l0).bind fun t152=>(some (t152 == 0)))) else (some false))=some r:=H
 have A3:=Aside0.mk A30
 clear A30
 by_cases c4:t148=true
 ·
  subst c4
  have H1:((fluxionref01_Of.f k l1).bind fun t149=>((fluxionref01_Cmp.f k t149 l0).bind fun t152=>(some (t152 == 0))))=some r:=by rw [if_pos rfl] at H; exact H
  clear H
  have H:=H1
  clear H1
  replace H:=Option.bind_eq_some_iff.mp H
  obtain⟨t149,A50,H⟩:=H
  replace H:((fluxionref01_Cmp.f k t149 l0).bind fun t152=>(some (t152 == 0)))=some r:=H
  have A5:=Aside0.mk A50
  clear A50
  replace H:=Option.bind_eq_some_iff.mp H
  obtain⟨t152,A60,H⟩:=H
  replace H:(some (t152 == 0))=some r:=H
  have A6:=Aside0.mk A60
  clear A60
  obtain rfl:=Option.some.inj H
  go_enter Tryz.func91,Tryz.ntmps91
  go_wp2_with (first | ((with_reducible refine zbz (f:=137) rfl ?_); refine zbK (some 6) rfl rfl Tryz.func137 (by kernel_rfl) rfl #[.slice A1 l1.length c1] rfl (by (try simp only [List.map_toArray,List.map_cons,List.map_nil]); first | done | rfl | (simp only [List.length_drop,List.length_take]; rfl)) ?_; (with_reducible refine(fluxionref01_Canonical.calls _ _ l1 true _ ?side1 ?side2 A3.out).mono ?_); (case side1=>exact qc HR1.out); (case side2=>exact HC1.out); rintro e w' ⟨rfl,⟨nd,rfl⟩⟩; refine⟨_,rfl,?_⟩) | (go_at_call 77; (with_reducible refine(fluxionref01_Of.calls k _ _ l1 t149 _ ?side1 ?side2 A5.out).mono ?_); (case side1=>exact qc HR1.out); (case side2=>exact HC1.out); rintro e w7 ⟨v150,rfl,ho0,hb⟩; have n0_:=Aside0.mk (Kd.R_lower ho0 (zbp (qb HB.out))); have n1_:=Aside0.mk (zbm (qb HB.out) hb); clear HB; have HO151:=n0_; have HB:=n1_; clear n0_ n1_; (try clear hb); (try clear hb2); (try clear hk); (try clear hi); (try clear ho0); obtain⟨Ao8,co8,eo8⟩:=Kd.R_slice HO151.out; subst eo8) | (go_at_call 138; (with_reducible refine(fluxionref01_Cmp.calls k _ _ t149 _ _ l0 t152 _ ?side1 ?side2 ?side3 ?side4 A6.out).mono ?_); (case side1=>exact qc (Kd.R_reads' HO151.out).2.2); (case side2=>exact(Kd.R_reads' HO151.out).2.1); (case side3=>exact qc (Kd.C_below HR0.out HB.out)); (case side4=>exact HC0.out); rintro e w' ⟨rfl,⟨nd,rfl⟩⟩))
  go_ret
  exact⟨by first | rfl | (simp [zbx,zbw]<;>rfl) | (simp [*,zbx,zbw]<;>rfl),by repeat (first | (with_reducible first | exact HB.out | apply zbn | apply zbo | apply zbs) | exact HB.out)⟩
 ·
  replace c4:=Bool.eq_false_iff.mpr c4
  subst c4
  have H1:(some false)=some r:=by rw [if_neg (show ¬ (false=true) by decide)] at H; exact H
  clear H
  have H:=H1
  clear H1
  obtain rfl:=Option.some.inj H
  go_enter Tryz.func91,Tryz.ntmps91
  go_wp2_with (first | ((with_reducible refine zbz (f:=137) rfl ?_); refine zbK (some 6) rfl rfl Tryz.func137 (by kernel_rfl) rfl #[.slice A1 l1.length c1] rfl (by (try simp only [List.map_toArray,List.map_cons,List.map_nil]); first | done | rfl | (simp only [List.length_drop,List.length_take]; rfl)) ?_; (with_reducible refine(fluxionref01_Canonical.calls _ _ l1 false _ ?side1 ?side2 A3.out).mono ?_); (case side1=>exact qc HR1.out); (case side2=>exact HC1.out); rintro e w' ⟨rfl,⟨nd,rfl⟩⟩; refine⟨_,rfl,?_⟩))
  go_ret
  exact⟨by first | rfl | (simp [zbx,zbw]<;>rfl) | (simp [*,zbx,zbw]<;>rfl),by repeat (first | (with_reducible first | exact HB.out | apply zbn | apply zbo | apply zbs) | exact HB.out)⟩
def fluxionref01_Sub.l0:Nat→List Int→List Int→List Int→Int→Int→Option (List Int×Bool)
 | 0,_,_,_,_,_=>none
 | k+1,x0,x1,x6,x7,x8=>if x8 < (x0.length:Int) then (if 0≤x8 then ((fluxionref01_digit.f x1 x8).bind fun t155=>(if (wrap64 ((wrap64 ((rd x0 x8)-t155))-x7)) < 0 then (if x6.length < 17592186044416 then (fluxionref01_Sub.l0 k x0 x1 (x6++[wrap64 ((wrap64 ((wrap64 ((rd x0 x8)-t155))-x7))+10000)]) 1 (wrap64 (x8+1))) else (none)) else (if x6.length < 17592186044416 then (fluxionref01_Sub.l0 k x0 x1 (x6++[wrap64 ((wrap64 ((rd x0 x8)-t155))-x7)]) 0 (wrap64 (x8+1))) else (none)))) else (none)) else ((fluxionref01_trim.f k x6).bind fun t162=>(some (t162,true)))
def fluxionref01_Sub.f (k:Nat) (l0:List Int) (l1:List Int):Option (List Int×Bool):=(fluxionref01_Cmp.f k l0 l1).bind fun t153=>(if t153 < 0 then (some (([]:List Int),false)) else (fluxionref01_Sub.l0 k l0 l1 ([]:List Int) 0 0))
theorem fluxionref01_Sub.calls (k:Nat) (A0:Option Addr) (c0:Nat) (l0:List Int) (A1:Option Addr) (c1:Nat) (l1:List Int) (r1:List Int) (r2:Bool) (w:World) (hr0:Kd.C (Kd.int .i64) w A0 l0.length l0) (hc0:l0.length≤c0) (hr1:Kd.C (Kd.int .i64) w A1 l1.length l1) (hc1:l1.length≤c1) (h:fluxionref01_Sub.f k l0 l1=some (r1,r2)) :
  Calls Tryz.prog 143 #[.slice A0 l0.length c0,.slice A1 l1.length c1] w fun e w'=>∃ v0_:Value,e=.returned (.tuple #[v0_,.bool r2])∧Kd.R (Kd.int .i64) 3 w' w.heap.size (fun _=>True) v0_ r1∧Below w.heap.size w w':=by
 have HR0:=Aside0.mk hr0
 have HC0:=Aside0.mk hc0
 clear hr0 hc0
 have HR1:=Aside0.mk hr1
 have HC1:=Aside0.mk hc1
 clear hr1 hc1
 have HB:=Aside0.mk (Below.refl w.heap.size w)
 have H:((fluxionref01_Cmp.f k l0 l1).bind fun t153=>(if t153 < 0 then (some (([]:List Int),false)) else (fluxionref01_Sub.l0 k l0 l1 ([]:List Int) 0 0)))=some (r1,r2):=h
 clear h
 replace H:=Option.bind_eq_some_iff.mp H
 obtain⟨t153,A30,H⟩:=H
 replace H:(if t153 < 0 then (some (([]:List Int),false)) else (fluxionref01_Sub.l0 k l0 l1 ([]:List Int) 0 0))=some (r1,r2):=H
 have A3:=Aside0.mk A30
 clear A30
 by_cases c4:t153 < 0
 ·
  rw [if_pos c4] at H
  have c4b0:decide (t153 < 0)=true:=decide_eq_true c4
  clear c4
  simp only [Option.some.injEq,Prod.mk.injEq] at H
  obtain⟨rfl,rfl⟩:=H
  go_enter Tryz.func143,Tryz.ntmps143
  go_wp2_with (first | (go_at_call 138; (with_reducible refine(fluxionref01_Cmp.calls k _ _ l0 _ _ l1 t153 _ ?side1 ?side2 ?side3 ?side4 A3.out).mono ?_); (case side1=>exact qc HR0.out); (case side2=>exact HC0.out); (case side3=>exact qc HR1.out); (case side4=>exact HC1.out); rintro e w' ⟨rfl,⟨nd,rfl⟩⟩; (try first | exact⟨rfl,_,World.drewN_drewN _ _ _⟩ | exact⟨rfl,_,Eq.trans (World.drewN_drewN _ _ _) (congrArg (World.drewN _) (Nat.add_assoc _ _ _))⟩)))
  repeat (go_quiet (first | (go_at_call 138; (with_reducible refine(fluxionref01_Cmp.calls k _ _ l0 _ _ l1 t153 _ ?side1 ?side2 ?side3 ?side4 A3.out).mono ?_); (case side1=>exact qc HR0.out); (case side2=>exact HC0.out); (case side3=>exact qc HR1.out); (case side4=>exact HC1.out); rintro e w' ⟨rfl,⟨nd,rfl⟩⟩; (try first | exact⟨rfl,_,World.drewN_drewN _ _ _⟩ | exact⟨rfl,_,Eq.trans (World.drewN_drewN _ _ _) (congrArg (World.drewN _) (Nat.add_assoc _ _ _))⟩))); try go_wp2_with (first | (go_at_call 138; (with_reducible refine(fluxionref01_Cmp.calls k _ _ l0 _ _ l1 t153 _ ?side1 ?side2 ?side3 ?side4 A3.out).mono ?_); (case side1=>exact qc HR0.out); (case side2=>exact HC0.out); (case side3=>exact qc HR1.out); (case side4=>exact HC1.out); rintro e w' ⟨rfl,⟨nd,rfl⟩⟩; (try first | exact⟨rfl,_,World.drewN_drewN _ _ _⟩ | exact⟨rfl,_,Eq.trans (World.drewN_drewN _ _ _) (congrArg (World.drewN _) (Nat.add_assoc _ _ _))⟩))))
  go_ret2
  exact⟨_,by first | rfl | (simp [zbx,zbw]<;>rfl) | (simp [*,zbx,zbw]<;>rfl),by first | exact Kd.R_nil _ _ _ _ _ | exact Kd.N_nil _ _ _ _ _ | exact Kd.V_nil _ _ _ _ _ | exact Kd.Q_nil _ _ _ _ _ | exact Kd.S_nil _ _ _ _ _,by repeat (first | (with_reducible first | exact HB.out | apply zbn | apply zbo | apply zbs) | exact HB.out)⟩
 ·
  rw [if_neg c4] at H
  have c4b0:decide (t153 < 0)=false:=decide_eq_false c4
  clear c4
  have H':=Aside0.mk H
  clear H
  go_enter Tryz.func143,Tryz.ntmps143
  go_wp2_with (first | (go_at_call 138; (with_reducible refine(fluxionref01_Cmp.calls k _ _ l0 _ _ l1 t153 _ ?side1 ?side2 ?side3 ?side4 A3.out).mono ?_); (case side1=>exact qc HR0.out); (case side2=>exact HC0.out); (case side3=>exact qc HR1.out); (case side4=>exact HC1.out); rintro e w' ⟨rfl,⟨nd,rfl⟩⟩; (try first | exact⟨rfl,_,World.drewN_drewN _ _ _⟩ | exact⟨rfl,_,Eq.trans (World.drewN_drewN _ _ _) (congrArg (World.drewN _) (Nat.add_assoc _ _ _))⟩)))
  repeat (go_quiet (first | (go_at_call 138; (with_reducible refine(fluxionref01_Cmp.calls k _ _ l0 _ _ l1 t153 _ ?side1 ?side2 ?side3 ?side4 A3.out).mono ?_); (case side1=>exact qc HR0.out); (case side2=>exact HC0.out); (case side3=>exact qc HR1.out); (case side4=>exact HC1.out); rintro e w' ⟨rfl,⟨nd,rfl⟩⟩; (try first | exact⟨rfl,_,World.drewN_drewN _ _ _⟩ | exact⟨rfl,_,Eq.trans (World.drewN_drewN _ _ _) (congrArg (World.drewN _) (Nat.add_assoc _ _ _))⟩))); try go_wp2_with (first | (go_at_call 138; (with_reducible refine(fluxionref01_Cmp.calls k _ _ l0 _ _ l1 t153 _ ?side1 ?side2 ?side3 ?side4 A3.out).mono ?_); (case side1=>exact qc HR0.out); (case side2=>exact HC0.out); (case side3=>exact qc HR1.out); (case side4=>exact HC1.out); rintro e w' ⟨rfl,⟨nd,rfl⟩⟩; (try first | exact⟨rfl,_,World.drewN_drewN _ _ _⟩ | exact⟨rfl,_,Eq.trans (World.drewN_drewN _ _ _) (congrArg (World.drewN _) (Nat.add_assoc _ _ _))⟩))))
  go_loopg [6,7,8] k (fun kq v6 v7 v8 w'=>∃ (x6_1:List Int) (x7_1:Int) (x8_1:Int),v7=.int .i64 x7_1∧v8=.int .i64 x8_1∧Aside0 (fluxionref01_Sub.l0 kq l0 l1 x6_1 x7_1 x8_1=some (r1,r2))∧Aside0 (kq≤k)∧Aside0 (Kd.R (Kd.int .i64) 3 w' w.heap.size (fun _=>True) v6 x6_1)∧Aside0 (Below w.heap.size w w'))
  case atStart=>exact⟨(([]:List Int)),(0),(0),(by first | rfl | (simp; done) | (simp [*]; done)),(by first | rfl | (simp; done) | (simp [*]; done)),H',⟨Nat.le_refl _⟩,⟨by first | exact Kd.R_nil _ _ _ _ _ | exact Kd.N_nil _ _ _ _ _ | exact Kd.V_nil _ _ _ _ _ | exact Kd.Q_nil _ _ _ _ _ | exact Kd.S_nil _ _ _ _ _⟩,⟨by repeat (first | (with_reducible first | exact HB.out | apply zbn | apply zbo | apply zbs) | exact HB.out)⟩⟩
  case round =>
   clear H'
   try clear c1
   try clear p2
   try clear c4
   try clear c4b0
   obtain⟨x6_1,x7_1,x8_1,rfl,rfl,HA,HK1,HO_6,HB⟩:=hrel
   cases gk with
   | zero=>exact absurd HA.out (by simp [fluxionref01_Sub.l0])
   | succ k1 =>
    have H:=HA.out
    clear HA
    simp only [fluxionref01_Sub.l0] at H
    by_cases c5:x8_1 < (l0.length:Int)
    ·
     rw [if_pos c5] at H
     have c5b0:decide (x8_1 < (l0.length:Int))=true:=decide_eq_true c5
     clear c5
     by_cases c6:0≤x8_1
     ·
      rw [if_pos c6] at H
      have c6b0:decide (0≤x8_1)=true:=decide_eq_true c6
      clear c6
      replace H:=Option.bind_eq_some_iff.mp H
      obtain⟨t155,A70,H⟩:=H
      replace H:(if (wrap64 ((wrap64 ((rd l0 x8_1)-t155))-x7_1)) < 0 then (if x6_1.length < 17592186044416 then (fluxionref01_Sub.l0 k1 l0 l1 (x6_1++[wrap64 ((wrap64 ((wrap64 ((rd l0 x8_1)-t155))-x7_1))+10000)]) 1 (wrap64 (x8_1+1))) else (none)) else (if x6_1.length < 17592186044416 then (fluxionref01_Sub.l0 k1 l0 l1 (x6_1++[wrap64 ((wrap64 ((rd l0 x8_1)-t155))-x7_1)]) 0 (wrap64 (x8_1+1))) else (none)))=some (r1,r2):=H
      have A7:=Aside0.mk A70
      clear A70
      by_cases c8:(wrap64 ((wrap64 ((rd l0 x8_1)-t155))-x7_1)) < 0
      ·
       rw [if_pos c8] at H
       have c8b0:decide ((wrap64 ((wrap64 ((rd l0 x8_1)-t155))-x7_1)) < 0)=true:=decide_eq_true c8
       clear c8
       by_cases c9:x6_1.length < 17592186044416
       ·
        rw [if_pos c9] at H
        have LMc9:=Aside0.mk c9
        clear c9
        obtain⟨y156,hy156⟩:∃ y_:List Int,y_=(x6_1++[wrap64 ((wrap64 ((wrap64 ((rd l0 x8_1)-t155))-x7_1))+10000)]):=⟨_,rfl⟩
        replace H:(fluxionref01_Sub.l0 k1 l0 l1 y156 1 (wrap64 (x8_1+1)))=some (r1,r2):=by first | (rw [hy156]; with_reducible exact H) | (have H2_:=(Option.bind_some _ _).symm.trans H; rw [hy156]; with_reducible exact H2_) | (have H2_:=(Option.bind_some _ _).symm.trans H; with_reducible exact H2_) | with_reducible exact H | (rw [hy156]; exact H) | exact H
        have Ny156:=Aside0.mk hy156
        clear hy156
        have H':=Aside0.mk H
        clear H
        have p154:0≤(x8_1:Int):=of_decide_eq_true qs
        have q154:x8_1 < (l0.length:Int):=of_decide_eq_true qs
        obtain⟨ad154,e154,hx154_0⟩:=Kd.at_int HR0.out x8_1 p154 q154
        cases e154
        replace hx154_0:=(HB.out.cell (World.block_lt_of_cell? w _ hx154_0)).trans hx154_0
        replace p154:=eq_true p154
        replace q154:=eq_true q154
        go_wp2_with (first | (go_at_call 154; (with_reducible refine(fluxionref01_digit.calls _ _ l1 x8_1 t155 _ ?side1 ?side2 A7.out).mono ?_); (case side1=>exact qc (Kd.C_below HR1.out HB.out)); (case side2=>exact HC1.out); rintro e w' ⟨rfl,⟨nd,rfl⟩⟩; (try first | exact⟨rfl,_,World.drewN_drewN _ _ _⟩ | exact⟨rfl,_,Eq.trans (World.drewN_drewN _ _ _) (congrArg (World.drewN _) (Nat.add_assoc _ _ _))⟩)) | ((with_reducible refine zbO (b:=.append) (xs:=#[.tmp 34,.tmp 36]) rfl ?_); at_builtin; refine Kd.R_append (Kd.int .i64) (w0:=w) w.heap.size rfl (.tmp 34) (.tmp 36) 38 3 (.int .i64 0) 8 rfl Tryz.underlying38 info3 rfl (by decide) (by omega) u6 x6_1 (wrap64 ((wrap64 ((wrap64 ((rd l0 x8_1)-t155))-x7_1))+10000)) [.int .i64 (wrap64 ((wrap64 ((wrap64 ((rd l0 x8_1)-t155))-x7_1))+10000))] (fun _=>True) (fun _=>False) rfl rfl ?aP (fun _ hk=>hk.elim) ?aF ?aO ?aB ?aS ?aL ?_; (case aP=>exact rfl); (case aB=>exact(qb HB.out)); (case aF=>exact(fun _ _=>trivial)); (case aO=>exact(qr HO_6.out)); (case aS=>exact(zbp (qb HB.out))); (case aL=>have:=LMc9.out; omega); intro v157 w10 ho hb hg hat; rw [← Ny156.out] at ho; have n0_:=Aside0.mk (hb); have n1_:=Aside0.mk (ho); clear HB; clear HO_6; have HB:=n0_; have HO158:=n1_; clear n0_ n1_; clear ho hb hg hat))
        repeat (go_quiet (first | (go_at_call 154; (with_reducible refine(fluxionref01_digit.calls _ _ l1 x8_1 t155 _ ?side1 ?side2 A7.out).mono ?_); (case side1=>exact qc (Kd.C_below HR1.out HB.out)); (case side2=>exact HC1.out); rintro e w' ⟨rfl,⟨nd,rfl⟩⟩; (try first | exact⟨rfl,_,World.drewN_drewN _ _ _⟩ | exact⟨rfl,_,Eq.trans (World.drewN_drewN _ _ _) (congrArg (World.drewN _) (Nat.add_assoc _ _ _))⟩)) | ((with_reducible refine zbO (b:=.append) (xs:=#[.tmp 34,.tmp 36]) rfl ?_); at_builtin; refine Kd.R_append (Kd.int .i64) (w0:=w) w.heap.size rfl (.tmp 34) (.tmp 36) 38 3 (.int .i64 0) 8 rfl Tryz.underlying38 info3 rfl (by decide) (by omega) u6 x6_1 (wrap64 ((wrap64 ((wrap64 ((rd l0 x8_1)-t155))-x7_1))+10000)) [.int .i64 (wrap64 ((wrap64 ((wrap64 ((rd l0 x8_1)-t155))-x7_1))+10000))] (fun _=>True) (fun _=>False) rfl rfl ?aP (fun _ hk=>hk.elim) ?aF ?aO ?aB ?aS ?aL ?_; (case aP=>exact rfl); (case aB=>exact(qb HB.out)); (case aF=>exact(fun _ _=>trivial)); (case aO=>exact(qr HO_6.out)); (case aS=>exact(zbp (qb HB.out))); (case aL=>have:=LMc9.out; omega); intro v157 w10 ho hb hg hat; rw [← Ny156.out] at ho; have n0_:=Aside0.mk (hb); have n1_:=Aside0.mk (ho); clear HB; clear HO_6; have HB:=n0_; have HO158:=n1_; clear n0_ n1_; clear ho hb hg hat)); try go_wp2_with (first | (go_at_call 154; (with_reducible refine(fluxionref01_digit.calls _ _ l1 x8_1 t155 _ ?side1 ?side2 A7.out).mono ?_); (case side1=>exact qc (Kd.C_below HR1.out HB.out)); (case side2=>exact HC1.out); rintro e w' ⟨rfl,⟨nd,rfl⟩⟩; (try first | exact⟨rfl,_,World.drewN_drewN _ _ _⟩ | exact⟨rfl,_,Eq.trans (World.drewN_drewN _ _ _) (congrArg (World.drewN _) (Nat.add_assoc _ _ _))⟩)) | ((with_reducible refine zbO (b:=.append) (xs:=#[.tmp 34,.tmp 36]) rfl ?_); at_builtin; refine Kd.R_append (Kd.int .i64) (w0:=w) w.heap.size rfl (.tmp 34) (.tmp 36) 38 3 (.int .i64 0) 8 rfl Tryz.underlying38 info3 rfl (by decide) (by omega) u6 x6_1 (wrap64 ((wrap64 ((wrap64 ((rd l0 x8_1)-t155))-x7_1))+10000)) [.int .i64 (wrap64 ((wrap64 ((wrap64 ((rd l0 x8_1)-t155))-x7_1))+10000))] (fun _=>True) (fun _=>False) rfl rfl ?aP (fun _ hk=>hk.elim) ?aF ?aO ?aB ?aS ?aL ?_; (case aP=>exact rfl); (case aB=>exact(qb HB.out)); (case aF=>exact(fun _ _=>trivial)); (case aO=>exact(qr HO_6.out)); (case aS=>exact(zbp (qb HB.out))); (case aL=>have:=LMc9.out; omega); intro v157 w10 ho hb hg hat; rw [← Ny156.out] at ho; have n0_:=Aside0.mk (hb); have n1_:=Aside0.mk (ho); clear HB; clear HO_6; have HB:=n0_; have HO158:=n1_; clear n0_ n1_; clear ho hb hg hat)))
        go_roundg k1
        case measure=>have:=HK1.out; omega
        case rel=>exact⟨(y156),(1),(wrap64 (x8_1+1)),(by first | rfl | (simp; done) | (simp [*]; done)),(by first | rfl | (simp; done) | (simp [*]; done)),H',⟨by have:=HK1.out; omega⟩,⟨by (with_reducible repeat (first | apply Kd.R_alloc | apply Kd.R_drewN | apply Kd.R_drew)); exact HO158.out⟩,⟨by repeat (first | (with_reducible first | exact HB.out | apply zbn | apply zbo | apply zbs) | exact HB.out)⟩⟩
       ·
        rw [if_neg c9] at H
        exact absurd H (by simp)
      ·
       rw [if_neg c8] at H
       have c8b0:decide ((wrap64 ((wrap64 ((rd l0 x8_1)-t155))-x7_1)) < 0)=false:=decide_eq_false c8
       clear c8
       by_cases c11:x6_1.length < 17592186044416
       ·
        rw [if_pos c11] at H
        have LMc11:=Aside0.mk c11
        clear c11
        obtain⟨y159,hy159⟩:∃ y_:List Int,y_=(x6_1++[wrap64 ((wrap64 ((rd l0 x8_1)-t155))-x7_1)]):=⟨_,rfl⟩
        replace H:(fluxionref01_Sub.l0 k1 l0 l1 y159 0 (wrap64 (x8_1+1)))=some (r1,r2):=by first | (rw [hy159]; with_reducible exact H) | (have H2_:=(Option.bind_some _ _).symm.trans H; rw [hy159]; with_reducible exact H2_) | (have H2_:=(Option.bind_some _ _).symm.trans H; with_reducible exact H2_) | with_reducible exact H | (rw [hy159]; exact H) | exact H
        have Ny159:=Aside0.mk hy159
        clear hy159
        have H':=Aside0.mk H
        clear H
        have p154:0≤(x8_1:Int):=of_decide_eq_true qs
        have q154:x8_1 < (l0.length:Int):=of_decide_eq_true qs
        obtain⟨ad154,e154,hx154_0⟩:=Kd.at_int HR0.out x8_1 p154 q154
        cases e154
        replace hx154_0:=(HB.out.cell (World.block_lt_of_cell? w _ hx154_0)).trans hx154_0
        replace p154:=eq_true p154
        replace q154:=eq_true q154
        go_wp2_with (first | (go_at_call 154; (with_reducible refine(fluxionref01_digit.calls _ _ l1 x8_1 t155 _ ?side1 ?side2 A7.out).mono ?_); (case side1=>exact qc (Kd.C_below HR1.out HB.out)); (case side2=>exact HC1.out); rintro e w' ⟨rfl,⟨nd,rfl⟩⟩; (try first | exact⟨rfl,_,World.drewN_drewN _ _ _⟩ | exact⟨rfl,_,Eq.trans (World.drewN_drewN _ _ _) (congrArg (World.drewN _) (Nat.add_assoc _ _ _))⟩)) | ((with_reducible refine zbO (b:=.append) (xs:=#[.tmp 34,.tmp 36]) rfl ?_); at_builtin; refine Kd.R_append (Kd.int .i64) (w0:=w) w.heap.size rfl (.tmp 34) (.tmp 36) 38 3 (.int .i64 0) 8 rfl Tryz.underlying38 info3 rfl (by decide) (by omega) u6 x6_1 (wrap64 ((wrap64 ((rd l0 x8_1)-t155))-x7_1)) [.int .i64 (wrap64 ((wrap64 ((rd l0 x8_1)-t155))-x7_1))] (fun _=>True) (fun _=>False) rfl rfl ?aP (fun _ hk=>hk.elim) ?aF ?aO ?aB ?aS ?aL ?_; (case aP=>exact rfl); (case aB=>exact(qb HB.out)); (case aF=>exact(fun _ _=>trivial)); (case aO=>exact(qr HO_6.out)); (case aS=>exact(zbp (qb HB.out))); (case aL=>have:=LMc11.out; omega); intro v160 w12 ho hb hg hat; rw [← Ny159.out] at ho; have n0_:=Aside0.mk (hb); have n1_:=Aside0.mk (ho); clear HB; clear HO_6; have HB:=n0_; have HO161:=n1_; clear n0_ n1_; clear ho hb hg hat))
        repeat (go_quiet (first | (go_at_call 154; (with_reducible refine(fluxionref01_digit.calls _ _ l1 x8_1 t155 _ ?side1 ?side2 A7.out).mono ?_); (case side1=>exact qc (Kd.C_below HR1.out HB.out)); (case side2=>exact HC1.out); rintro e w' ⟨rfl,⟨nd,rfl⟩⟩; (try first | exact⟨rfl,_,World.drewN_drewN _ _ _⟩ | exact⟨rfl,_,Eq.trans (World.drewN_drewN _ _ _) (congrArg (World.drewN _) (Nat.add_assoc _ _ _))⟩)) | ((with_reducible refine zbO (b:=.append) (xs:=#[.tmp 34,.tmp 36]) rfl ?_); at_builtin; refine Kd.R_append (Kd.int .i64) (w0:=w) w.heap.size rfl (.tmp 34) (.tmp 36) 38 3 (.int .i64 0) 8 rfl Tryz.underlying38 info3 rfl (by decide) (by omega) u6 x6_1 (wrap64 ((wrap64 ((rd l0 x8_1)-t155))-x7_1)) [.int .i64 (wrap64 ((wrap64 ((rd l0 x8_1)-t155))-x7_1))] (fun _=>True) (fun _=>False) rfl rfl ?aP (fun _ hk=>hk.elim) ?aF ?aO ?aB ?aS ?aL ?_; (case aP=>exact rfl); (case aB=>exact(qb HB.out)); (case aF=>exact(fun _ _=>trivial)); (case aO=>exact(qr HO_6.out)); (case aS=>exact(zbp (qb HB.out))); (case aL=>have:=LMc11.out; omega); intro v160 w12 ho hb hg hat; rw [← Ny159.out] at ho; have n0_:=Aside0.mk (hb); have n1_:=Aside0.mk (ho); clear HB; clear HO_6; have HB:=n0_; have HO161:=n1_; clear n0_ n1_; clear ho hb hg hat)); try go_wp2_with (first | (go_at_call 154; (with_reducible refine(fluxionref01_digit.calls _ _ l1 x8_1 t155 _ ?side1 ?side2 A7.out).mono ?_); (case side1=>exact qc (Kd.C_below HR1.out HB.out)); (case side2=>exact HC1.out); rintro e w' ⟨rfl,⟨nd,rfl⟩⟩; (try first | exact⟨rfl,_,World.drewN_drewN _ _ _⟩ | exact⟨rfl,_,Eq.trans (World.drewN_drewN _ _ _) (congrArg (World.drewN _) (Nat.add_assoc _ _ _))⟩)) | ((with_reducible refine zbO (b:=.append) (xs:=#[.tmp 34,.tmp 36]) rfl ?_); at_builtin; refine Kd.R_append (Kd.int .i64) (w0:=w) w.heap.size rfl (.tmp 34) (.tmp 36) 38 3 (.int .i64 0) 8 rfl Tryz.underlying38 info3 rfl (by decide) (by omega) u6 x6_1 (wrap64 ((wrap64 ((rd l0 x8_1)-t155))-x7_1)) [.int .i64 (wrap64 ((wrap64 ((rd l0 x8_1)-t155))-x7_1))] (fun _=>True) (fun _=>False) rfl rfl ?aP (fun _ hk=>hk.elim) ?aF ?aO ?aB ?aS ?aL ?_; (case aP=>exact rfl); (case aB=>exact(qb HB.out)); (case aF=>exact(fun _ _=>trivial)); (case aO=>exact(qr HO_6.out)); (case aS=>exact(zbp (qb HB.out))); (case aL=>have:=LMc11.out; omega); intro v160 w12 ho hb hg hat; rw [← Ny159.out] at ho; have n0_:=Aside0.mk (hb); have n1_:=Aside0.mk (ho); clear HB; clear HO_6; have HB:=n0_; have HO161:=n1_; clear n0_ n1_; clear ho hb hg hat)))
        go_roundg k1
        case measure=>have:=HK1.out; omega
        case rel=>exact⟨(y159),(0),(wrap64 (x8_1+1)),(by first | rfl | (simp; done) | (simp [*]; done)),(by first | rfl | (simp; done) | (simp [*]; done)),H',⟨by have:=HK1.out; omega⟩,⟨by (with_reducible repeat (first | apply Kd.R_alloc | apply Kd.R_drewN | apply Kd.R_drew)); exact HO161.out⟩,⟨by repeat (first | (with_reducible first | exact HB.out | apply zbn | apply zbo | apply zbs) | exact HB.out)⟩⟩
       ·
        rw [if_neg c11] at H
        exact absurd H (by simp)
     ·
      rw [if_neg c6] at H
      exact absurd H (by simp)
    ·
     rw [if_neg c5] at H
     have c5b0:decide (x8_1 < (l0.length:Int))=false:=decide_eq_false c5
     clear c5
     replace H:=Option.bind_eq_some_iff.mp H
     obtain⟨t162,A130,H⟩:=H
     replace H:(some (t162,true))=some (r1,r2):=H
     have A13:=Aside0.mk A130
     clear A130
     simp only [Option.some.injEq,Prod.mk.injEq] at H
     obtain⟨rfl,rfl⟩:=H
     obtain⟨Ao14,co14,eo14⟩:=Kd.R_slice HO_6.out
     subst eo14
     go_wp2_with (first | (go_at_call 155; (with_reducible refine(fluxionref01_trim.calls k1 (fun k_=>some k_=(.slice Ao14 x6_1.length co14:Value).ownBlock) (.slice Ao14 x6_1.length co14) x6_1 t162 w _ ?side1 ?side2 A13.out).mono ?_); (case side1=>repeat (first | (with_reducible first | exact HB.out | apply zbn | apply zbo | apply zbs) | exact HB.out)); (case side2=>exact Kd.R_tight rfl HO_6.out); rintro e w15 ⟨v163,rfl,ho0,hb,hkp⟩; have n0_:=Aside0.mk (Kd.R_mono (ok':=fun k_=>True) ho0 (fun k_ hk_=>trivial)); have n1_:=Aside0.mk (hb); clear HB; clear HO_6; have HO164:=n0_; have HB:=n1_; clear n0_ n1_; (try clear hb); (try clear hkp); (try clear ho0)))
     repeat (go_quiet (first | (go_at_call 155; (with_reducible refine(fluxionref01_trim.calls k1 (fun k_=>some k_=(.slice Ao14 x6_1.length co14:Value).ownBlock) (.slice Ao14 x6_1.length co14) x6_1 t162 w _ ?side1 ?side2 A13.out).mono ?_); (case side1=>repeat (first | (with_reducible first | exact HB.out | apply zbn | apply zbo | apply zbs) | exact HB.out)); (case side2=>exact Kd.R_tight rfl HO_6.out); rintro e w15 ⟨v163,rfl,ho0,hb,hkp⟩; have n0_:=Aside0.mk (Kd.R_mono (ok':=fun k_=>True) ho0 (fun k_ hk_=>trivial)); have n1_:=Aside0.mk (hb); clear HB; clear HO_6; have HO164:=n0_; have HB:=n1_; clear n0_ n1_; (try clear hb); (try clear hkp); (try clear ho0))); try go_wp2_with (first | (go_at_call 155; (with_reducible refine(fluxionref01_trim.calls k1 (fun k_=>some k_=(.slice Ao14 x6_1.length co14:Value).ownBlock) (.slice Ao14 x6_1.length co14) x6_1 t162 w _ ?side1 ?side2 A13.out).mono ?_); (case side1=>repeat (first | (with_reducible first | exact HB.out | apply zbn | apply zbo | apply zbs) | exact HB.out)); (case side2=>exact Kd.R_tight rfl HO_6.out); rintro e w15 ⟨v163,rfl,ho0,hb,hkp⟩; have n0_:=Aside0.mk (Kd.R_mono (ok':=fun k_=>True) ho0 (fun k_ hk_=>trivial)); have n1_:=Aside0.mk (hb); clear HB; clear HO_6; have HO164:=n0_; have HB:=n1_; clear n0_ n1_; (try clear hb); (try clear hkp); (try clear ho0))))
     go_ret2
     exact⟨_,by first | rfl | (simp [zbx,zbw]<;>rfl) | (simp [*,zbx,zbw]<;>rfl),by (with_reducible repeat (first | apply Kd.R_alloc | apply Kd.R_drewN | apply Kd.R_drew)); exact HO164.out,by repeat (first | (with_reducible first | exact HB.out | apply zbn | apply zbo | apply zbs) | exact HB.out)⟩
end Go.Proofs.YtehghijlchpeaaaGreat.L
end
section
namespace Go.Proofs.YtehghijlchpeaaaGreat.L
open Go.RowKit YtehghijlchpeaaaGreatW.PrintWords YtehghijlchpeaaaGreatW.PrintLast YtehghijlchpeaaaGreatW.PrintMore
attribute [local go_sem] zbX zbZ zb2 zb1 zbQ zbR zbW zbY   -- for this text's walks alone
def fluxionref02_trim.l0:Nat→List Int→Int→Option (List Int)
 | 0,_,_=>none
 | k+1,x0,x3=>if x3 > 0 then (if 0≤(wrap64 (x3-1)) then (if (wrap64 (x3-1)) < (x0.length:Int) then (if (rd x0 (wrap64 (x3-1)))=0 then (fluxionref02_trim.l0 k x0 (wrap64 (x3-1))) else (if 0≤x3 then (if x3≤(x0.length:Int) then (some (x0.take (x3:Int).toNat)) else (none)) else (none))) else (none)) else (none)) else (if 0≤x3 then (if x3≤(x0.length:Int) then (some (x0.take (x3:Int).toNat)) else (none)) else (none))
def fluxionref02_trim.f (k:Nat) (l0:List Int):Option (List Int):=fluxionref02_trim.l0 k l0 (l0.length:Int)
theorem fluxionref02_trim.calls (k:Nat) (P0_:Nat→Prop) (u9000_:Value) (l0:List Int) (r:List Int) (w0 w:World) (hB:Below w0.heap.size w0 w) (ho0:Kd.R (Kd.int .i64) 3 w w0.heap.size P0_ u9000_ l0) (h:fluxionref02_trim.f k l0=some r) :
  Calls Tryz.prog 152 #[u9000_] w fun e w'=>∃ v0_:Value,e=.returned (v0_)∧Kd.R (Kd.int .i64) 3 w' w0.heap.size (fun k_=>(P0_ k_∨w.heap.size≤k_)) v0_ r∧Below w0.heap.size w0 w'∧zcn w w' (fun k_=>P0_ k_):=by
 have HO0:=Aside0.mk (show Kd.R (Kd.int .i64) 3 w w0.heap.size (fun k_=>(P0_ k_∨w.heap.size≤k_)) u9000_ l0 from Kd.R_mono ho0 (fun k_ hk=>(.inl hk)))
 have HK:=Aside0.mk (zcn.refl w (fun k_=>P0_ k_))
 have HW0:=Aside0.mk hB.size
 have HB:=Aside0.mk hB
 clear hB
 have H:(fluxionref02_trim.l0 k l0 (l0.length:Int))=some r:=h
 clear h
 have H':=Aside0.mk H
 clear H
 obtain⟨Ao2,co2,eo2⟩:=Kd.R_slice HO0.out
 subst eo2
 go_enter Tryz.func152,Tryz.ntmps152
 go_wp2
 go_loopg [3] k (fun kq v3 w'=>∃ (x3_1:Int),v3=.int .i64 x3_1∧Aside0 (fluxionref02_trim.l0 kq l0 x3_1=some r)∧Aside0 (kq≤k)∧Aside0 (Kd.R (Kd.int .i64) 3 w' w0.heap.size (fun k_=>(P0_ k_∨w.heap.size≤k_)) (.slice Ao2 l0.length co2) l0)∧Aside0 (zcn w w' (fun k_=>P0_ k_))∧Aside0 (Below w0.heap.size w0 w'))
 case atStart=>exact⟨((l0.length:Int)),(by first | rfl | (simp; done) | (simp [*]; done)),H',⟨Nat.le_refl _⟩,⟨by (with_reducible repeat (first | apply Kd.R_alloc | apply Kd.R_drewN | apply Kd.R_drew)); exact HO0.out⟩,⟨by repeat (first | (with_reducible first | exact HK.out | apply zcn.alloc | apply zcn.drewN | apply zcn.drew) | exact HK.out)⟩,⟨by repeat (first | (with_reducible first | exact HB.out | apply zbn | apply zbo | apply zbs) | exact HB.out)⟩⟩
 case round =>
  clear H'
  try clear c1
  try clear p2
  obtain⟨x3_1,rfl,HA,HK1,HO_0,HK,HB⟩:=hrel
  cases gk with
  | zero=>exact absurd HA.out (by simp [fluxionref02_trim.l0])
  | succ k1 =>
   have H:=HA.out
   clear HA
   simp only [fluxionref02_trim.l0] at H
   by_cases c3:x3_1 > 0
   ·
    rw [if_pos c3] at H
    have c3b0:decide (0 < x3_1)=true:=decide_eq_true c3
    clear c3
    obtain⟨ji4,hji4⟩:∃ j_:Int,(wrap64 (x3_1-1))=j_:=⟨_,rfl⟩
    replace H:(if 0≤(ji4) then (if (ji4) < (l0.length:Int) then (if (rd l0 (ji4))=0 then (fluxionref02_trim.l0 k1 l0 ji4) else (if 0≤x3_1 then (if x3_1≤(l0.length:Int) then (some (l0.take (x3_1:Int).toNat)) else (none)) else (none))) else (none)) else (none))=some r:=by first | (rw [hji4] at H; exact H) | (simp only [hji4] at H ⊢; exact H)
    have hji4w:(IntKind.i64.wrap (x3_1-1))=ji4:=(zcb _).trans hji4
    by_cases c5:0≤(ji4)
    ·
     rw [if_pos c5] at H
     have c5b0:decide (0≤(ji4))=true:=decide_eq_true c5
     clear c5
     by_cases c6:(ji4) < (l0.length:Int)
     ·
      rw [if_pos c6] at H
      have c6b0:decide ((ji4) < (l0.length:Int))=true:=decide_eq_true c6
      clear c6
      by_cases c7:(rd l0 (ji4))=0
      ·
       rw [if_pos c7] at H
       have c7b0:((rd l0 (ji4)) == 0)=true:=beq_iff_eq.mpr c7
       have c7b1:((rd l0 (ji4)) != 0)=false:=bne_eq_false_iff_eq.mpr c7
       clear c7
       have H':=Aside0.mk H
       clear H
       have p165:0≤((ji4):Int):=of_decide_eq_true qs
       have q165:(ji4) < (l0.length:Int):=of_decide_eq_true qs
       obtain⟨ad165,e165,hx165_0⟩:=Kd.at_int (Kd.R_reads' HO_0.out).2.2 (ji4) p165 q165
       cases e165
       replace p165:=eq_true p165
       replace q165:=eq_true q165
       go_wp2
       go_roundg k1
       case measure=>have:=HK1.out; omega
       case rel=>exact⟨(ji4),(by first | rfl | (simp; done) | (simp only [← hji4]<;>(first | rfl | simp)) | (simp [*]; done)),H',⟨by have:=HK1.out; omega⟩,⟨by (with_reducible repeat (first | apply Kd.R_alloc | apply Kd.R_drewN | apply Kd.R_drew)); exact HO_0.out⟩,⟨by repeat (first | (with_reducible first | exact HK.out | apply zcn.alloc | apply zcn.drewN | apply zcn.drew) | exact HK.out)⟩,⟨by repeat (first | (with_reducible first | exact HB.out | apply zbn | apply zbo | apply zbs) | exact HB.out)⟩⟩
      ·
       rw [if_neg c7] at H
       have c7b0:((rd l0 (ji4)) == 0)=false:=beq_eq_false_iff_ne.mpr c7
       have c7b1:((rd l0 (ji4)) != 0)=true:=bne_iff_ne.mpr c7
       by_cases c8:0≤x3_1
       ·
        rw [if_pos c8] at H
        have c8b0:=eq_true c8
        have c8b1:decide (0≤x3_1)=true:=decide_eq_true c8
        clear c8
        by_cases c9:x3_1≤(l0.length:Int)
        ·
         rw [if_pos c9] at H
         have c9b0:=eq_true c9
         have c9b1:decide (x3_1≤(l0.length:Int))=true:=decide_eq_true c9
         clear c9
         obtain⟨y166,hy166⟩:∃ y_:List Int,y_=(l0.take (x3_1:Int).toNat):=⟨_,rfl⟩
         replace H:(some y166)=some r:=by first | (rw [hy166]; with_reducible exact H) | (have H2_:=(Option.bind_some _ _).symm.trans H; rw [hy166]; with_reducible exact H2_) | (have H2_:=(Option.bind_some _ _).symm.trans H; with_reducible exact H2_) | with_reducible exact H | (rw [hy166]; exact H) | exact H
         have Ny166:=Aside0.mk hy166
         clear hy166
         obtain rfl:=Option.some.inj H
         have p165:0≤((ji4):Int):=of_decide_eq_true qs
         have q165:(ji4) < (l0.length:Int):=of_decide_eq_true qs
         obtain⟨ad165,e165,hx165_0⟩:=Kd.at_int (Kd.R_reads' HO_0.out).2.2 (ji4) p165 q165
         cases e165
         replace p165:=eq_true p165
         replace q165:=eq_true q165
         have q10:(x3_1:Int)≤((l0.length:Int):Int):=of_decide_eq_true qs
         obtain⟨i010,hi010,_,hsz10,_⟩:=info_parts info3
         have hcut10:=cut_to (P:=Tryz.prog) 38 3 .i64 Tryz.underlying38 hi010 (some ad165) l0.length co2 x3_1 (of_decide_eq_true qs) q10 (Kd.R_reads' HO_0.out).2.1
         have hr10:=Kd.R_take (m:=(x3_1:Int).toNat) HO_0.out (by omega)
         have hy10:y166.length=(x3_1:Int).toNat:=(by rw [Ny166.out,List.length_take]; omega)
         rw [← Ny166.out] at hr10
         rw [← hy10] at hr10 hcut10
         clear hy10 hi010 hsz10 HO_0
         have HO168:=Aside0.mk hr10
         clear hr10
         replace q10:=eq_true q10
         go_wp2
         go_ret
         exact⟨_,by first | rfl | (simp [zbx,zbw]<;>rfl) | (simp only [← hji4]; first | rfl | (simp [zbx,zbw]<;>rfl)) | (simp [*,zbx,zbw]<;>rfl),by (with_reducible repeat (first | apply Kd.R_alloc | apply Kd.R_drewN | apply Kd.R_drew)); exact HO168.out,by repeat (first | (with_reducible first | exact HB.out | apply zbn | apply zbo | apply zbs) | exact HB.out),by repeat (first | (with_reducible first | exact HK.out | apply zcn.alloc | apply zcn.drewN | apply zcn.drew) | exact HK.out)⟩
        ·
         rw [if_neg c9] at H
         exact absurd H (by simp)
       ·
        rw [if_neg c8] at H
        exact absurd H (by simp)
     ·
      rw [if_neg c6] at H
      exact absurd H (by simp)
    ·
     rw [if_neg c5] at H
     exact absurd H (by simp)
   ·
    rw [if_neg c3] at H
    have c3b0:decide (0 < x3_1)=false:=decide_eq_false c3
    clear c3
    by_cases c11:0≤x3_1
    ·
     rw [if_pos c11] at H
     have c11b0:=eq_true c11
     have c11b1:decide (0≤x3_1)=true:=decide_eq_true c11
     clear c11
     by_cases c12:x3_1≤(l0.length:Int)
     ·
      rw [if_pos c12] at H
      have c12b0:=eq_true c12
      have c12b1:decide (x3_1≤(l0.length:Int))=true:=decide_eq_true c12
      clear c12
      obtain⟨y169,hy169⟩:∃ y_:List Int,y_=(l0.take (x3_1:Int).toNat):=⟨_,rfl⟩
      replace H:(some y169)=some r:=by first | (rw [hy169]; with_reducible exact H) | (have H2_:=(Option.bind_some _ _).symm.trans H; rw [hy169]; with_reducible exact H2_) | (have H2_:=(Option.bind_some _ _).symm.trans H; with_reducible exact H2_) | with_reducible exact H | (rw [hy169]; exact H) | exact H
      have Ny169:=Aside0.mk hy169
      clear hy169
      obtain rfl:=Option.some.inj H
      have q13:(x3_1:Int)≤((l0.length:Int):Int):=of_decide_eq_true qs
      obtain⟨i013,hi013,_,hsz13,_⟩:=info_parts info3
      have hcut13:=cut_to (P:=Tryz.prog) 38 3 .i64 Tryz.underlying38 hi013 Ao2 l0.length co2 x3_1 (of_decide_eq_true qs) q13 (Kd.R_reads' HO_0.out).2.1
      have hr13:=Kd.R_take (m:=(x3_1:Int).toNat) HO_0.out (by omega)
      have hy13:y169.length=(x3_1:Int).toNat:=(by rw [Ny169.out,List.length_take]; omega)
      rw [← Ny169.out] at hr13
      rw [← hy13] at hr13 hcut13
      clear hy13 hi013 hsz13 HO_0
      have HO171:=Aside0.mk hr13
      clear hr13
      replace q13:=eq_true q13
      go_wp2
      go_ret
      exact⟨_,by first | rfl | (simp [zbx,zbw]<;>rfl) | (simp [*,zbx,zbw]<;>rfl),by (with_reducible repeat (first | apply Kd.R_alloc | apply Kd.R_drewN | apply Kd.R_drew)); exact HO171.out,by repeat (first | (with_reducible first | exact HB.out | apply zbn | apply zbo | apply zbs) | exact HB.out),by repeat (first | (with_reducible first | exact HK.out | apply zcn.alloc | apply zcn.drewN | apply zcn.drew) | exact HK.out)⟩
     ·
      rw [if_neg c12] at H
      exact absurd H (by simp)
    ·
     rw [if_neg c11] at H
     exact absurd H (by simp)
def fluxionref02_digit.l0:Nat→List Int→List Int→Int→Int→Option (Int)
 | 0,_,_,_,_=>none
 | k+1,x0,x1,x5,x6=>if (wrap64 (x6-x5)) > 1 then ((fluxionref01_Times.f k x1 (wrap64 (Int.tdiv (wrap64 (x5+x6)) 2))).bind fun t172=>((fluxionref01_Cmp.f k t172 x0).bind fun t175=>(if t175≤0 then (fluxionref02_digit.l0 k x0 x1 (wrap64 (Int.tdiv (wrap64 (x5+x6)) 2)) x6) else (fluxionref02_digit.l0 k x0 x1 x5 (wrap64 (Int.tdiv (wrap64 (x5+x6)) 2)))))) else (some x5)
def fluxionref02_digit.f (k:Nat) (l0:List Int) (l1:List Int):Option (Int):=fluxionref02_digit.l0 k l0 l1 0 10000
theorem fluxionref02_digit.calls (k:Nat) (A0:Option Addr) (c0:Nat) (l0:List Int) (A1:Option Addr) (c1:Nat) (l1:List Int) (r:Int) (w:World) (hr0:Kd.C (Kd.int .i64) w A0 l0.length l0) (hc0:l0.length≤c0) (hr1:Kd.C (Kd.int .i64) w A1 l1.length l1) (hc1:l1.length≤c1) (h:fluxionref02_digit.f k l0 l1=some r) :
  Calls Tryz.prog 153 #[.slice A0 l0.length c0,.slice A1 l1.length c1] w fun e w'=>e=.returned (.int .i64 r)∧Below w.heap.size w w':=by
 have HR0:=Aside0.mk hr0
 have HC0:=Aside0.mk hc0
 clear hr0 hc0
 have HR1:=Aside0.mk hr1
 have HC1:=Aside0.mk hc1
 clear hr1 hc1
 have HB:=Aside0.mk (Below.refl w.heap.size w)
 have H:(fluxionref02_digit.l0 k l0 l1 0 10000)=some r:=h
 clear h
 have H':=Aside0.mk H
 clear H
 go_enter Tryz.func153,Tryz.ntmps153
 go_wp2
 go_loopg [5,6] k (fun kq v5 v6 w'=>∃ (x5_1:Int) (x6_1:Int),v5=.int .i64 x5_1∧v6=.int .i64 x6_1∧Aside0 (fluxionref02_digit.l0 kq l0 l1 x5_1 x6_1=some r)∧Aside0 (kq≤k)∧Aside0 (Below w.heap.size w w'))
 case atStart=>exact⟨(0),(10000),(by first | rfl | (simp; done) | (simp [*]; done)),(by first | rfl | (simp; done) | (simp [*]; done)),H',⟨Nat.le_refl _⟩,⟨by repeat (first | (with_reducible first | exact HB.out | apply zbn | apply zbo | apply zbs) | exact HB.out)⟩⟩
 case round =>
  clear H'
  try clear c1
  try clear p2
  obtain⟨x5_1,x6_1,rfl,rfl,HA,HK1,HB⟩:=hrel
  cases gk with
  | zero=>exact absurd HA.out (by simp [fluxionref02_digit.l0])
  | succ k1 =>
   have H:=HA.out
   clear HA
   simp only [fluxionref02_digit.l0] at H
   by_cases c3:(wrap64 (x6_1-x5_1)) > 1
   ·
    rw [if_pos c3] at H
    have c3b0:decide (1 < (wrap64 (x6_1-x5_1)))=true:=decide_eq_true c3
    clear c3
    replace H:=Option.bind_eq_some_iff.mp H
    obtain⟨t172,A40,H⟩:=H
    replace H:((fluxionref01_Cmp.f k1 t172 l0).bind fun t175=>(if t175≤0 then (fluxionref02_digit.l0 k1 l0 l1 (wrap64 (Int.tdiv (wrap64 (x5_1+x6_1)) 2)) x6_1) else (fluxionref02_digit.l0 k1 l0 l1 x5_1 (wrap64 (Int.tdiv (wrap64 (x5_1+x6_1)) 2)))))=some r:=H
    have A4:=Aside0.mk A40
    clear A40
    replace H:=Option.bind_eq_some_iff.mp H
    obtain⟨t175,A50,H⟩:=H
    replace H:(if t175≤0 then (fluxionref02_digit.l0 k1 l0 l1 (wrap64 (Int.tdiv (wrap64 (x5_1+x6_1)) 2)) x6_1) else (fluxionref02_digit.l0 k1 l0 l1 x5_1 (wrap64 (Int.tdiv (wrap64 (x5_1+x6_1)) 2))))=some r:=H
    have A5:=Aside0.mk A50
    clear A50
    by_cases c6:t175≤0
    ·
     rw [if_pos c6] at H
     have c6b0:decide (t175≤0)=true:=decide_eq_true c6
     clear c6
     have H':=Aside0.mk H
     clear H
     go_wp2_with (first | ((with_reducible refine zbz (f:=127) rfl ?_); refine zbK (some 18) rfl rfl Tryz.func127 (by kernel_rfl) rfl #[.slice A1 l1.length c1,.int .i64 (wrap64 (Int.tdiv (wrap64 (x5_1+x6_1)) 2))] rfl (by (try simp only [List.map_toArray,List.map_cons,List.map_nil]); first | done | rfl | (simp only [List.length_drop,List.length_take]; rfl)) ?_; (with_reducible refine(fluxionref01_Times.calls k1 _ _ l1 (wrap64 (Int.tdiv (wrap64 (x5_1+x6_1)) 2)) t172 _ ?side1 ?side2 A4.out).mono ?_); (case side1=>exact qc (Kd.C_below HR1.out HB.out)); (case side2=>exact HC1.out); rintro e w7 ⟨v173,rfl,ho0,hb⟩; refine⟨_,rfl,?_⟩; have n0_:=Aside0.mk (Kd.R_lower ho0 (zbp (qb HB.out))); have n1_:=Aside0.mk (zbm (qb HB.out) hb); clear HB; have HO174:=n0_; have HB:=n1_; clear n0_ n1_; (try clear hb); (try clear hb2); (try clear hk); (try clear hi); (try clear ho0); obtain⟨Ao8,co8,eo8⟩:=Kd.R_slice HO174.out; subst eo8) | ((with_reducible refine zbz (f:=138) rfl ?_); refine zbK (some 20) rfl rfl Tryz.func138 (by kernel_rfl) rfl #[.slice Ao8 t172.length co8,.slice A0 l0.length c0] rfl (by (try simp only [List.map_toArray,List.map_cons,List.map_nil]); first | done | rfl | (simp only [List.length_drop,List.length_take]; rfl)) ?_; (with_reducible refine(fluxionref01_Cmp.calls k1 _ _ t172 _ _ l0 t175 _ ?side1 ?side2 ?side3 ?side4 A5.out).mono ?_); (case side1=>exact qc (Kd.R_reads' HO174.out).2.2); (case side2=>exact(Kd.R_reads' HO174.out).2.1); (case side3=>exact qc (Kd.C_below HR0.out HB.out)); (case side4=>exact HC0.out); rintro e w' ⟨rfl,⟨nd,rfl⟩⟩; refine⟨_,rfl,?_⟩))
     go_roundg k1
     case measure=>have:=HK1.out; omega
     case rel=>exact⟨(wrap64 (Int.tdiv (wrap64 (x5_1+x6_1)) 2)),(x6_1),(by first | rfl | (simp; done) | (simp [*]; done)),(by first | rfl | (simp; done) | (simp [*]; done)),H',⟨by have:=HK1.out; omega⟩,⟨by repeat (first | (with_reducible first | exact HB.out | apply zbn | apply zbo | apply zbs) | exact HB.out)⟩⟩
    ·
     rw [if_neg c6] at H
     have c6b0:decide (t175≤0)=false:=decide_eq_false c6
     clear c6
     have H':=Aside0.mk H
     clear H
     go_wp2_with (first | ((with_reducible refine zbz (f:=127) rfl ?_); refine zbK (some 18) rfl rfl Tryz.func127 (by kernel_rfl) rfl #[.slice A1 l1.length c1,.int .i64 (wrap64 (Int.tdiv (wrap64 (x5_1+x6_1)) 2))] rfl (by (try simp only [List.map_toArray,List.map_cons,List.map_nil]); first | done | rfl | (simp only [List.length_drop,List.length_take]; rfl)) ?_; (with_reducible refine(fluxionref01_Times.calls k1 _ _ l1 (wrap64 (Int.tdiv (wrap64 (x5_1+x6_1)) 2)) t172 _ ?side1 ?side2 A4.out).mono ?_); (case side1=>exact qc (Kd.C_below HR1.out HB.out)); (case side2=>exact HC1.out); rintro e w9 ⟨v173,rfl,ho0,hb⟩; refine⟨_,rfl,?_⟩; have n0_:=Aside0.mk (Kd.R_lower ho0 (zbp (qb HB.out))); have n1_:=Aside0.mk (zbm (qb HB.out) hb); clear HB; have HO174:=n0_; have HB:=n1_; clear n0_ n1_; (try clear hb); (try clear hb2); (try clear hk); (try clear hi); (try clear ho0); obtain⟨Ao10,co10,eo10⟩:=Kd.R_slice HO174.out; subst eo10) | ((with_reducible refine zbz (f:=138) rfl ?_); refine zbK (some 20) rfl rfl Tryz.func138 (by kernel_rfl) rfl #[.slice Ao10 t172.length co10,.slice A0 l0.length c0] rfl (by (try simp only [List.map_toArray,List.map_cons,List.map_nil]); first | done | rfl | (simp only [List.length_drop,List.length_take]; rfl)) ?_; (with_reducible refine(fluxionref01_Cmp.calls k1 _ _ t172 _ _ l0 t175 _ ?side1 ?side2 ?side3 ?side4 A5.out).mono ?_); (case side1=>exact qc (Kd.R_reads' HO174.out).2.2); (case side2=>exact(Kd.R_reads' HO174.out).2.1); (case side3=>exact qc (Kd.C_below HR0.out HB.out)); (case side4=>exact HC0.out); rintro e w' ⟨rfl,⟨nd,rfl⟩⟩; refine⟨_,rfl,?_⟩))
     go_roundg k1
     case measure=>have:=HK1.out; omega
     case rel=>exact⟨(x5_1),(wrap64 (Int.tdiv (wrap64 (x5_1+x6_1)) 2)),(by first | rfl | (simp; done) | (simp [*]; done)),(by first | rfl | (simp; done) | (simp [*]; done)),H',⟨by have:=HK1.out; omega⟩,⟨by repeat (first | (with_reducible first | exact HB.out | apply zbn | apply zbo | apply zbs) | exact HB.out)⟩⟩
   ·
    rw [if_neg c3] at H
    have c3b0:decide (1 < (wrap64 (x6_1-x5_1)))=false:=decide_eq_false c3
    clear c3
    obtain rfl:=Option.some.inj H
    go_wp2
    go_ret
    exact⟨by first | rfl | (simp [zbx,zbw]<;>rfl) | (simp [*,zbx,zbw]<;>rfl),by repeat (first | (with_reducible first | exact HB.out | apply zbn | apply zbo | apply zbs) | exact HB.out)⟩
def fluxionref02_DivMod.l0:Nat→List Int→List Int→List Int→List Int→Int→Option (List Int×List Int)
 | 0,_,_,_,_,_=>none
 | k+1,x0,x1,x7,x8,x9=>if x9 ≥ 0 then (if 0≤x9 then (if x9 < (x0.length:Int) then ((some (([rd x0 x9]:List Int):List Int)).bind fun y190=>(if y190.length+x8.length < 17592186044416 then ((fluxionref02_trim.f k (y190++x8)).bind fun t196=>((fluxionref02_digit.f k t196 x1).bind fun t199=>(if x9 < (x7.length:Int) then ((fluxionref01_Times.f k x1 t199).bind fun t201=>((fluxionref01_Sub.f k t196 t201).bind fun bt204=>(fluxionref02_DivMod.l0 k x0 x1 (x7.set (x9:Int).toNat t199) bt204.1 (wrap64 (x9-1))))) else (none)))) else (none))) else (none)) else (none)) else ((fluxionref02_trim.f k x7).bind fun t186=>(some (t186,x8)))
def fluxionref02_DivMod.f (k:Nat) (l0:List Int) (l1:List Int):Option (List Int×List Int):=if 0≤(mx (wrap64 ((wrap64 ((l0.length:Int)-(l1.length:Int)))+1)) 0) then (if (mx (wrap64 ((wrap64 ((l0.length:Int)-(l1.length:Int)))+1)) 0:Int).toNat≤35184372088832 then ((some (([]:List Int):List Int)).bind fun y179=>(if (mx (wrap64 ((wrap64 ((l0.length:Int)-(l1.length:Int)))+1)) 0)≤(l0.length:Int) then (if y179.length+(l0.drop ((mx (wrap64 ((wrap64 ((l0.length:Int)-(l1.length:Int)))+1)) 0):Int).toNat).length < 17592186044416 then (fluxionref02_DivMod.l0 k l0 l1 (List.replicate (mx (wrap64 ((wrap64 ((l0.length:Int)-(l1.length:Int)))+1)) 0:Int).toNat 0) (y179++(l0.drop ((mx (wrap64 ((wrap64 ((l0.length:Int)-(l1.length:Int)))+1)) 0):Int).toNat)) (wrap64 ((mx (wrap64 ((wrap64 ((l0.length:Int)-(l1.length:Int)))+1)) 0)-1))) else (none)) else (none))) else (none)) else (none)
theorem fluxionref02_DivMod.calls (k:Nat) (A0:Option Addr) (c0:Nat) (l0:List Int) (A1:Option Addr) (c1:Nat) (l1:List Int) (r1:List Int) (r2:List Int) (w:World) (hr0:Kd.C (Kd.int .i64) w A0 l0.length l0) (hc0:l0.length≤c0) (hr1:Kd.C (Kd.int .i64) w A1 l1.length l1) (hc1:l1.length≤c1) (h:fluxionref02_DivMod.f k l0 l1=some (r1,r2)) :
  Calls Tryz.prog 125 #[.slice A0 l0.length c0,.slice A1 l1.length c1] w fun e w'=>∃ v0_ v1_:Value,e=.returned (.tuple #[v0_,v1_])∧Kd.R (Kd.int .i64) 3 w' w.heap.size (fun k_=>some k_≠(v1_:Value).ownBlock) v0_ r1∧Kd.R (Kd.int .i64) 3 w' w.heap.size (fun k_=>some k_≠(v0_:Value).ownBlock) v1_ r2∧Below w.heap.size w w':=by
 have HR0:=Aside0.mk hr0
 have HC0:=Aside0.mk hc0
 clear hr0 hc0
 have HR1:=Aside0.mk hr1
 have HC1:=Aside0.mk hc1
 clear hr1 hc1
 have HB:=Aside0.mk (Below.refl w.heap.size w)
 have H:(if 0≤(mx (wrap64 ((wrap64 ((l0.length:Int)-(l1.length:Int)))+1)) 0) then (if (mx (wrap64 ((wrap64 ((l0.length:Int)-(l1.length:Int)))+1)) 0:Int).toNat≤35184372088832 then ((some (([]:List Int):List Int)).bind fun y179=>(if (mx (wrap64 ((wrap64 ((l0.length:Int)-(l1.length:Int)))+1)) 0)≤(l0.length:Int) then (if y179.length+(l0.drop ((mx (wrap64 ((wrap64 ((l0.length:Int)-(l1.length:Int)))+1)) 0):Int).toNat).length < 17592186044416 then (fluxionref02_DivMod.l0 k l0 l1 (List.replicate (mx (wrap64 ((wrap64 ((l0.length:Int)-(l1.length:Int)))+1)) 0:Int).toNat 0) (y179++(l0.drop ((mx (wrap64 ((wrap64 ((l0.length:Int)-(l1.length:Int)))+1)) 0):Int).toNat)) (wrap64 ((mx (wrap64 ((wrap64 ((l0.length:Int)-(l1.length:Int)))+1)) 0)-1))) else (none)) else (none))) else (none)) else (none))=some (r1,r2):=h
 clear h
 obtain⟨ji3,hji3⟩:∃ j_:Int,(mx (wrap64 ((wrap64 ((l0.length:Int)-(l1.length:Int)))+1)) 0)=j_:=⟨_,rfl⟩
 replace H:(if 0≤(ji3) then (if (ji3:Int).toNat≤35184372088832 then ((some (([]:List Int):List Int)).bind fun y179=>(if (ji3)≤(l0.length:Int) then (if y179.length+(l0.drop ((ji3):Int).toNat).length < 17592186044416 then (fluxionref02_DivMod.l0 k l0 l1 (List.replicate (ji3:Int).toNat 0) (y179++(l0.drop ((ji3):Int).toNat)) (wrap64 ((ji3)-1))) else (none)) else (none))) else (none)) else (none))=some (r1,r2):=by first | (rw [hji3] at H; exact H) | (simp only [hji3] at H ⊢; exact H)
 (try (have hji3l:0≤ji3:=by (rw [← hji3]; unfold mx; (repeat' split)<;>omega)))
 (try (have hji3m:0≤ji3:=by omega))
 have hji3_:(if (wrap64 ((wrap64 ((l0.length:Int)-(l1.length:Int)))+1)) < 0 then 0 else (wrap64 ((wrap64 ((l0.length:Int)-(l1.length:Int)))+1)))=ji3:=hji3
 by_cases c4:0≤(ji3)
 ·
  rw [if_pos c4] at H
  have c4b0:=eq_true c4
  have c4b1:decide (0≤(ji3))=true:=decide_eq_true c4
  clear c4
  by_cases c5:(ji3:Int).toNat≤35184372088832
  ·
   rw [if_pos c5] at H
   have c5b0:=eq_true c5
   have c5b1:decide ((ji3:Int).toNat≤35184372088832)=true:=decide_eq_true c5
   clear c5
   obtain⟨y176,hy176⟩:∃ y_:List Int,y_=(List.replicate (ji3:Int).toNat 0):=⟨_,rfl⟩
   replace H:((some (([]:List Int):List Int)).bind fun y179=>(if (ji3)≤(l0.length:Int) then (if y179.length+(l0.drop ((ji3):Int).toNat).length < 17592186044416 then (fluxionref02_DivMod.l0 k l0 l1 y176 (y179++(l0.drop ((ji3):Int).toNat)) (wrap64 ((ji3)-1))) else (none)) else (none)))=some (r1,r2):=by first | (rw [hy176]; with_reducible exact H) | (have H2_:=(Option.bind_some _ _).symm.trans H; rw [hy176]; with_reducible exact H2_) | (have H2_:=(Option.bind_some _ _).symm.trans H; with_reducible exact H2_) | with_reducible exact H | (rw [hy176]; exact H) | exact H
   have Ny176:=Aside0.mk hy176
   clear hy176
   obtain⟨y179,hy179⟩:∃ y_:List Int,y_=(([]:List Int)):=⟨_,rfl⟩
   replace H:(if (ji3)≤(l0.length:Int) then (if y179.length+(l0.drop ((ji3):Int).toNat).length < 17592186044416 then (fluxionref02_DivMod.l0 k l0 l1 y176 (y179++(l0.drop ((ji3):Int).toNat)) (wrap64 ((ji3)-1))) else (none)) else (none))=some (r1,r2):=by first | (rw [hy179]; with_reducible exact H) | (have H2_:=(Option.bind_some _ _).symm.trans H; rw [hy179]; with_reducible exact H2_) | (have H2_:=(Option.bind_some _ _).symm.trans H; with_reducible exact H2_) | with_reducible exact H | (rw [hy179]; exact H) | exact H
   have Ny179:=Aside0.mk hy179
   clear hy179
   have c6b0:=eq_true (of_decide_eq_true qs:0≤(ji3))
   by_cases c7:(ji3)≤(l0.length:Int)
   ·
    rw [if_pos c7] at H
    have c7b0:=eq_true c7
    have c7b1:decide ((ji3)≤(l0.length:Int))=true:=decide_eq_true c7
    clear c7
    by_cases c8:y179.length+(l0.drop ((ji3):Int).toNat).length < 17592186044416
    ·
     rw [if_pos c8] at H
     have LMc8:=Aside0.mk c8
     clear c8
     obtain⟨y183,hy183⟩:∃ y_:List Int,y_=(y179++(l0.drop ((ji3):Int).toNat)):=⟨_,rfl⟩
     replace H:(fluxionref02_DivMod.l0 k l0 l1 y176 y183 (wrap64 ((ji3)-1)))=some (r1,r2):=by first | (rw [hy183]; with_reducible exact H) | (have H2_:=(Option.bind_some _ _).symm.trans H; rw [hy183]; with_reducible exact H2_) | (have H2_:=(Option.bind_some _ _).symm.trans H; with_reducible exact H2_) | with_reducible exact H | (rw [hy183]; exact H) | exact H
     have Ny183:=Aside0.mk hy183
     clear hy183
     have H':=Aside0.mk H
     clear H
     go_enter Tryz.func125,Tryz.ntmps125
     go_wp2_with (first | ((with_reducible refine zbD (N:=21) rfl ?_); refine Kd.R_make (Kd.int .i64) _ 3 rfl (N:=21) rfl 38 _ _ rfl ji3 rfl rfl Tryz.underlying38 (.int .i64 0) 8 info3 rfl (by decide) (by omega) 0 (ok:=fun _=>True) (okp:=fun _=>True) rfl (fun _ hk=>hk) trivial (of_decide_eq_true qs) (Nat.le_trans (Nat.mul_le_mul_right _ (of_decide_eq_true qs:ji3.toNat≤35184372088832)) (by omega)) (Below.refl _ _) (Nat.le_refl _) ?_; intro v177 w9 ho10 hb hg_ hnew_; clear hg_ hnew_; (first | rw [← Ny176.out] at ho10 | (simp only [Int.reduceToNat] at ho10; rw [← Ny176.out] at ho10)); have n0_:=Aside0.mk (Kd.R_lower ho10 (zbp (qb HB.out))); have n1_:=Aside0.mk (zbm (qb HB.out) hb); clear HB; have HO178:=n0_; have HB:=n1_; clear n0_ n1_; clear hb ho10) | ((with_reducible refine zbD (N:=22) rfl ?_); refine Kd.R_lit (Kd.int .i64) _ 3 ?hg (N:=22) ?hd (xs:=([]:List Int)) (inner:=[]) (ok:=fun _=>True) (okp:=fun _=>True) ?hr ?hp (fun _ hk=>hk) trivial (Below.refl _ _) (Nat.le_refl _) (by simp) ?_; (case hd=>rfl); (case hg=>rfl); (case hr=>first | (go_simp; done) | (go_simp; rfl)); (case hp=>exact(Reps.none _ _)); intro v180 w11 ho12 hb hg_ hnew_; clear hg_ hnew_; (first | rw [← Ny179.out] at ho12 | (simp only [Int.reduceToNat] at ho12; rw [← Ny179.out] at ho12)); have n0_:=Aside0.mk (Kd.R_elder' (qr HO178.out) (Kd.R_base ho12) hb); have n1_:=Aside0.mk (Kd.R_lower (Kd.R_new' ho12 (Kd.R_lt (qr HO178.out))) (zbp (qb HB.out))); have n2_:=Aside0.mk (zbm (qb HB.out) hb); clear HO178; clear HB; have HO178:=n0_; have HO181:=n1_; have HB:=n2_; clear n0_ n1_ n2_; clear hb ho12; obtain⟨i013,hi013,_,hsz13,_⟩:=info_parts info3; obtain⟨A13,hcut13,hA13,hC13⟩:=print_drop_of (P:=Tryz.prog) (Value.int .i64) 0 38 3 .i64 Tryz.underlying38 hi013 hsz13 A0 c0 l0 (ji3) (of_decide_eq_true qs) (of_decide_eq_true qs) HC0.out; have HR182:=Aside0.mk (Kd.C_of_reads (h1:=fun _=>rfl) (hA13 _ (Kd.reads_of_C HR0.out))); have HC182:=Aside0.mk hC13; clear hA13 hC13 hi013 hsz13) | ((with_reducible refine zbO (b:=.append) (xs:=#[.tmp 22,.tmp 25]) rfl ?_); at_builtin; refine Kd.R_append_rows (Kd.int .i64) (w0:=w) w.heap.size rfl (.tmp 22) (.tmp 25) 38 3 (.int .i64 0) 8 rfl Tryz.underlying38 info3 rfl (by decide) (by omega) v180 y179 (l0.drop ((ji3):Int).toNat) _ _ _ (fun k_=>some k_≠(v177:Value).ownBlock) (fun _=>False) rfl rfl ?aO ?aR (fun _ _ h=>h) (fun _ h=>h.elim) ?aF ?aB ?aS ?aL ?_; (case aR=>first | (rw [← show (l0.drop ((ji3):Int).toNat).length=(l0.length-(ji3).toNat) from List.length_drop]; exact qc (Kd.C_below HR182.out HB.out)) | (exact qc (Kd.C_below HR182.out HB.out))); (case aB=>exact(qb HB.out)); (case aF=>exact(fun k_ hk=>Kd.fresh' (Kd.R_lt (qr HO178.out)) k_ hk)); (case aO=>exact(by (with_reducible repeat (first | apply Kd.R_alloc | apply Kd.R_drewN | apply Kd.R_drew)); exact Kd.R_mono HO181.out (fun _ hk=>hk.2))); (case aS=>exact(zbp (qb HB.out))); (case aL=>have:=LMc8.out; have hlx_:=(show (l0.drop ((ji3):Int).toNat).length=(l0.length-(ji3).toNat) from List.length_drop); omega); intro v184 w14 ho hb hg hat; rw [← Ny183.out] at ho; have n0_:=Aside0.mk (Kd.R_after (ok:=(fun _=>True)) (qr HO178.out) hg hat); have n1_:=Aside0.mk (hb); have n2_:=Aside0.mk (ho); clear HO178; clear HB; clear HO181; have HO178:=n0_; have HB:=n1_; have HO185:=n2_; clear n0_ n1_ n2_; clear ho hb hg hat))
     go_loopg [8,9] k (fun kq v8 v9 w'=>∃ (x7_1:List Int) (x8_1:List Int) (x9_1:Int),v9=.int .i64 x9_1∧Aside0 (fluxionref02_DivMod.l0 kq l0 l1 x7_1 x8_1 x9_1=some (r1,r2))∧Aside0 (kq≤k)∧Aside0 (Kd.R (Kd.int .i64) 3 w' w.heap.size (fun k_=>some k_≠(v8:Value).ownBlock) v177 x7_1)∧Aside0 (Kd.R (Kd.int .i64) 3 w' w.heap.size (fun k_=>some k_≠(v177:Value).ownBlock) v8 x8_1)∧Aside0 (Below w.heap.size w w'))
     case atStart=>exact⟨(y176),(y183),(wrap64 ((ji3)-1)),(by first | rfl | (simp; done) | (simp only [← hji3]<;>(first | rfl | simp)) | (simp [*]; done)),H',⟨Nat.le_refl _⟩,⟨by (with_reducible repeat (first | apply Kd.R_alloc | apply Kd.R_drewN | apply Kd.R_drew)); exact Kd.R_mono HO178.out (fun _ hk=>hk.2)⟩,⟨by (with_reducible repeat (first | apply Kd.R_alloc | apply Kd.R_drewN | apply Kd.R_drew)); exact HO185.out⟩,⟨by repeat (first | (with_reducible first | exact HB.out | apply zbn | apply zbo | apply zbs) | exact HB.out)⟩⟩
     case round =>
      clear H'
      try clear c1
      try clear p2
      try clear c4
      try clear c4b0
      try clear c4b1
      try clear c5
      try clear c5b0
      try clear c5b1
      try clear c6
      try clear c6b0
      try clear p6
      try clear c7
      try clear c7b0
      try clear c7b1
      try clear c8
      try clear c12
      obtain⟨x7_1,x8_1,x9_1,rfl,HA,HK1,HO_7,HO_8,HB⟩:=hrel
      cases gk with
      | zero=>exact absurd HA.out (by simp [fluxionref02_DivMod.l0])
      | succ k1 =>
       have H:=HA.out
       clear HA
       simp only [fluxionref02_DivMod.l0] at H
       by_cases c15:x9_1 ≥ 0
       ·
        rw [if_pos c15] at H
        have c15b0:decide (0≤x9_1)=true:=decide_eq_true c15
        clear c15
        by_cases c16:0≤x9_1
        ·
         rw [if_pos c16] at H
         have c16b0:decide (0≤x9_1)=true:=decide_eq_true c16
         clear c16
         by_cases c17:x9_1 < (l0.length:Int)
         ·
          rw [if_pos c17] at H
          have c17b0:decide (x9_1 < (l0.length:Int))=true:=decide_eq_true c17
          clear c17
          obtain⟨y190,hy190⟩:∃ y_:List Int,y_=(([rd l0 x9_1]:List Int)):=⟨_,rfl⟩
          replace H:(if y190.length+x8_1.length < 17592186044416 then ((fluxionref02_trim.f k1 (y190++x8_1)).bind fun t196=>((fluxionref02_digit.f k1 t196 l1).bind fun t199=>(if x9_1 < (x7_1.length:Int) then ((fluxionref01_Times.f k1 l1 t199).bind fun t201=>((fluxionref01_Sub.f k1 t196 t201).bind fun bt204=>(fluxionref02_DivMod.l0 k1 l0 l1 (x7_1.set (x9_1:Int).toNat t199) bt204.1 (wrap64 (x9_1-1))))) else (none)))) else (none))=some (r1,r2):=by first | (rw [hy190]; with_reducible exact H) | (have H2_:=(Option.bind_some _ _).symm.trans H; rw [hy190]; with_reducible exact H2_) | (have H2_:=(Option.bind_some _ _).symm.trans H; with_reducible exact H2_) | with_reducible exact H | (rw [hy190]; exact H) | exact H
          have Ny190:=Aside0.mk hy190
          clear hy190
          by_cases c18:y190.length+x8_1.length < 17592186044416
          ·
           rw [if_pos c18] at H
           have LMc18:=Aside0.mk c18
           clear c18
           obtain⟨y193,hy193⟩:∃ y_:List Int,y_=(y190++x8_1):=⟨_,rfl⟩
           replace H:((fluxionref02_trim.f k1 y193).bind fun t196=>((fluxionref02_digit.f k1 t196 l1).bind fun t199=>(if x9_1 < (x7_1.length:Int) then ((fluxionref01_Times.f k1 l1 t199).bind fun t201=>((fluxionref01_Sub.f k1 t196 t201).bind fun bt204=>(fluxionref02_DivMod.l0 k1 l0 l1 (x7_1.set (x9_1:Int).toNat t199) bt204.1 (wrap64 (x9_1-1))))) else (none))))=some (r1,r2):=by first | (rw [hy193]; with_reducible exact H) | (have H2_:=(Option.bind_some _ _).symm.trans H; rw [hy193]; with_reducible exact H2_) | (have H2_:=(Option.bind_some _ _).symm.trans H; with_reducible exact H2_) | with_reducible exact H | (rw [hy193]; exact H) | exact H
           have Ny193:=Aside0.mk hy193
           clear hy193
           replace H:=Option.bind_eq_some_iff.mp H
           obtain⟨t196,A190,H⟩:=H
           replace H:((fluxionref02_digit.f k1 t196 l1).bind fun t199=>(if x9_1 < (x7_1.length:Int) then ((fluxionref01_Times.f k1 l1 t199).bind fun t201=>((fluxionref01_Sub.f k1 t196 t201).bind fun bt204=>(fluxionref02_DivMod.l0 k1 l0 l1 (x7_1.set (x9_1:Int).toNat t199) bt204.1 (wrap64 (x9_1-1))))) else (none)))=some (r1,r2):=H
           have A19:=Aside0.mk A190
           clear A190
           replace H:=Option.bind_eq_some_iff.mp H
           obtain⟨t199,A200,H⟩:=H
           replace H:(if x9_1 < (x7_1.length:Int) then ((fluxionref01_Times.f k1 l1 t199).bind fun t201=>((fluxionref01_Sub.f k1 t196 t201).bind fun bt204=>(fluxionref02_DivMod.l0 k1 l0 l1 (x7_1.set (x9_1:Int).toNat t199) bt204.1 (wrap64 (x9_1-1))))) else (none))=some (r1,r2):=H
           have A20:=Aside0.mk A200
           clear A200
           by_cases c21:x9_1 < (x7_1.length:Int)
           ·
            rw [if_pos c21] at H
            have c21b0:decide (x9_1 < (x7_1.length:Int))=true:=decide_eq_true c21
            clear c21
            obtain⟨y200,hy200⟩:∃ y_:List Int,y_=(x7_1.set (x9_1:Int).toNat t199):=⟨_,rfl⟩
            replace H:((fluxionref01_Times.f k1 l1 t199).bind fun t201=>((fluxionref01_Sub.f k1 t196 t201).bind fun bt204=>(fluxionref02_DivMod.l0 k1 l0 l1 y200 bt204.1 (wrap64 (x9_1-1)))))=some (r1,r2):=by first | (rw [hy200]; with_reducible exact H) | (have H2_:=(Option.bind_some _ _).symm.trans H; rw [hy200]; with_reducible exact H2_) | (have H2_:=(Option.bind_some _ _).symm.trans H; with_reducible exact H2_) | with_reducible exact H | (rw [hy200]; exact H) | exact H
            have Ny200:=Aside0.mk hy200
            clear hy200
            replace H:=Option.bind_eq_some_iff.mp H
            obtain⟨t201,A230,H⟩:=H
            replace H:((fluxionref01_Sub.f k1 t196 t201).bind fun bt204=>(fluxionref02_DivMod.l0 k1 l0 l1 y200 bt204.1 (wrap64 (x9_1-1))))=some (r1,r2):=H
            have A23:=Aside0.mk A230
            clear A230
            replace H:=Option.bind_eq_some_iff.mp H
            obtain⟨⟨t204,t205⟩,A240,H⟩:=H
            replace H:(fluxionref02_DivMod.l0 k1 l0 l1 y200 t204 (wrap64 (x9_1-1)))=some (r1,r2):=H
            have A24:=Aside0.mk A240
            clear A240
            have H':=Aside0.mk H
            clear H
            have p189:0≤(x9_1:Int):=of_decide_eq_true qs
            have q189:x9_1 < (l0.length:Int):=of_decide_eq_true qs
            obtain⟨ad189,e189,hx189_0⟩:=Kd.at_int HR0.out x9_1 p189 q189
            cases e189
            replace hx189_0:=(HB.out.cell (World.block_lt_of_cell? w _ hx189_0)).trans hx189_0
            replace p189:=eq_true p189
            replace q189:=eq_true q189
            go_wp2_with (first | ((with_reducible refine zbD (N:=37) rfl ?_); refine Kd.R_lit (Kd.int .i64) _ 3 ?hg (N:=37) ?hd (xs:=([rd l0 x9_1]:List Int)) (inner:=[.int .i64 (rd l0 x9_1)]) (ok:=fun _=>True) (okp:=fun _=>True) ?hr ?hp (fun _ hk=>hk) trivial (Below.refl _ _) (Nat.le_refl _) (by simp) ?_; (case hd=>rfl); (case hg=>rfl); (case hr=>first | (go_simp; done) | (go_simp; rfl)); (case hp=>exact(Reps.one (show Kd.M (Kd.int .i64) _ _ _ (rd l0 x9_1) [.int .i64 (rd l0 x9_1)] from rfl) (Reps.none _ _))); intro v191 w25 ho26 hb hg_ hnew_; clear hg_ hnew_; (first | rw [← Ny190.out] at ho26 | (simp only [Int.reduceToNat] at ho26; rw [← Ny190.out] at ho26)); have n0_:=Aside0.mk (Kd.R_elder' (qr HO_7.out) (Kd.R_base ho26) hb); have n1_:=Aside0.mk (Kd.R_elder' (qr HO_8.out) (Kd.R_base ho26) hb); have n2_:=Aside0.mk (Kd.R_lower (Kd.R_new' (Kd.R_new' ho26 (Kd.R_lt (qr HO_7.out))) (Kd.R_lt (qr HO_8.out))) (zbp (qb HB.out))); have n3_:=Aside0.mk (zbm (qb HB.out) hb); clear HO_7; clear HO_8; clear HB; have HO_7:=n0_; have HO_8:=n1_; have HO192:=n2_; have HB:=n3_; clear n0_ n1_ n2_ n3_; clear hb ho26; obtain⟨Ao28,co28,eo28⟩:=Kd.R_slice HO_8.out; subst eo28) | ((with_reducible refine zbO (b:=.append) (xs:=#[.tmp 37,.tmp 38]) rfl ?_); at_builtin; refine Kd.R_append_rows (Kd.int .i64) (w0:=w) w.heap.size rfl (.tmp 37) (.tmp 38) 38 3 (.int .i64 0) 8 rfl Tryz.underlying38 info3 rfl (by decide) (by omega) v191 y190 x8_1 _ _ _ (fun k_=>some k_≠(v177:Value).ownBlock∧some k_≠(.slice Ao28 x8_1.length co28:Value).ownBlock) (fun _=>False) rfl rfl ?aO ?aR (fun _ _ h=>h) (fun _ h=>h.elim) ?aF ?aB ?aS ?aL ?_; (case aR=>exact qc (Kd.R_reads' HO_8.out).2.2); (case aB=>exact(qb HB.out)); (case aF=>exact(fun k_ hk=>⟨Kd.fresh' (Kd.R_lt (qr HO_7.out)) k_ hk,Kd.fresh' (Kd.R_lt (qr HO_8.out)) k_ hk⟩)); (case aO=>exact(by (with_reducible repeat (first | apply Kd.R_alloc | apply Kd.R_drewN | apply Kd.R_drew)); exact Kd.R_mono HO192.out (fun _ hk=>⟨hk.1.2,hk.2⟩))); (case aS=>exact(zbp (qb HB.out))); (case aL=>have:=LMc18.out; omega); intro v194 w27 ho hb hg hat; rw [← Ny193.out] at ho; have n0_:=Aside0.mk (Kd.R_after (ok:=(fun k_=>some k_≠(.slice Ao28 x8_1.length co28:Value).ownBlock)) (qr HO_7.out) hg hat); have n1_:=Aside0.mk (Kd.R_after (ok:=(fun k_=>some k_≠(v177:Value).ownBlock)) (qr HO_8.out) hg hat); have n2_:=Aside0.mk (hb); have n3_:=Aside0.mk (ho); clear HO_7; clear HO_8; clear HB; clear HO192; have HO_7:=n0_; have HO_8:=n1_; have HB:=n2_; have HO195:=n3_; clear n0_ n1_ n2_ n3_; clear ho hb hg hat; obtain⟨Ao29,co29,eo29⟩:=Kd.R_slice HO195.out; subst eo29) | ((with_reducible refine zbz (f:=152) rfl ?_); refine zbK (some 40) rfl rfl Tryz.func152 (by kernel_rfl) rfl #[.slice Ao29 y193.length co29] rfl (by (try simp only [List.map_toArray,List.map_cons,List.map_nil]); first | done | rfl | (simp only [List.length_drop,List.length_take]; rfl)) ?_; (with_reducible refine(fluxionref02_trim.calls k1 (fun k_=>some k_=(.slice Ao29 y193.length co29:Value).ownBlock) (.slice Ao29 y193.length co29) y193 t196 w _ ?side1 ?side2 A19.out).mono ?_); (case side1=>repeat (first | (with_reducible first | exact HB.out | apply zbn | apply zbo | apply zbs) | exact HB.out)); (case side2=>exact Kd.R_tight rfl HO195.out); rintro e w30 ⟨v197,rfl,ho0,hb,hkp⟩; refine⟨_,rfl,?_⟩; have n0_:=Aside0.mk (Kd.R_mono (ok':=fun k_=>some k_≠(.slice Ao28 x8_1.length co28:Value).ownBlock∧some k_≠(v197:Value).ownBlock) (Kd.R_keptB (HO_7.out) hkp (fun k_ hk_ hs_=>(hk_.2) hs_)) (fun k_ hk_=>⟨hk_.1.1,fun e_=>Or.elim (ho0.1 k_ e_.symm) (fun hs_=>hk_.2.1 hs_) (fun hn_=>Nat.not_le.2 hk_.2.2 hn_)⟩)); have n1_:=Aside0.mk (Kd.R_mono (ok':=fun k_=>some k_≠(v177:Value).ownBlock∧some k_≠(v197:Value).ownBlock) (Kd.R_keptB (HO_8.out) hkp (fun k_ hk_ hs_=>(hk_.2) hs_)) (fun k_ hk_=>⟨hk_.1.1,fun e_=>Or.elim (ho0.1 k_ e_.symm) (fun hs_=>hk_.2.1 hs_) (fun hn_=>Nat.not_le.2 hk_.2.2 hn_)⟩)); have n2_:=Aside0.mk (Kd.R_mono (ok':=fun k_=>some k_≠(v177:Value).ownBlock∧some k_≠(.slice Ao28 x8_1.length co28:Value).ownBlock) ho0 (fun k_ hk_=>⟨Or.elim hk_ (fun hs_=>fun e_=>(((HO_7.out).1 k_ e_.symm).2) hs_) (fun hn_=>(Kd.fresh' (Kd.R_lt (qr HO_7.out)) k_ hn_)),Or.elim hk_ (fun hs_=>fun e_=>(((HO_8.out).1 k_ e_.symm).2) hs_) (fun hn_=>(Kd.fresh' (Kd.R_lt (qr HO_8.out)) k_ hn_))⟩)); have n3_:=Aside0.mk (hb); clear HO_7; clear HO_8; clear HB; clear HO195; have HO_7:=n0_; have HO_8:=n1_; have HO198:=n2_; have HB:=n3_; clear n0_ n1_ n2_ n3_; (try clear hb); (try clear hkp); (try clear ho0); obtain⟨Ao31,co31,eo31⟩:=Kd.R_slice HO198.out; subst eo31) | ((with_reducible refine zbz (f:=153) rfl ?_); refine zbK (some 43) rfl rfl Tryz.func153 (by kernel_rfl) rfl #[.slice Ao31 t196.length co31,.slice A1 l1.length c1] rfl (by (try simp only [List.map_toArray,List.map_cons,List.map_nil]); first | done | rfl | (simp only [List.length_drop,List.length_take]; rfl)) ?_; (with_reducible refine(fluxionref02_digit.calls k1 _ _ t196 _ _ l1 t199 _ ?side1 ?side2 ?side3 ?side4 A20.out).mono ?_); (case side1=>exact qc (Kd.R_reads' HO198.out).2.2); (case side2=>exact(Kd.R_reads' HO198.out).2.1); (case side3=>exact qc (Kd.C_below HR1.out HB.out)); (case side4=>exact HC1.out); rintro e w32 ⟨rfl,hb⟩; refine⟨_,rfl,?_⟩; have n0_:=Aside0.mk (Kd.R_below (qr HO_7.out) hb); have n1_:=Aside0.mk (Kd.R_below (qr HO_8.out) hb); have n2_:=Aside0.mk (Kd.R_below (qr HO198.out) hb); have n3_:=Aside0.mk (zbm (qb HB.out) hb); clear HO_7; clear HO_8; clear HO198; clear HB; have HO_7:=n0_; have HO_8:=n1_; have HO198:=n2_; have HB:=n3_; clear n0_ n1_ n2_ n3_; (try clear hb); (try clear hb2); (try clear hk); (try clear hi); have p22:0≤(x9_1:Int):=of_decide_eq_true qs; have q22:(x9_1:Int) < ((x7_1.length:Int):Int):=of_decide_eq_true qs; obtain⟨go22,co22,eo22,gb22,gl22,cl22,HG22⟩:=Kd.R_form HO_7.out (by omega); (first | cases eo22 | (injection eo22 with ea_ en_ ec_; (first | subst ea_ | (injection ea_ with ea_; subst ea_)); subst ec_; clear en_)); have GB22:=Aside0.mk gb22; have GG22:=Aside0.mk HG22; clear gb22 gl22 HG22; obtain⟨hx22_0,hf22_0⟩:=Kd.R_celln 0 HO_7.out (x9_1:Int) p22 q22; replace p22:=eq_true p22; replace q22:=eq_true q22; obtain⟨hy33_,hz33_⟩:=Kd.R_celln 0 HO_7.out (x9_1:Int) (of_decide_eq_true qs) (of_decide_eq_true qs); have HP33:=Kd.R_putg HO_7.out (x9_1:Int) t199) | ((with_reducible refine gate_store (t:=3) (p:=47) rfl ?_); refine store_event (t:=3) (p:=47) (v:=?vo_w34) (w1:=(w32.setCell ⟨go22,(x9_1:Int).toNat,none⟩ (.int .i64 t199))) ?hg ?ho ?hn ?hr ?_; (case ho=>rfl); (case hg=>rfl); (case hn=>rfl); (case hr=>first | (go_simp; done) | (go_simp; rfl)); intro w34 hw; have hg:w32.grownBy w34 (some go22):=(by rw [hw]; exact HP33.2); have hp_:Kd.R (Kd.int .i64) 3 w34 w.heap.size (fun k_=>some k_≠(.slice Ao28 x8_1.length co28:Value).ownBlock∧some k_≠(.slice Ao31 t196.length co31:Value).ownBlock) (.slice (some ⟨go22,0,none⟩) x7_1.length co22) y200:=(by rw [hw,Ny200.out]; exact HP33.1); clear HP33; have n0_:=Aside0.mk (hp_); have n1_:=Aside0.mk (Kd.R_after (v:=(.slice (some ⟨go22,0,none⟩) x7_1.length co22)) (v1:=(.slice (some ⟨go22,0,none⟩) x7_1.length co22)) (ok:=(fun k_=>some k_≠(.slice Ao31 t196.length co31:Value).ownBlock)) (by (with_reducible repeat (first | apply Kd.R_alloc | apply Kd.R_drewN | apply Kd.R_drew)); exact Kd.R_mono HO_8.out (fun _ hk=>⟨hk.2,hk.1⟩)) hg (.inl rfl)); have n2_:=Aside0.mk (Kd.R_after (v:=(.slice (some ⟨go22,0,none⟩) x7_1.length co22)) (v1:=(.slice (some ⟨go22,0,none⟩) x7_1.length co22)) (ok:=(fun k_=>some k_≠(.slice Ao28 x8_1.length co28:Value).ownBlock)) (by (with_reducible repeat (first | apply Kd.R_alloc | apply Kd.R_drewN | apply Kd.R_drew)); exact Kd.R_mono HO198.out (fun _ hk=>⟨hk.2,hk.1⟩)) hg (.inl rfl)); have n3_:=Aside0.mk ((by rw [hw]; exact zbB (HB.out) GB22.out:Below w.heap.size w w34)); clear HO_7; clear HO_8; clear HO198; clear HB; have HO_7:=n0_; have HO_8:=n1_; have HO198:=n2_; have HB:=n3_; clear n0_ n1_ n2_ n3_; clear hg hw hp_) | ((with_reducible refine zbz (f:=127) rfl ?_); refine zbK (some 52) rfl rfl Tryz.func127 (by kernel_rfl) rfl #[.slice A1 l1.length c1,.int .i64 t199] rfl (by (try simp only [List.map_toArray,List.map_cons,List.map_nil]); first | done | rfl | (simp only [List.length_drop,List.length_take]; rfl)) ?_; (with_reducible refine(fluxionref01_Times.calls k1 _ _ l1 t199 t201 _ ?side1 ?side2 A23.out).mono ?_); (case side1=>exact qc (Kd.C_below HR1.out HB.out)); (case side2=>exact HC1.out); rintro e w35 ⟨v202,rfl,ho0,hb⟩; refine⟨_,rfl,?_⟩; have n0_:=Aside0.mk (Kd.R_elder' (qr HO_7.out) (Kd.R_base ho0) hb); have n1_:=Aside0.mk (Kd.R_elder' (qr HO_8.out) (Kd.R_base ho0) hb); have n2_:=Aside0.mk (Kd.R_elder' (qr HO198.out) (Kd.R_base ho0) hb); have n3_:=Aside0.mk (Kd.R_lower (Kd.R_new' (Kd.R_new' (Kd.R_new' ho0 (Kd.R_lt (qr HO_7.out))) (Kd.R_lt (qr HO_8.out))) (Kd.R_lt (qr HO198.out))) (zbp (qb HB.out))); have n4_:=Aside0.mk (zbm (qb HB.out) hb); clear HO_7; clear HO_8; clear HO198; clear HB; have HO_7:=n0_; have HO_8:=n1_; have HO198:=n2_; have HO203:=n3_; have HB:=n4_; clear n0_ n1_ n2_ n3_ n4_; (try clear hb); (try clear hb2); (try clear hk); (try clear hi); (try clear ho0); obtain⟨Ao36,co36,eo36⟩:=Kd.R_slice HO203.out; subst eo36) | ((with_reducible refine zbz (f:=143) rfl ?_); refine zbK (some 53) rfl rfl Tryz.func143 (by kernel_rfl) rfl #[.slice Ao31 t196.length co31,.slice Ao36 t201.length co36] rfl (by (try simp only [List.map_toArray,List.map_cons,List.map_nil]); first | done | rfl | (simp only [List.length_drop,List.length_take]; rfl)) ?_; (with_reducible refine(fluxionref01_Sub.calls k1 _ _ t196 _ _ t201 t204 t205 _ ?side1 ?side2 ?side3 ?side4 A24.out).mono ?_); (case side1=>exact qc (Kd.R_reads' HO198.out).2.2); (case side2=>exact(Kd.R_reads' HO198.out).2.1); (case side3=>exact qc (Kd.R_reads' HO203.out).2.2); (case side4=>exact(Kd.R_reads' HO203.out).2.1); rintro e w37 ⟨v206,rfl,ho0,hb⟩; refine⟨_,rfl,?_⟩; have n0_:=Aside0.mk (Kd.R_elder' (qr HO_7.out) (Kd.R_base ho0) hb); have n1_:=Aside0.mk (Kd.R_elder' (qr HO_8.out) (Kd.R_base ho0) hb); have n2_:=Aside0.mk (Kd.R_elder' (qr HO198.out) (Kd.R_base ho0) hb); have n3_:=Aside0.mk (Kd.R_elder' (qr HO203.out) (Kd.R_base ho0) hb); have n4_:=Aside0.mk (Kd.R_lower (Kd.R_new' (Kd.R_new' (Kd.R_new' (Kd.R_new' ho0 (Kd.R_lt (qr HO_7.out))) (Kd.R_lt (qr HO_8.out))) (Kd.R_lt (qr HO198.out))) (Kd.R_lt (qr HO203.out))) (zbp (qb HB.out))); have n5_:=Aside0.mk (zbm (qb HB.out) hb); clear HO_7; clear HO_8; clear HO198; clear HO203; clear HB; have HO_7:=n0_; have HO_8:=n1_; have HO198:=n2_; have HO203:=n3_; have HO207:=n4_; have HB:=n5_; clear n0_ n1_ n2_ n3_ n4_ n5_; (try clear hb); (try clear hb2); (try clear hk); (try clear hi); (try clear ho0)))
            go_roundg k1
            case measure=>have:=HK1.out; omega
            case rel=>exact⟨(y200),(t204),(wrap64 (x9_1-1)),(by first | rfl | (simp; done) | (simp [*]; done)),H',⟨by have:=HK1.out; omega⟩,⟨by (with_reducible repeat (first | apply Kd.R_alloc | apply Kd.R_drewN | apply Kd.R_drew)); exact Kd.R_mono HO_7.out (fun _ hk=>hk.2)⟩,⟨by (with_reducible repeat (first | apply Kd.R_alloc | apply Kd.R_drewN | apply Kd.R_drew)); exact Kd.R_mono HO207.out (fun _ hk=>hk.1.1.1.2)⟩,⟨by repeat (first | (with_reducible first | exact HB.out | apply zbn | apply zbo | apply zbs) | exact HB.out)⟩⟩
           ·
            rw [if_neg c21] at H
            exact absurd H (by simp)
          ·
           rw [if_neg c18] at H
           exact absurd H (by simp)
         ·
          rw [if_neg c17] at H
          exact absurd H (by simp)
        ·
         rw [if_neg c16] at H
         exact absurd H (by simp)
       ·
        rw [if_neg c15] at H
        have c15b0:decide (0≤x9_1)=false:=decide_eq_false c15
        clear c15
        replace H:=Option.bind_eq_some_iff.mp H
        obtain⟨t186,A380,H⟩:=H
        replace H:(some (t186,x8_1))=some (r1,r2):=H
        have A38:=Aside0.mk A380
        clear A380
        simp only [Option.some.injEq,Prod.mk.injEq] at H
        obtain⟨rfl,rfl⟩:=H
        obtain⟨Ao39,co39,eo39⟩:=Kd.R_slice HO_7.out
        subst eo39
        go_wp2_with (first | ((with_reducible refine zbz (f:=152) rfl ?_); refine zbK (some 58) rfl rfl Tryz.func152 (by kernel_rfl) rfl #[.slice Ao39 x7_1.length co39] rfl (by (try simp only [List.map_toArray,List.map_cons,List.map_nil]); first | done | rfl | (simp only [List.length_drop,List.length_take]; rfl)) ?_; (with_reducible refine(fluxionref02_trim.calls k1 (fun k_=>some k_=(.slice Ao39 x7_1.length co39:Value).ownBlock) (.slice Ao39 x7_1.length co39) x7_1 t186 w _ ?side1 ?side2 A38.out).mono ?_); (case side1=>repeat (first | (with_reducible first | exact HB.out | apply zbn | apply zbo | apply zbs) | exact HB.out)); (case side2=>exact Kd.R_tight rfl HO_7.out); rintro e w40 ⟨v187,rfl,ho0,hb,hkp⟩; refine⟨_,rfl,?_⟩; have n0_:=Aside0.mk (Kd.R_mono (ok':=fun k_=>some k_≠(v187:Value).ownBlock) (Kd.R_keptB (HO_8.out) hkp (fun k_ hk_ hs_=>(hk_) hs_)) (fun k_ hk_=>fun e_=>Or.elim (ho0.1 k_ e_.symm) (fun hs_=>hk_.2.1 hs_) (fun hn_=>Nat.not_le.2 hk_.2.2 hn_))); have n1_:=Aside0.mk (Kd.R_mono (ok':=fun k_=>some k_≠(u8:Value).ownBlock) ho0 (fun k_ hk_=>Or.elim hk_ (fun hs_=>fun e_=>(((HO_8.out).1 k_ e_.symm)) hs_) (fun hn_=>(Kd.fresh' (Kd.R_lt (qr HO_8.out)) k_ hn_)))); have n2_:=Aside0.mk (hb); clear HO_8; clear HB; clear HO_7; have HO_8:=n0_; have HO188:=n1_; have HB:=n2_; clear n0_ n1_ n2_; (try clear hb); (try clear hkp); (try clear ho0)))
        go_ret2
        exact⟨_,_,by first | rfl | (simp [zbx,zbw]<;>rfl) | (simp only [← hji3]; first | rfl | (simp [zbx,zbw]<;>rfl)) | (simp [*,zbx,zbw]<;>rfl),by (with_reducible repeat (first | apply Kd.R_alloc | apply Kd.R_drewN | apply Kd.R_drew)); exact HO188.out,by (with_reducible repeat (first | apply Kd.R_alloc | apply Kd.R_drewN | apply Kd.R_drew)); exact HO_8.out,by repeat (first | (with_reducible first | exact HB.out | apply zbn | apply zbo | apply zbs) | exact HB.out)⟩
    ·
     rw [if_neg c8] at H
     exact absurd H (by simp)
   ·
    rw [if_neg c7] at H
    exact absurd H (by simp)
  ·
   rw [if_neg c5] at H
   exact absurd H (by simp)
 ·
  rw [if_neg c4] at H
  exact absurd H (by simp)
def fluxionref02_Gcd.l0:Nat→List Int→List Int→Option (List Int)
 | 0,_,_=>none
 | k+1,x0,x1=>if (x1.length:Int) > 0 then ((fluxionref02_DivMod.f k x0 x1).bind fun bt208=>(fluxionref02_Gcd.l0 k x1 bt208.2)) else (some x0)
def fluxionref02_Gcd.f (k:Nat) (l0:List Int) (l1:List Int):Option (List Int):=fluxionref02_Gcd.l0 k l0 l1
theorem fluxionref02_Gcd.calls (k:Nat) (P0_:Nat→Prop) (A0:Option Addr) (c0:Nat) (l0:List Int) (P1_:Nat→Prop) (A1:Option Addr) (c1:Nat) (l1:List Int) (r:List Int) (w:World) (hs0:Kd.V (Kd.int .i64) 3 w w.heap.size (fun k_=>P0_ k_) (.slice A0 l0.length c0) l0) (hs1:Kd.V (Kd.int .i64) 3 w w.heap.size (fun k_=>P1_ k_) (.slice A1 l1.length c1) l1) (h:fluxionref02_Gcd.f k l0 l1=some r) :
  Calls Tryz.prog 124 #[.slice A0 l0.length c0,.slice A1 l1.length c1] w fun e w'=>∃ v0_:Value,e=.returned (v0_)∧Kd.V (Kd.int .i64) 3 w' w.heap.size (fun k_=>((P0_ k_∨P1_ k_)∨w.heap.size≤k_)) v0_ r∧Below w.heap.size w w':=by
 have HO0:=Aside0.mk (show Kd.V (Kd.int .i64) 3 w w.heap.size (fun k_=>((P0_ k_∨P1_ k_)∨w.heap.size≤k_)) (.slice A0 l0.length c0) l0 from Kd.V_mono hs0 (fun k_ hk=>.inl (.inl hk)))
 have HO1:=Aside0.mk (show Kd.V (Kd.int .i64) 3 w w.heap.size (fun k_=>((P0_ k_∨P1_ k_)∨w.heap.size≤k_)) (.slice A1 l1.length c1) l1 from Kd.V_mono hs1 (fun k_ hk=>.inl (.inr hk)))
 have HB:=Aside0.mk (Below.refl w.heap.size w)
 have H:(fluxionref02_Gcd.l0 k l0 l1)=some r:=h
 clear h
 have H':=Aside0.mk H
 clear H
 go_enter Tryz.func124,Tryz.ntmps124
 go_wp2
 go_loopg [0,1] k (fun kq v0 v1 w'=>∃ (x0_1:List Int) (x1_1:List Int),Aside0 (fluxionref02_Gcd.l0 kq x0_1 x1_1=some r)∧Aside0 (kq≤k)∧Aside0 (Kd.V (Kd.int .i64) 3 w' w.heap.size (fun k_=>((P0_ k_∨P1_ k_)∨w.heap.size≤k_)) v0 x0_1)∧Aside0 (Kd.V (Kd.int .i64) 3 w' w.heap.size (fun k_=>((P0_ k_∨P1_ k_)∨w.heap.size≤k_)) v1 x1_1)∧Aside0 (Below w.heap.size w w'))
 case atStart=>exact⟨(l0),(l1),H',⟨Nat.le_refl _⟩,⟨by (with_reducible repeat (first | apply Kd.V_alloc | apply Kd.V_drewN | apply Kd.V_drew)); exact HO0.out⟩,⟨by (with_reducible repeat (first | apply Kd.V_alloc | apply Kd.V_drewN | apply Kd.V_drew)); exact HO1.out⟩,⟨by repeat (first | (with_reducible first | exact HB.out | apply zbn | apply zbo | apply zbs) | exact HB.out)⟩⟩
 case round =>
  clear H'
  try clear c1
  try clear p2
  obtain⟨x0_1,x1_1,HA,HK1,HO_0,HO_1,HB⟩:=hrel
  cases gk with
  | zero=>exact absurd HA.out (by simp [fluxionref02_Gcd.l0])
  | succ k1 =>
   have H:=HA.out
   clear HA
   simp only [fluxionref02_Gcd.l0] at H
   by_cases c3:(x1_1.length:Int) > 0
   ·
    rw [if_pos c3] at H
    have c3b0:decide (0 < (x1_1.length:Int))=true:=decide_eq_true c3
    have c3b1:decide (0 < x1_1.length)=true:=decide_eq_true (by omega)
    clear c3
    replace H:=Option.bind_eq_some_iff.mp H
    obtain⟨⟨t208,t209⟩,A40,H⟩:=H
    replace H:(fluxionref02_Gcd.l0 k1 x1_1 t209)=some r:=H
    have A4:=Aside0.mk A40
    clear A40
    have H':=Aside0.mk H
    clear H
    obtain⟨Ao5,co5,eo5⟩:=Kd.V_slice HO_1.out
    subst eo5
    obtain⟨Ao6,co6,eo6⟩:=Kd.V_slice HO_0.out
    subst eo6
    go_wp2_with (first | ((with_reducible refine zbz (f:=125) rfl ?_); refine zbK (some 13) rfl rfl Tryz.func125 (by kernel_rfl) rfl #[.slice Ao6 x0_1.length co6,.slice Ao5 x1_1.length co5] rfl (by (try simp only [List.map_toArray,List.map_cons,List.map_nil]); first | done | rfl | (simp only [List.length_drop,List.length_take]; rfl)) ?_; (with_reducible refine(fluxionref02_DivMod.calls k1 _ _ x0_1 _ _ x1_1 t208 t209 _ ?side1 ?side2 ?side3 ?side4 A4.out).mono ?_); (case side1=>exact qc (Kd.V_reads' HO_0.out).2.2); (case side2=>exact(Kd.V_reads' HO_0.out).2.1); (case side3=>exact qc (Kd.V_reads' HO_1.out).2.2); (case side4=>exact(Kd.V_reads' HO_1.out).2.1); rintro e w7 ⟨v210,v212,rfl,ho0,ho1,hb⟩; refine⟨_,rfl,?_⟩; have n0_:=Aside0.mk (Kd.V_mono (Kd.V_told (Kd.V_told (Kd.V_old (by (with_reducible repeat (first | apply Kd.V_alloc | apply Kd.V_drewN | apply Kd.V_drew)); exact HO_0.out) hb) (Kd.R_base ho0)) (Kd.R_base ho1)) (fun _ h_=>h_.1)); have n1_:=Aside0.mk (Kd.V_mono (Kd.V_told (Kd.V_told (Kd.V_old (by (with_reducible repeat (first | apply Kd.V_alloc | apply Kd.V_drewN | apply Kd.V_drew)); exact HO_1.out) hb) (Kd.R_base ho0)) (Kd.R_base ho1)) (fun _ h_=>h_.1)); have n2_:=Aside0.mk (Kd.R_lower (Kd.R_newM (M:=fun k_=>(w.heap.size≤k_)) ho0 (zbp (qb HB.out)) (fun k_ h_=>h_)) (zbp (qb HB.out))); have n3_:=Aside0.mk (Kd.R_lower (Kd.R_newM (M:=fun k_=>(w.heap.size≤k_)) ho1 (zbp (qb HB.out)) (fun k_ h_=>h_)) (zbp (qb HB.out))); have n4_:=Aside0.mk (zbm (qb HB.out) hb); clear HO_0; clear HO_1; clear HB; have HO_0:=n0_; have HO_1:=n1_; have HO211:=n2_; have HO213:=n3_; have HB:=n4_; clear n0_ n1_ n2_ n3_ n4_; (try clear hb); (try clear hb2); (try clear hk); (try clear hi); (try clear ho0); (try clear ho1)))
    go_roundg k1
    case measure=>have:=HK1.out; omega
    case rel=>exact⟨(x1_1),(t209),H',⟨by have:=HK1.out; omega⟩,⟨by (with_reducible repeat (first | apply Kd.V_alloc | apply Kd.V_drewN | apply Kd.V_drew)); exact Kd.V_mono HO_1.out (fun _ hk=>hk.1.1)⟩,⟨Kd.V_mono (Kd.R_V (by (with_reducible repeat (first | apply Kd.R_alloc | apply Kd.R_drewN | apply Kd.R_drew)); exact Kd.R_mono HO213.out (fun _ hk=>hk.1))) (fun k_ hk=>by first | exact⟨(.inr (hk.1)),hk.2⟩ | exact(.inr (hk)))⟩,⟨by repeat (first | (with_reducible first | exact HB.out | apply zbn | apply zbo | apply zbs) | exact HB.out)⟩⟩
   ·
    rw [if_neg c3] at H
    have c3b0:decide (0 < (x1_1.length:Int))=false:=decide_eq_false c3
    have c3b1:decide (0 < x1_1.length)=false:=decide_eq_false (by omega)
    clear c3
    obtain rfl:=Option.some.inj H
    obtain⟨Ao8,co8,eo8⟩:=Kd.V_slice HO_1.out
    subst eo8
    go_wp2
    go_ret
    exact⟨_,by first | rfl | (simp [zbx,zbw]<;>rfl) | (simp [*,zbx,zbw]<;>rfl),by (with_reducible repeat (first | apply Kd.V_alloc | apply Kd.V_drewN | apply Kd.V_drew)); exact HO_0.out,by repeat (first | (with_reducible first | exact HB.out | apply zbn | apply zbo | apply zbs) | exact HB.out)⟩
def fluxionref03_Make.j0:Nat→Bool→List Int→List Int→Bool→Option (Bool×List Int×List Int)
 | 0,_,_,_,_=>none
 | k+1,x0,x1,x2,x19=>if x19=true then (some (false,([]:List Int),(([1]:List Int)))) else ((fluxionref02_Gcd.f k x1 x2).bind fun t218=>((fluxionref02_DivMod.f k x1 t218).bind fun bt221=>((fluxionref02_DivMod.f k x2 t218).bind fun bt227=>(some (x0,bt221.1,bt227.1)))))
def fluxionref03_Make.f (k:Nat) (a0:Bool) (l1:List Int) (l2:List Int):Option (Bool×List Int×List Int):=if (l1.length:Int)=0 then (fluxionref03_Make.j0 k a0 l1 l2 true) else (fluxionref03_Make.j0 k a0 l1 l2 ((l2.length:Int) == 0))
theorem fluxionref03_Make.calls (k:Nat) (a0:Bool) (A1:Option Addr) (c1:Nat) (l1:List Int) (A2:Option Addr) (c2:Nat) (l2:List Int) (r1:Bool) (r2:List Int) (r3:List Int) (w:World) (hr1:Kd.C (Kd.int .i64) w A1 l1.length l1) (hc1:l1.length≤c1) (hr2:Kd.C (Kd.int .i64) w A2 l2.length l2) (hc2:l2.length≤c2) (h:fluxionref03_Make.f k a0 l1 l2=some (r1,r2,r3)) :
  Calls Tryz.prog 76 #[.bool a0,.slice A1 l1.length c1,.slice A2 l2.length c2] w fun e w'=>∃ v1_ v2_:Value,e=.returned (.agg #[.bool r1,v1_,v2_])∧Kd.R (Kd.int .i64) 3 w' w.heap.size (fun k_=>some k_≠(v2_:Value).ownBlock) v1_ r2∧Kd.R (Kd.int .i64) 3 w' w.heap.size (fun k_=>some k_≠(v1_:Value).ownBlock) v2_ r3∧Below w.heap.size w w':=by
 have hu40:=Tryz.underlying40
 have HR1:=Aside0.mk hr1
 have HC1:=Aside0.mk hc1
 clear hr1 hc1
 have HR2:=Aside0.mk hr2
 have HC2:=Aside0.mk hc2
 clear hr2 hc2
 have HB:=Aside0.mk (Below.refl w.heap.size w)
 have H:(if (l1.length:Int)=0 then (fluxionref03_Make.j0 k a0 l1 l2 true) else (fluxionref03_Make.j0 k a0 l1 l2 ((l2.length:Int) == 0)))=some (r1,r2,r3):=h
 clear h
 have HC4:=Aside0.mk H
 clear H
 go_enter Tryz.func76,Tryz.ntmps76
 go_upto_region 1 with (first | ((with_reducible refine zbD (N:=6) rfl ?_); (try (refine gate_guard (by rfl) ?_; dsimp only)); refine zbC ?hg (N:=6) ?hd (cs:=#[.bool false,.slice none 0 0,.slice none 0 0]) (t:=40) ?hr ?_; (case hd=>rfl); (case hg=>rfl); (case hr=>first | (go_simp; done) | (go_simp; rfl)); intro gb214 hg w5 hbox hb; have n0_:=Aside0.mk (zbm (qb HB.out) hb); have n1_:=Aside0.mk (hbox); have n2_:=Aside0.mk ((by rw [hg]; exact(zbp (qb HB.out)):w.heap.size≤gb214)); have n3_:=Aside0.mk ((by rw [hg]; exact(zbp (qb HB.out)):w.heap.size≤gb214)); clear HB; have HB:=n0_; have BK214:=n1_; have GW214:=n2_; have GE214:=n3_; clear n0_ n1_ n2_ n3_; clear hb hbox hg))
 (try simp only [Act.put,zA1,zA2,zA3])
 go_cut [19] (fun v19 wc=>∃ (kq:Nat) (x19_3:Bool),v19=.bool x19_3∧Aside0 (fluxionref03_Make.j0 kq a0 l1 l2 x19_3=some (r1,r2,r3))∧Aside0 (kq≤k)∧Aside0 (wc.heap[gb214]? = some (.cells #[.bool false,(.slice none 0 0),(.slice none 0 0)] 40 (0,0)))∧Aside0 (Below w.heap.size w wc))
 case first =>
  have H:=HC4.out
  clear HC4
  by_cases c6:(l1.length:Int)=0
  ·
   rw [if_pos c6] at H
   have c6b0:((l1.length:Int) == 0)=true:=beq_iff_eq.mpr c6
   have c6b1:((l1.length:Int) != 0)=false:=bne_eq_false_iff_eq.mpr c6
   clear c6
   (first | rw [c6b0] | (simp only [zcb,zcw]; rw [c6b0]) | skip)
   have H':=Aside0.mk H
   clear H
   go_wp2
   go_meet
   case rel=>exact⟨_,(true),(by first | rfl | (simp; done) | (simp [*]; done)),H',⟨by first | omega | exact Nat.le_refl _⟩,⟨by (with_reducible repeat (first | refine zbv ?_ _ | refine zbu ?_ | refine zbt ?_ _)); exact BK214.out⟩,⟨by repeat (first | (with_reducible first | exact HB.out | apply zbn | apply zbo | apply zbs | refine zbB ?_ GE214.out) | exact HB.out)⟩⟩
  ·
   rw [if_neg c6] at H
   have c6b0:((l1.length:Int) == 0)=false:=beq_eq_false_iff_ne.mpr c6
   have c6b1:((l1.length:Int) != 0)=true:=bne_iff_ne.mpr c6
   have c6b2:¬ (l1=[]):=fun h_=>c6 (by rw [h_]; rfl)
   (first | rw [c6b0] | (simp only [zcb,zcw]; rw [c6b0]) | skip)
   have H':=Aside0.mk H
   clear H
   go_wp2
   go_meet
   case rel=>exact⟨_,(((l2.length:Int) == 0)),(by first | rfl | (simp; done) | (simp [*]; done)),H',⟨by first | omega | exact Nat.le_refl _⟩,⟨by (with_reducible repeat (first | refine zbv ?_ _ | refine zbu ?_ | refine zbt ?_ _)); exact BK214.out⟩,⟨by repeat (first | (with_reducible first | exact HB.out | apply zbn | apply zbo | apply zbs | refine zbB ?_ GE214.out) | exact HB.out)⟩⟩
 case rest =>
  clear HC4
  try clear c1
  try clear c2
  try clear p2
  try clear c6
  try clear c6b0
  try clear c6b1
  try clear c6b2
  obtain⟨kq,x19_3,rfl,HA,HJ3,BK214,HB⟩:=hcut
  cases kq with
  | zero=>exact absurd HA.out (by simp [fluxionref03_Make.j0])
  | succ kj3 =>
   have H:=HA.out
   clear HA
   simp only [fluxionref03_Make.j0] at H
   by_cases c7:x19_3=true
   ·
    subst c7
    have H1:(some (false,([]:List Int),(([1]:List Int))))=some (r1,r2,r3):=by rw [if_pos rfl] at H; exact H
    clear H
    have H:=H1
    clear H1
    obtain⟨y215,hy215⟩:∃ y_:List Int,y_=(([1]:List Int)):=⟨_,rfl⟩
    replace H:(some (false,([]:List Int),y215))=some (r1,r2,r3):=by first | (rw [hy215]; with_reducible exact H) | (have H2_:=(Option.bind_some _ _).symm.trans H; rw [hy215]; with_reducible exact H2_) | (have H2_:=(Option.bind_some _ _).symm.trans H; with_reducible exact H2_) | with_reducible exact H | (rw [hy215]; exact H) | exact H
    have Ny215:=Aside0.mk hy215
    clear hy215
    simp only [Option.some.injEq,Prod.mk.injEq] at H
    obtain⟨rfl,rfl,rfl⟩:=H
    go_wp2_with (first | ((with_reducible refine zbD (N:=20) rfl ?_); (try (refine gate_guard (by rfl) ?_; dsimp only)); refine Kd.R_lit (Kd.int .i64) _ 3 ?hg (N:=20) ?hd (xs:=([1]:List Int)) (inner:=[.int .i64 1]) (ok:=fun _=>True) (okp:=fun _=>True) ?hr ?hp (fun _ hk=>hk) trivial (Below.refl _ _) (Nat.le_refl _) (by simp) ?_; (case hd=>rfl); (case hg=>rfl); (case hr=>first | (go_simp; done) | (go_simp; rfl)); (case hp=>exact(Reps.one (show Kd.M (Kd.int .i64) _ _ _ 1 [.int .i64 1] from rfl) (Reps.none _ _))); intro v216 w8 ho9 hb hg_ hnew_; clear hg_ hnew_; (first | rw [← Ny215.out] at ho9 | (simp only [Int.reduceToNat] at ho9; rw [← Ny215.out] at ho9)); have n0_:=Aside0.mk (Kd.R_lower ho9 (zbp (qb1 HB.out GE214.out))); have n1_:=Aside0.mk (zbr (g:=gb214) (o:=.cells #[.bool false,.slice none 0 0,.slice none 0 0] 40 (0,0)) (qk BK214.out) hb); have n2_:=Aside0.mk (zbm (qb1 HB.out GE214.out) hb); clear BK214; clear HB; have HO217:=n0_; have BK214:=n1_; have HB:=n2_; clear n0_ n1_ n2_; clear hb ho9; obtain⟨Ao10,co10,eo10⟩:=Kd.R_slice HO217.out; subst eo10; obtain⟨hcz11_0,hcz11_1,hcz11_2,hfz11_0,hfz11_1,hfz11_2⟩:=qz BK214.out))
    refine bodyPost_ret (results_cell_row rfl _ _ gb214 40 #[.bool false,.slice none 0 0,.slice Ao10 y215.length co10] (0,0) _ rfl (by (with_reducible repeat (first | refine zbv ?_ _ | refine zbu ?_ | refine zbt ?_ _)); refine zbF (cs:=#[.bool false,.slice none 0 0,.slice none 0 0]) ?_ 2 _ rfl; (with_reducible repeat (first | refine zbv ?_ _ | refine zbu ?_ | refine zbt ?_ _)); refine zbF (cs:=#[.bool false,.slice none 0 0,.slice none 0 0]) ?_ 1 _ rfl; (with_reducible repeat (first | refine zbv ?_ _ | refine zbu ?_ | refine zbt ?_ _)); refine zbF (cs:=#[.bool false,.slice none 0 0,.slice none 0 0]) ?_ 0 _ rfl; (with_reducible repeat (first | refine zbv ?_ _ | refine zbu ?_ | refine zbt ?_ _)); exact BK214.out) Tryz.underlying40 rfl (by kernel_rfl)) rfl ?_
    exact⟨_,_,by first | rfl | (simp [zbx,zbw]<;>rfl) | (simp [*,zbx,zbw]<;>rfl),by first | exact Kd.R_nil _ _ _ _ _ | exact Kd.N_nil _ _ _ _ _ | exact Kd.V_nil _ _ _ _ _ | exact Kd.Q_nil _ _ _ _ _ | exact Kd.S_nil _ _ _ _ _,by (with_reducible repeat (first | apply Kd.R_alloc | apply Kd.R_drewN | apply Kd.R_drew)); exact Kd.R_mono (Kd.R_far (p:=⟨gb214,2,none⟩) (Kd.R_far (p:=⟨gb214,1,none⟩) (Kd.R_far (p:=⟨gb214,0,none⟩) (Kd.R_types HO217.out BK214.out (by decide)) (fun _ hk=>hk.2) (.bool false)) (fun _ hk=>hk.2) (.slice none 0 0)) (fun _ hk=>hk.2) (.slice Ao10 y215.length co10)) (fun _ hk=>(by simp [Value.ownBlock])),by repeat (first | (with_reducible first | exact HB.out | apply zbn | apply zbo | apply zbs | refine zbB ?_ GE214.out) | exact HB.out)⟩
   ·
    replace c7:=Bool.eq_false_iff.mpr c7
    subst c7
    have H1:((fluxionref02_Gcd.f kj3 l1 l2).bind fun t218=>((fluxionref02_DivMod.f kj3 l1 t218).bind fun bt221=>((fluxionref02_DivMod.f kj3 l2 t218).bind fun bt227=>(some (a0,bt221.1,bt227.1)))))=some (r1,r2,r3):=by rw [if_neg (show ¬ (false=true) by decide)] at H; exact H
    clear H
    have H:=H1
    clear H1
    replace H:=Option.bind_eq_some_iff.mp H
    obtain⟨t218,A120,H⟩:=H
    replace H:((fluxionref02_DivMod.f kj3 l1 t218).bind fun bt221=>((fluxionref02_DivMod.f kj3 l2 t218).bind fun bt227=>(some (a0,bt221.1,bt227.1))))=some (r1,r2,r3):=H
    have A12:=Aside0.mk A120
    clear A120
    replace H:=Option.bind_eq_some_iff.mp H
    obtain⟨⟨t221,t222⟩,A130,H⟩:=H
    replace H:((fluxionref02_DivMod.f kj3 l2 t218).bind fun bt227=>(some (a0,t221,bt227.1)))=some (r1,r2,r3):=H
    have A13:=Aside0.mk A130
    clear A130
    replace H:=Option.bind_eq_some_iff.mp H
    obtain⟨⟨t227,t228⟩,A140,H⟩:=H
    replace H:(some (a0,t221,t227))=some (r1,r2,r3):=H
    have A14:=Aside0.mk A140
    clear A140
    simp only [Option.some.injEq,Prod.mk.injEq] at H
    obtain⟨rfl,rfl,rfl⟩:=H
    go_wp2_with (first | ((with_reducible refine zbz (f:=124) rfl ?_); refine zbK (some 24) rfl rfl Tryz.func124 (by kernel_rfl) rfl #[.slice A1 l1.length c1,.slice A2 l2.length c2] rfl (by (try simp only [List.map_toArray,List.map_cons,List.map_nil]); first | done | rfl | (simp only [List.length_drop,List.length_take]; rfl)) ?_; (with_reducible refine(fluxionref02_Gcd.calls kj3 (fun k_=>k_ < w.heap.size) _ _ l1 (fun k_=>k_ < w.heap.size) _ _ l2 t218 _ ?side1 ?side2 A12.out).mono ?_); (case side1=>exact Kd.V_mk HC1.out (Kd.F_below (Kd.C_F (Kd.heap_int .i64) HR1.out) (qb1 HB.out GE214.out))); (case side2=>exact Kd.V_mk HC2.out (Kd.F_below (Kd.C_F (Kd.heap_int .i64) HR2.out) (qb1 HB.out GE214.out))); rintro e w15 ⟨v219,rfl,ho0,hb⟩; refine⟨_,rfl,?_⟩; have n0_:=Aside0.mk (Kd.V_lower (Kd.V_mono (ok':=fun k_=>k_≠gb214) ho0 (fun k_ hk_=>Or.elim hk_ (fun hs_=>Or.elim hs_ (fun hs_=>fun e_=>Nat.not_le.2 hs_ (by rw [e_]; exact GW214.out)) (fun hs_=>fun e_=>Nat.not_le.2 hs_ (by rw [e_]; exact GW214.out))) (fun hn_=>(Kd.freshB (g:=gb214) (o:=.cells #[.bool false,.slice none 0 0,.slice none 0 0] 40 (0,0)) (qk BK214.out) k_ hn_)))) (zbp (qb1 HB.out GE214.out))); have n1_:=Aside0.mk (zbr (g:=gb214) (o:=.cells #[.bool false,.slice none 0 0,.slice none 0 0] 40 (0,0)) (qk BK214.out) hb); have n2_:=Aside0.mk (zbm (qb1 HB.out GE214.out) hb); clear BK214; clear HB; have HO220:=n0_; have BK214:=n1_; have HB:=n2_; clear n0_ n1_ n2_; (try clear hb); (try clear hb2); (try clear hk); (try clear hi); (try clear ho0); obtain⟨Ao16,co16,eo16⟩:=Kd.V_slice HO220.out; subst eo16) | ((with_reducible refine zbz (f:=125) rfl ?_); refine zbK (some 28) rfl rfl Tryz.func125 (by kernel_rfl) rfl #[.slice A1 l1.length c1,.slice Ao16 t218.length co16] rfl (by (try simp only [List.map_toArray,List.map_cons,List.map_nil]); first | done | rfl | (simp only [List.length_drop,List.length_take]; rfl)) ?_; (with_reducible refine(fluxionref02_DivMod.calls kj3 _ _ l1 _ _ t218 t221 t222 _ ?side1 ?side2 ?side3 ?side4 A13.out).mono ?_); (case side1=>exact qc (Kd.C_below HR1.out HB.out)); (case side2=>exact HC1.out); (case side3=>exact qc (Kd.V_reads' HO220.out).2.2); (case side4=>exact(Kd.V_reads' HO220.out).2.1); rintro e w17 ⟨v223,v225,rfl,ho0,ho1,hb⟩; refine⟨_,rfl,?_⟩; have n0_:=Aside0.mk (Kd.V_mono (Kd.V_told (Kd.V_told (Kd.V_old (by (with_reducible repeat (first | apply Kd.V_alloc | apply Kd.V_drewN | apply Kd.V_drew)); exact HO220.out) hb) (Kd.R_base ho0)) (Kd.R_base ho1)) (fun _ h_=>h_.1)); have n1_:=Aside0.mk (Kd.R_lower ho0 (zbp (qb1 HB.out GE214.out))); have n2_:=Aside0.mk (Kd.R_lower ho1 (zbp (qb1 HB.out GE214.out))); have n3_:=Aside0.mk (zbr (g:=gb214) (o:=.cells #[.bool false,.slice none 0 0,.slice none 0 0] 40 (0,0)) (qk BK214.out) hb); have n4_:=Aside0.mk (zbm (qb1 HB.out GE214.out) hb); clear HO220; clear BK214; clear HB; have HO220:=n0_; have HO224:=n1_; have HO226:=n2_; have BK214:=n3_; have HB:=n4_; clear n0_ n1_ n2_ n3_ n4_; (try clear hb); (try clear hb2); (try clear hk); (try clear hi); (try clear ho0); (try clear ho1)) | ((with_reducible refine zbz (f:=125) rfl ?_); refine zbK (some 34) rfl rfl Tryz.func125 (by kernel_rfl) rfl #[.slice A2 l2.length c2,.slice Ao16 t218.length co16] rfl (by (try simp only [List.map_toArray,List.map_cons,List.map_nil]); first | done | rfl | (simp only [List.length_drop,List.length_take]; rfl)) ?_; (with_reducible refine(fluxionref02_DivMod.calls kj3 _ _ l2 _ _ t218 t227 t228 _ ?side1 ?side2 ?side3 ?side4 A14.out).mono ?_); (case side1=>exact qc (Kd.C_below HR2.out HB.out)); (case side2=>exact HC2.out); (case side3=>exact qc (Kd.V_reads' HO220.out).2.2); (case side4=>exact(Kd.V_reads' HO220.out).2.1); rintro e w18 ⟨v229,v231,rfl,ho0,ho1,hb⟩; refine⟨_,rfl,?_⟩; have n0_:=Aside0.mk (Kd.V_mono (Kd.V_told (Kd.V_told (Kd.V_old (by (with_reducible repeat (first | apply Kd.V_alloc | apply Kd.V_drewN | apply Kd.V_drew)); exact HO220.out) hb) (Kd.R_base ho0)) (Kd.R_base ho1)) (fun _ h_=>h_.1)); have n1_:=Aside0.mk (Kd.R_mono (Kd.R_told (Kd.R_told (Kd.R_old (qr HO224.out) hb) (Kd.R_base ho0)) (Kd.R_base ho1)) (fun _ h_=>h_.1)); have n2_:=Aside0.mk (Kd.R_mono (Kd.R_told (Kd.R_told (Kd.R_old (qr HO226.out) hb) (Kd.R_base ho0)) (Kd.R_base ho1)) (fun _ h_=>h_.1)); have n3_:=Aside0.mk (Kd.R_lower (Kd.R_new' (Kd.R_new' ho0 (Kd.R_lt (qr HO224.out))) (Kd.R_lt (qr HO226.out))) (zbp (qb1 HB.out GE214.out))); have n4_:=Aside0.mk (Kd.R_lower (Kd.R_new' (Kd.R_new' ho1 (Kd.R_lt (qr HO224.out))) (Kd.R_lt (qr HO226.out))) (zbp (qb1 HB.out GE214.out))); have n5_:=Aside0.mk (zbr (g:=gb214) (o:=.cells #[.bool false,.slice none 0 0,.slice none 0 0] 40 (0,0)) (qk BK214.out) hb); have n6_:=Aside0.mk (zbm (qb1 HB.out GE214.out) hb); clear HO220; clear HO224; clear HO226; clear BK214; clear HB; have HO220:=n0_; have HO224:=n1_; have HO226:=n2_; have HO230:=n3_; have HO232:=n4_; have BK214:=n5_; have HB:=n6_; clear n0_ n1_ n2_ n3_ n4_ n5_ n6_; (try clear hb); (try clear hb2); (try clear hk); (try clear hi); (try clear ho0); (try clear ho1); obtain⟨Ao19,co19,eo19⟩:=Kd.R_slice HO230.out; subst eo19; obtain⟨Ao20,co20,eo20⟩:=Kd.R_slice HO224.out; subst eo20; obtain⟨hcz21_0,hcz21_1,hcz21_2,hfz21_0,hfz21_1,hfz21_2⟩:=qz BK214.out))
    refine bodyPost_ret (results_cell_row rfl _ _ gb214 40 #[.bool a0,.slice Ao20 t221.length co20,.slice Ao19 t227.length co19] (0,0) _ rfl (by (with_reducible repeat (first | refine zbv ?_ _ | refine zbu ?_ | refine zbt ?_ _)); refine zbF (cs:=#[.bool a0,.slice Ao20 t221.length co20,.slice none 0 0]) ?_ 2 _ rfl; (with_reducible repeat (first | refine zbv ?_ _ | refine zbu ?_ | refine zbt ?_ _)); refine zbF (cs:=#[.bool a0,.slice none 0 0,.slice none 0 0]) ?_ 1 _ rfl; (with_reducible repeat (first | refine zbv ?_ _ | refine zbu ?_ | refine zbt ?_ _)); refine zbF (cs:=#[.bool false,.slice none 0 0,.slice none 0 0]) ?_ 0 _ rfl; (with_reducible repeat (first | refine zbv ?_ _ | refine zbu ?_ | refine zbt ?_ _)); exact BK214.out) Tryz.underlying40 rfl (by kernel_rfl)) rfl ?_
    exact⟨_,_,by first | rfl | (simp [zbx,zbw]<;>rfl) | (simp [*,zbx,zbw]<;>rfl),by (with_reducible repeat (first | apply Kd.R_alloc | apply Kd.R_drewN | apply Kd.R_drew)); exact Kd.R_mono (Kd.R_far (p:=⟨gb214,2,none⟩) (Kd.R_far (p:=⟨gb214,1,none⟩) (Kd.R_far (p:=⟨gb214,0,none⟩) (Kd.R_types HO224.out BK214.out (by decide)) (fun _ hk=>hk.2) (.bool a0)) (fun _ hk=>hk.2) (.slice Ao20 t221.length co20)) (fun _ hk=>hk.2) (.slice Ao19 t227.length co19)) (fun _ hk=>hk.1.1.2),by (with_reducible repeat (first | apply Kd.R_alloc | apply Kd.R_drewN | apply Kd.R_drew)); exact Kd.R_mono (Kd.R_far (p:=⟨gb214,2,none⟩) (Kd.R_far (p:=⟨gb214,1,none⟩) (Kd.R_far (p:=⟨gb214,0,none⟩) (Kd.R_types HO230.out BK214.out (by decide)) (fun _ hk=>hk.2) (.bool a0)) (fun _ hk=>hk.2) (.slice Ao20 t221.length co20)) (fun _ hk=>hk.2) (.slice Ao19 t227.length co19)) (fun _ hk=>hk.1.1.2),by repeat (first | (with_reducible first | exact HB.out | apply zbn | apply zbo | apply zbs | refine zbB ?_ GE214.out) | exact HB.out)⟩
end Go.Proofs.YtehghijlchpeaaaGreat.L
end
section
namespace Go.Proofs.YtehghijlchpeaaaGreat.L
open Go.RowKit YtehghijlchpeaaaGreatW.PrintWords YtehghijlchpeaaaGreatW.PrintLast YtehghijlchpeaaaGreatW.PrintMore
attribute [local go_sem] zbX zbZ zb2 zb1 zbQ zbR zbW zbY   -- for this text's walks alone
def fluxionref03_Of.f (k:Nat) (a0_0:Bool) (l0_1:List Int) (l0_2:List Int):Option (Bool×List Int×List Int):=(fluxionref01_Of.f k l0_1).bind fun t235=>((fluxionref01_Of.f k l0_2).bind fun t238=>((fluxionref03_Make.f k a0_0 t235 t238).bind fun bt241=>(some (bt241.1,bt241.2.1,bt241.2.2))))
def fluxionref03_Of.T1:Bool×List (List Nat×List Nat):=(true,[([],[]),([0],[0]),([],[]),([2],[2]),([3],[3]),([],[]),([5],[5]),([6,4],[6]),([1,4,7,7],[1,4,7]),([8,8,0,1,2,3,4,5,6,7,8],[8])])
def fluxionref03_Of.B1:List Nat:=[0,1,0,4,12,0,32,124,255,511]
theorem fluxionref03_Of.tab1:rtab .any (opsOf Tryz.f22 1)=fluxionref03_Of.T1:=by kernel_rfl
theorem fluxionref03_Of.bits1:zct fluxionref03_Of.T1.2 fluxionref03_Of.B1=true:=by kernel_rfl
theorem fluxionref03_Of.calls (k:Nat) (a0_0:Bool) (A0_1:Option Addr) (c0_1:Nat) (l0_1:List Int) (A0_2:Option Addr) (c0_2:Nat) (l0_2:List Int) (r1:Bool) (r2:List Int) (r3:List Int) (w:World) (hr0_1:Kd.C (Kd.int .u32) w A0_1 l0_1.length l0_1) (hc0_1:l0_1.length≤c0_1) (hr0_2:Kd.C (Kd.int .u32) w A0_2 l0_2.length l0_2) (hc0_2:l0_2.length≤c0_2) (h:fluxionref03_Of.f k a0_0 l0_1 l0_2=some (r1,r2,r3)) :
  Calls Tryz.prog 22 #[.agg #[.bool a0_0,.slice A0_1 l0_1.length c0_1,.slice A0_2 l0_2.length c0_2]] w fun e w'=>∃ v1_ v2_:Value,e=.returned (.agg #[.bool r1,v1_,v2_])∧Kd.R (Kd.int .i64) 3 w' w.heap.size (fun k_=>some k_≠(v2_:Value).ownBlock) v1_ r2∧Kd.R (Kd.int .i64) 3 w' w.heap.size (fun k_=>some k_≠(v1_:Value).ownBlock) v2_ r3∧Below w.heap.size w w':=by
 have hu27:=Tryz.underlying27
 have hu40:=Tryz.underlying40
 have HR0_1:=Aside0.mk hr0_1
 have HC0_1:=Aside0.mk hc0_1
 clear hr0_1 hc0_1
 have HR0_2:=Aside0.mk hr0_2
 have HC0_2:=Aside0.mk hc0_2
 clear hr0_2 hc0_2
 have HB:=Aside0.mk (Below.refl w.heap.size w)
 have H:((fluxionref01_Of.f k l0_1).bind fun t235=>((fluxionref01_Of.f k l0_2).bind fun t238=>((fluxionref03_Make.f k a0_0 t235 t238).bind fun bt241=>(some (bt241.1,bt241.2.1,bt241.2.2)))))=some (r1,r2,r3):=h
 clear h
 replace H:=Option.bind_eq_some_iff.mp H
 obtain⟨t235,A20,H⟩:=H
 replace H:((fluxionref01_Of.f k l0_2).bind fun t238=>((fluxionref03_Make.f k a0_0 t235 t238).bind fun bt241=>(some (bt241.1,bt241.2.1,bt241.2.2))))=some (r1,r2,r3):=H
 have A2:=Aside0.mk A20
 clear A20
 replace H:=Option.bind_eq_some_iff.mp H
 obtain⟨t238,A30,H⟩:=H
 replace H:((fluxionref03_Make.f k a0_0 t235 t238).bind fun bt241=>(some (bt241.1,bt241.2.1,bt241.2.2)))=some (r1,r2,r3):=H
 have A3:=Aside0.mk A30
 clear A30
 replace H:=Option.bind_eq_some_iff.mp H
 obtain⟨⟨t241,t242,t245⟩,A40,H⟩:=H
 replace H:(some (t241,t242,t245))=some (r1,r2,r3):=H
 have A4:=Aside0.mk A40
 clear A40
 simp only [Option.some.injEq,Prod.mk.injEq] at H
 obtain⟨rfl,rfl,rfl⟩:=H
 go_enter Tryz.func22,Tryz.ntmps22
 try go_wp2_with (first | ((with_reducible refine zbD (N:=1) rfl ?_); refine zbC ?hg (N:=1) ?hd (cs:=#[.bool a0_0,.slice A0_1 l0_1.length c0_1,.slice A0_2 l0_2.length c0_2]) (t:=27) ?hr ?_; (case hd=>rfl); (case hg=>rfl); (case hr=>first | (go_simp; done) | (go_simp; rfl)); intro gb233 hg w5 hbox hb; have n0_:=Aside0.mk (zbm (qb HB.out) hb); have n1_:=Aside0.mk (hbox); have n2_:=Aside0.mk ((by rw [hg]; exact(zbp (qb HB.out)):w.heap.size≤gb233)); have n3_:=Aside0.mk ((by rw [hg]; exact(zbp (qb HB.out)):w.heap.size≤gb233)); clear HB; have HB:=n0_; have BK233:=n1_; have GW233:=n2_; have GE233:=n3_; clear n0_ n1_ n2_ n3_; clear hb hbox hg) | ((with_reducible refine zbD (N:=2) rfl ?_); refine zbC ?hg (N:=2) ?hd (cs:=#[.bool false,.slice none 0 0,.slice none 0 0]) (t:=40) ?hr ?_; (case hd=>rfl); (case hg=>rfl); (case hr=>first | (go_simp; done) | (go_simp; rfl)); intro gb234 hg w6 hbox hb; have n0_:=Aside0.mk (zbr (g:=gb233) (o:=.cells #[.bool a0_0,.slice A0_1 l0_1.length c0_1,.slice A0_2 l0_2.length c0_2] 27 (0,0)) (qk BK233.out) hb); have n1_:=Aside0.mk (zbm (qb1 HB.out GE233.out) hb); have n2_:=Aside0.mk (hbox); have n3_:=Aside0.mk ((by rw [hg]; exact(zbp (qb1 HB.out GE233.out)):w.heap.size≤gb234)); have n4_:=Aside0.mk ((by rw [hg]; exact(zbp (qb1 HB.out GE233.out)):w.heap.size≤gb234)); have n5_:=Aside0.mk ((by rw [hg]; exact Nat.ne_of_lt (zbL (g:=gb233) (o:=.cells #[.bool a0_0,.slice A0_1 l0_1.length c0_1,.slice A0_2 l0_2.length c0_2] 27 (0,0)) (qk BK233.out)):gb233≠gb234)); have n6_:=Aside0.mk ((by rw [hg]; exact Nat.ne_of_gt (zbL (g:=gb233) (o:=.cells #[.bool a0_0,.slice A0_1 l0_1.length c0_1,.slice A0_2 l0_2.length c0_2] 27 (0,0)) (qk BK233.out)):gb234≠gb233)); clear BK233; clear HB; have BK233:=n0_; have HB:=n1_; have BK234:=n2_; have GW234:=n3_; have GE234:=n4_; have NB233_234:=n5_; have NB234_233:=n6_; clear n0_ n1_ n2_ n3_ n4_ n5_ n6_; clear hb hbox hg))
 have n0_:=Aside0.mk (zbu BK233.out)
 have n1_:=Aside0.mk (zbu BK234.out)
 have n2_:=Aside0.mk (zbs HB.out)
 clear BK233
 clear BK234
 clear HB
 have BK233:=n0_
 have BK234:=n1_
 have HB:=n2_
 clear n0_ n1_ n2_
 refine zco (n:=10) (S:=fun w'=>w'.cell? ⟨gb233,0,none⟩=some (.bool a0_0)∧w'.cell? ⟨gb233,1,none⟩=some (.slice A0_1 l0_1.length c0_1)∧w'.cell? ⟨gb233,2,none⟩=some (.slice A0_2 l0_2.length c0_2)) (ds:=[]) #[zf,zf,zf,zf,zf,zf,zf,zf,zf,zf] (by kernel_rfl) rfl rfl ⟨(zbq BK233.out 0).trans rfl,(zbq BK233.out 1).trans rfl,(zbq BK233.out 2).trans rfl⟩ (fun hHeld=>?_); refine zcf fluxionref03_Of.tab1 fluxionref03_Of.bits1 (fun HT_ HW_=>?_)
 generalize w6.drew=w7 at BK233 BK234 HB hHeld ⊢
 refine qpT 0 (some 3) ?_
 refine qpT 2 (some 5) ?_
 refine qpT 5 (some 8) ?_
 refine take_ (i:=1) (N:=some 4) (v:=?_) (a':=?_) #[zt,zt,zt,zf,zf,zt,zf,zf,zf,zf] rfl rfl (zb9 HT_.out HW_.out (by kernel_rfl)) (fun _ _ _ h=>h) (Or.inl ⟨by rfl,?_⟩) hHeld ?_ ?_
 rotate_left
 ·
  rintro w' ⟨s0,s1,s2⟩
  go_simp
  with_reducible rfl
 rotate_left
 ·
  simp only [Act.put,zA1,zA2,zA3,zcb,zcw]
  rfl
 refine take_ (i:=3) (N:=some 6) (v:=?_) (a':=?_) #[zt,zt,zt,zt,zf,zt,zf,zf,zf,zf] rfl rfl (zb9 HT_.out HW_.out (by kernel_rfl)) (fun _ _ _ h=>h) (Or.inl ⟨by rfl,?_⟩) hHeld ?_ ?_
 rotate_left
 ·
  rintro w' ⟨s0,s1,s2⟩
  go_simp
  with_reducible rfl
 rotate_left
 ·
  simp only [Act.put,zA1,zA2,zA3,zcb,zcw]
  rfl
 refine take_ (i:=6) (N:=some 9) (v:=?_) (a':=?_) #[zt,zt,zt,zt,zf,zt,zt,zf,zf,zf] rfl rfl (zb9 HT_.out HW_.out (by kernel_rfl)) (fun _ _ _ h=>h) (Or.inl ⟨by rfl,?_⟩) hHeld ?_ ?_
 rotate_left
 ·
  rintro w' ⟨s0,s1,s2⟩
  go_simp
  with_reducible rfl
 rotate_left
 ·
  simp only [Act.put,zA1,zA2,zA3,zcb,zcw]
  rfl
 refine qoT 4 (some 7) (fun K hK=>?_)
 refine goes_ Tryz.func77 (by kernel_rfl) rfl #[.slice A0_1 l0_1.length c0_1] (by rfl) rfl rfl (by (try simp only [List.map_toArray,List.map_cons,List.map_nil]); first | done | rfl | (simp only [List.length_drop,List.length_take]; rfl)) ?_
 with_reducible refine(fluxionref01_Of.calls k _ _ l0_1 t235 _ ?side1 ?side2 A2.out).mono ?_
 (case side1=>exact qc (Kd.C_below HR0_1.out HB.out))
 (case side2=>exact HC0_1.out)
 rintro e w8 ⟨v236,rfl,ho0,hb⟩
 refine⟨_,rfl,?_⟩
 have n0_:=Aside0.mk (Kd.R_lower ho0 (zbp (qb2 HB.out GE233.out GE234.out)))
 have n1_:=Aside0.mk (zbr (g:=gb233) (o:=.cells #[.bool a0_0,.slice A0_1 l0_1.length c0_1,.slice A0_2 l0_2.length c0_2] 27 (0,0)) (qk BK233.out) hb)
 have n2_:=Aside0.mk (zbr (g:=gb234) (o:=.cells #[.bool false,.slice none 0 0,.slice none 0 0] 40 (0,0)) (qk BK234.out) hb)
 have n3_:=Aside0.mk (zbm (qb2 HB.out GE233.out GE234.out) hb)
 clear BK233
 clear BK234
 clear HB
 have HO237:=n0_
 have BK233:=n1_
 have BK234:=n2_
 have HB:=n3_
 clear n0_ n1_ n2_ n3_
 (try clear hb)
 (try clear hb2)
 (try clear hk)
 (try clear hi)
 (try clear ho0)
 refine hK.out _ _ ⟨(zbq BK233.out 0).trans rfl,(zbq BK233.out 1).trans rfl,(zbq BK233.out 2).trans rfl⟩ (fun hHeld=>?_)
 clear hK K
 refine qn ?_
 refine qoT 7 (some 10) (fun K hK=>?_)
 refine goes_ Tryz.func77 (by kernel_rfl) rfl #[.slice A0_2 l0_2.length c0_2] (by rfl) rfl rfl (by (try simp only [List.map_toArray,List.map_cons,List.map_nil]); first | done | rfl | (simp only [List.length_drop,List.length_take]; rfl)) ?_
 with_reducible refine(fluxionref01_Of.calls k _ _ l0_2 t238 _ ?side1 ?side2 A3.out).mono ?_
 (case side1=>exact qc (Kd.C_below HR0_2.out HB.out))
 (case side2=>exact HC0_2.out)
 rintro e w9 ⟨v239,rfl,ho0,hb⟩
 refine⟨_,rfl,?_⟩
 have n0_:=Aside0.mk (Kd.R_elder' (qr HO237.out) (Kd.R_base ho0) hb)
 have n1_:=Aside0.mk (Kd.R_lower (Kd.R_new' ho0 (Kd.R_lt (qr HO237.out))) (zbp (qb2 HB.out GE233.out GE234.out)))
 have n2_:=Aside0.mk (zbr (g:=gb233) (o:=.cells #[.bool a0_0,.slice A0_1 l0_1.length c0_1,.slice A0_2 l0_2.length c0_2] 27 (0,0)) (qk BK233.out) hb)
 have n3_:=Aside0.mk (zbr (g:=gb234) (o:=.cells #[.bool false,.slice none 0 0,.slice none 0 0] 40 (0,0)) (qk BK234.out) hb)
 have n4_:=Aside0.mk (zbm (qb2 HB.out GE233.out GE234.out) hb)
 clear HO237
 clear BK233
 clear BK234
 clear HB
 have HO237:=n0_
 have HO240:=n1_
 have BK233:=n2_
 have BK234:=n3_
 have HB:=n4_
 clear n0_ n1_ n2_ n3_ n4_
 (try clear hb)
 (try clear hb2)
 (try clear hk)
 (try clear hi)
 (try clear ho0)
 obtain⟨Ao10,co10,eo10⟩:=Kd.R_slice HO237.out
 (first | subst eo10 | (injection eo10 with f1_ f2_ f3_; have f4_:=f1_.symm; have f5_:=f3_.symm; clear f1_ f2_ f3_; subst f4_; subst f5_))
 obtain⟨Ao11,co11,eo11⟩:=Kd.R_slice HO240.out
 (first | subst eo11 | (injection eo11 with f1_ f2_ f3_; have f4_:=f1_.symm; have f5_:=f3_.symm; clear f1_ f2_ f3_; subst f4_; subst f5_))
 refine hK.out _ _ ⟨(zbq BK233.out 0).trans rfl,(zbq BK233.out 1).trans rfl,(zbq BK233.out 2).trans rfl⟩ (fun hHeld=>?_)
 clear hK K
 refine qn ?_
 refine qoT 8 (some 11) (fun K hK=>?_)
 refine goes_ Tryz.func76 (by kernel_rfl) rfl #[.bool a0_0,.slice Ao10 t235.length co10,.slice Ao11 t238.length co11] (by rfl) rfl rfl (by (try simp only [List.map_toArray,List.map_cons,List.map_nil]); first | done | rfl | (simp only [List.length_drop,List.length_take]; rfl)) ?_
 with_reducible refine(fluxionref03_Make.calls k a0_0 _ _ t235 _ _ t238 t241 t242 t245 _ ?side1 ?side2 ?side3 ?side4 A4.out).mono ?_
 (case side1=>exact qc (Kd.R_reads' HO237.out).2.2)
 (case side2=>exact(Kd.R_reads' HO237.out).2.1)
 (case side3=>exact qc (Kd.R_reads' HO240.out).2.2)
 (case side4=>exact(Kd.R_reads' HO240.out).2.1)
 rintro e w12 ⟨v243,v246,rfl,ho0,ho1,hb⟩
 refine⟨_,rfl,?_⟩
 have n0_:=Aside0.mk (Kd.R_mono (Kd.R_told (Kd.R_told (Kd.R_old (qr HO237.out) hb) (Kd.R_base ho0)) (Kd.R_base ho1)) (fun _ h_=>h_.1))
 have n1_:=Aside0.mk (Kd.R_mono (Kd.R_told (Kd.R_told (Kd.R_old (qr HO240.out) hb) (Kd.R_base ho0)) (Kd.R_base ho1)) (fun _ h_=>h_.1))
 have n2_:=Aside0.mk (Kd.R_lower (Kd.R_new' (Kd.R_new' ho0 (Kd.R_lt (qr HO237.out))) (Kd.R_lt (qr HO240.out))) (zbp (qb2 HB.out GE233.out GE234.out)))
 have n3_:=Aside0.mk (Kd.R_lower (Kd.R_new' (Kd.R_new' ho1 (Kd.R_lt (qr HO237.out))) (Kd.R_lt (qr HO240.out))) (zbp (qb2 HB.out GE233.out GE234.out)))
 have n4_:=Aside0.mk (zbr (g:=gb233) (o:=.cells #[.bool a0_0,.slice A0_1 l0_1.length c0_1,.slice A0_2 l0_2.length c0_2] 27 (0,0)) (qk BK233.out) hb)
 have n5_:=Aside0.mk (zbr (g:=gb234) (o:=.cells #[.bool false,.slice none 0 0,.slice none 0 0] 40 (0,0)) (qk BK234.out) hb)
 have n6_:=Aside0.mk (zbm (qb2 HB.out GE233.out GE234.out) hb)
 clear HO237
 clear HO240
 clear BK233
 clear BK234
 clear HB
 have HO237:=n0_
 have HO240:=n1_
 have HO244:=n2_
 have HO247:=n3_
 have BK233:=n4_
 have BK234:=n5_
 have HB:=n6_
 clear n0_ n1_ n2_ n3_ n4_ n5_ n6_
 (try clear hb)
 (try clear hb2)
 (try clear hk)
 (try clear hi)
 (try clear ho0)
 (try clear ho1)
 obtain⟨Ao14,co14,eo14⟩:=Kd.R_slice HO244.out
 (first | subst eo14 | (injection eo14 with f1_ f2_ f3_; have f4_:=f1_.symm; have f5_:=f3_.symm; clear f1_ f2_ f3_; subst f4_; subst f5_))
 obtain⟨Ao16,co16,eo16⟩:=Kd.R_slice HO247.out
 (first | subst eo16 | (injection eo16 with f1_ f2_ f3_; have f4_:=f1_.symm; have f5_:=f3_.symm; clear f1_ f2_ f3_; subst f4_; subst f5_))
 refine hK.out _ _ ⟨(zbq BK233.out 0).trans rfl,(zbq BK233.out 1).trans rfl,(zbq BK233.out 2).trans rfl⟩ (fun hHeld=>?_)
 clear hK K
 refine qn ?_
 refine qoT 9 none (fun K hK=>?_)
 have hs13:w12.cell? ⟨gb234,0,none⟩=some (.bool false):=(zbq BK234.out 0).trans rfl
 have hfs13:=zbA BK234.out 0
 have hns13_0:=NB233_234.out
 have hms13_0:=NB234_233.out
 have hs15:w12.cell? ⟨gb234,1,none⟩=some (.slice none 0 0):=(zbq BK234.out 1).trans rfl
 have hfs15:=zbA BK234.out 1
 have hns15_0:=NB233_234.out
 have hms15_0:=NB234_233.out
 have hs17:w12.cell? ⟨gb234,2,none⟩=some (.slice none 0 0):=(zbq BK234.out 2).trans rfl
 have hfs17:=zbA BK234.out 2
 have hns17_0:=NB233_234.out
 have hms17_0:=NB234_233.out
 refine qx ?_
 refine hK.out _ _ ⟨((zb4 (p:=⟨gb234,_,none⟩) NB233_234.out _).trans (((zb4 (p:=⟨gb234,_,none⟩) NB233_234.out _).trans (((zb4 (p:=⟨gb234,_,none⟩) NB233_234.out _).trans (hHeld.1)))))),((zb4 (p:=⟨gb234,_,none⟩) NB233_234.out _).trans (((zb4 (p:=⟨gb234,_,none⟩) NB233_234.out _).trans (((zb4 (p:=⟨gb234,_,none⟩) NB233_234.out _).trans (hHeld.2.1)))))),((zb4 (p:=⟨gb234,_,none⟩) NB233_234.out _).trans (((zb4 (p:=⟨gb234,_,none⟩) NB233_234.out _).trans (((zb4 (p:=⟨gb234,_,none⟩) NB233_234.out _).trans (hHeld.2.2))))))⟩ (fun hHeld=>?_)
 clear hK K
 refine done_ (done_of HT_.out (by kernel_rfl)) ?_
 try go_wp2
 refine bodyPost_ret (results_cell_row rfl _ _ gb234 40 #[.bool t241,.slice Ao14 t242.length co14,.slice Ao16 t245.length co16] (0,0) _ rfl (by (with_reducible repeat (first | refine zbv ?_ _ | refine zbu ?_ | refine zbt ?_ _)); refine zbF (cs:=#[.bool t241,.slice Ao14 t242.length co14,.slice none 0 0]) ?_ 2 _ rfl; (with_reducible repeat (first | refine zbv ?_ _ | refine zbu ?_ | refine zbt ?_ _)); refine zbF (cs:=#[.bool t241,.slice none 0 0,.slice none 0 0]) ?_ 1 _ rfl; (with_reducible repeat (first | refine zbv ?_ _ | refine zbu ?_ | refine zbt ?_ _)); refine zbF (cs:=#[.bool false,.slice none 0 0,.slice none 0 0]) ?_ 0 _ rfl; (with_reducible repeat (first | refine zbv ?_ _ | refine zbu ?_ | refine zbt ?_ _)); exact BK234.out) Tryz.underlying40 rfl (by kernel_rfl)) rfl ?_
 exact⟨_,_,by first | rfl | (simp [zbx,zbw]<;>rfl) | (simp [*,zbx,zbw]<;>rfl),by (with_reducible repeat (first | apply Kd.R_alloc | apply Kd.R_drewN | apply Kd.R_drew)); exact Kd.R_mono (Kd.R_far (p:=⟨gb234,2,none⟩) (Kd.R_far (p:=⟨gb234,1,none⟩) (Kd.R_far (p:=⟨gb234,0,none⟩) (Kd.R_types HO244.out BK234.out (by decide)) (fun _ hk=>hk.2) (.bool t241)) (fun _ hk=>hk.2) (.slice Ao14 t242.length co14)) (fun _ hk=>hk.2) (.slice Ao16 t245.length co16)) (fun _ hk=>hk.1.1.1),by (with_reducible repeat (first | apply Kd.R_alloc | apply Kd.R_drewN | apply Kd.R_drew)); exact Kd.R_mono (Kd.R_far (p:=⟨gb234,2,none⟩) (Kd.R_far (p:=⟨gb234,1,none⟩) (Kd.R_far (p:=⟨gb234,0,none⟩) (Kd.R_types HO247.out BK234.out (by decide)) (fun _ hk=>hk.2) (.bool t241)) (fun _ hk=>hk.2) (.slice Ao14 t242.length co14)) (fun _ hk=>hk.2) (.slice Ao16 t245.length co16)) (fun _ hk=>hk.1.1.1),by repeat (first | (with_reducible first | exact HB.out | apply zbn | apply zbo | apply zbs | refine zbB ?_ GE233.out | refine zbB ?_ GE234.out) | exact HB.out)⟩
def fluxionref03_Is.f (k:Nat) (a0_0:Bool) (l0_1:List Int) (l0_2:List Int) (a1_0:Bool) (l1_1:List Int) (l1_2:List Int):Option (Bool):=if (a1_0 == a0_0)=true then ((fluxionref01_Is.f k l0_1 l1_1).bind fun t250=>(if t250=true then ((fluxionref01_Is.f k l0_2 l1_2).bind fun t251=>(some t251)) else (some false))) else (some false)
theorem fluxionref03_Is.calls (k:Nat) (a0_0:Bool) (A0_1:Option Addr) (c0_1:Nat) (l0_1:List Int) (A0_2:Option Addr) (c0_2:Nat) (l0_2:List Int) (a1_0:Bool) (A1_1:Option Addr) (c1_1:Nat) (l1_1:List Int) (A1_2:Option Addr) (c1_2:Nat) (l1_2:List Int) (r:Bool) (w:World) (hr0_1:Kd.C (Kd.int .i64) w A0_1 l0_1.length l0_1) (hc0_1:l0_1.length≤c0_1) (hr0_2:Kd.C (Kd.int .i64) w A0_2 l0_2.length l0_2) (hc0_2:l0_2.length≤c0_2) (hr1_1:Kd.C (Kd.int .u32) w A1_1 l1_1.length l1_1) (hc1_1:l1_1.length≤c1_1) (hr1_2:Kd.C (Kd.int .u32) w A1_2 l1_2.length l1_2) (hc1_2:l1_2.length≤c1_2) (h:fluxionref03_Is.f k a0_0 l0_1 l0_2 a1_0 l1_1 l1_2=some r) :
  Calls Tryz.prog 36 #[.agg #[.bool a0_0,.slice A0_1 l0_1.length c0_1,.slice A0_2 l0_2.length c0_2],.agg #[.bool a1_0,.slice A1_1 l1_1.length c1_1,.slice A1_2 l1_2.length c1_2]] w fun e w'=>e=.returned (.bool r)∧Below w.heap.size w w':=by
 have hu40:=Tryz.underlying40
 have hu27:=Tryz.underlying27
 have HR0_1:=Aside0.mk hr0_1
 have HC0_1:=Aside0.mk hc0_1
 clear hr0_1 hc0_1
 have HR0_2:=Aside0.mk hr0_2
 have HC0_2:=Aside0.mk hc0_2
 clear hr0_2 hc0_2
 have HR1_1:=Aside0.mk hr1_1
 have HC1_1:=Aside0.mk hc1_1
 clear hr1_1 hc1_1
 have HR1_2:=Aside0.mk hr1_2
 have HC1_2:=Aside0.mk hc1_2
 clear hr1_2 hc1_2
 have HB:=Aside0.mk (Below.refl w.heap.size w)
 have H:(if (a1_0 == a0_0)=true then ((fluxionref01_Is.f k l0_1 l1_1).bind fun t250=>(if t250=true then ((fluxionref01_Is.f k l0_2 l1_2).bind fun t251=>(some t251)) else (some false))) else (some false))=some r:=h
 clear h
 by_cases c3:(a1_0 == a0_0)=true
 ·
  rw [if_pos c3] at H
  have c3b0:(a1_0 == a0_0)=true:=c3
  (try (have c3b1:decide (a1_0=a0_0)=true:=by simpa using c3))
  (try (have c3b2:(a1_0 == a0_0)=true:=by simpa using c3))
  clear c3
  replace H:=Option.bind_eq_some_iff.mp H
  obtain⟨t250,A40,H⟩:=H
  replace H:(if t250=true then ((fluxionref01_Is.f k l0_2 l1_2).bind fun t251=>(some t251)) else (some false))=some r:=H
  have A4:=Aside0.mk A40
  clear A40
  by_cases c5:t250=true
  ·
   subst c5
   have H1:((fluxionref01_Is.f k l0_2 l1_2).bind fun t251=>(some t251))=some r:=by rw [if_pos rfl] at H; exact H
   clear H
   have H:=H1
   clear H1
   replace H:=Option.bind_eq_some_iff.mp H
   obtain⟨t251,A60,H⟩:=H
   replace H:(some t251)=some r:=H
   have A6:=Aside0.mk A60
   clear A60
   obtain rfl:=Option.some.inj H
   go_enter Tryz.func36,Tryz.ntmps36
   go_wp2_with (first | ((with_reducible refine zbD (N:=2) rfl ?_); refine zbC ?hg (N:=2) ?hd (cs:=#[.bool a0_0,.slice A0_1 l0_1.length c0_1,.slice A0_2 l0_2.length c0_2]) (t:=40) ?hr ?_; (case hd=>rfl); (case hg=>rfl); (case hr=>first | (go_simp; done) | (go_simp; rfl)); intro gb248 hg w7 hbox hb; have n0_:=Aside0.mk (zbm (qb HB.out) hb); have n1_:=Aside0.mk (hbox); have n2_:=Aside0.mk ((by rw [hg]; exact(zbp (qb HB.out)):w.heap.size≤gb248)); have n3_:=Aside0.mk ((by rw [hg]; exact(zbp (qb HB.out)):w.heap.size≤gb248)); clear HB; have HB:=n0_; have BK248:=n1_; have GW248:=n2_; have GE248:=n3_; clear n0_ n1_ n2_ n3_; clear hb hbox hg) | ((with_reducible refine zbD (N:=3) rfl ?_); refine zbC ?hg (N:=3) ?hd (cs:=#[.bool a1_0,.slice A1_1 l1_1.length c1_1,.slice A1_2 l1_2.length c1_2]) (t:=27) ?hr ?_; (case hd=>rfl); (case hg=>rfl); (case hr=>first | (go_simp; done) | (go_simp; rfl)); intro gb249 hg w8 hbox hb; have n0_:=Aside0.mk (zbr (g:=gb248) (o:=.cells #[.bool a0_0,.slice A0_1 l0_1.length c0_1,.slice A0_2 l0_2.length c0_2] 40 (0,0)) (qk BK248.out) hb); have n1_:=Aside0.mk (zbm (qb1 HB.out GE248.out) hb); have n2_:=Aside0.mk (hbox); have n3_:=Aside0.mk ((by rw [hg]; exact(zbp (qb1 HB.out GE248.out)):w.heap.size≤gb249)); have n4_:=Aside0.mk ((by rw [hg]; exact(zbp (qb1 HB.out GE248.out)):w.heap.size≤gb249)); have n5_:=Aside0.mk ((by rw [hg]; exact Nat.ne_of_lt (zbL (g:=gb248) (o:=.cells #[.bool a0_0,.slice A0_1 l0_1.length c0_1,.slice A0_2 l0_2.length c0_2] 40 (0,0)) (qk BK248.out)):gb248≠gb249)); have n6_:=Aside0.mk ((by rw [hg]; exact Nat.ne_of_gt (zbL (g:=gb248) (o:=.cells #[.bool a0_0,.slice A0_1 l0_1.length c0_1,.slice A0_2 l0_2.length c0_2] 40 (0,0)) (qk BK248.out)):gb249≠gb248)); clear BK248; clear HB; have BK248:=n0_; have HB:=n1_; have BK249:=n2_; have GW249:=n3_; have GE249:=n4_; have NB248_249:=n5_; have NB249_248:=n6_; clear n0_ n1_ n2_ n3_ n4_ n5_ n6_; clear hb hbox hg; have hnb9:=NB249_248.out; have hnc9:=NB248_249.out; obtain⟨hcz10_0,hcz10_1,hcz10_2,hfz10_0,hfz10_1,hfz10_2⟩:=qz BK249.out; obtain⟨hcz11_0,hcz11_1,hcz11_2,hfz11_0,hfz11_1,hfz11_2⟩:=qz BK248.out) | (go_at_call 91; (with_reducible refine(fluxionref01_Is.calls k _ _ l0_1 _ _ l1_1 true _ ?side1 ?side2 ?side3 ?side4 A4.out).mono ?_); (case side1=>exact qc (Kd.C_below HR0_1.out HB.out)); (case side2=>exact HC0_1.out); (case side3=>exact qc (Kd.C_below HR1_1.out HB.out)); (case side4=>exact HC1_1.out); rintro e w12 ⟨rfl,hb⟩; have n0_:=Aside0.mk (zbr (g:=gb248) (o:=.cells #[.bool a0_0,.slice A0_1 l0_1.length c0_1,.slice A0_2 l0_2.length c0_2] 40 (0,0)) (qk BK248.out) hb); have n1_:=Aside0.mk (zbr (g:=gb249) (o:=.cells #[.bool a1_0,.slice A1_1 l1_1.length c1_1,.slice A1_2 l1_2.length c1_2] 27 (0,0)) (qk BK249.out) hb); have n2_:=Aside0.mk (zbm (qb2 HB.out GE248.out GE249.out) hb); clear BK248; clear BK249; clear HB; have BK248:=n0_; have BK249:=n1_; have HB:=n2_; clear n0_ n1_ n2_; (try clear hb); (try clear hb2); (try clear hk); (try clear hi); obtain⟨hcz13_0,hcz13_1,hcz13_2,hfz13_0,hfz13_1,hfz13_2⟩:=qz BK248.out; obtain⟨hcz14_0,hcz14_1,hcz14_2,hfz14_0,hfz14_1,hfz14_2⟩:=qz BK249.out) | (go_at_call 91; (with_reducible refine(fluxionref01_Is.calls k _ _ l0_2 _ _ l1_2 t251 _ ?side1 ?side2 ?side3 ?side4 A6.out).mono ?_); (case side1=>exact qc (Kd.C_below HR0_2.out HB.out)); (case side2=>exact HC0_2.out); (case side3=>exact qc (Kd.C_below HR1_2.out HB.out)); (case side4=>exact HC1_2.out); rintro e w15 ⟨rfl,hb⟩; have n0_:=Aside0.mk (zbr (g:=gb248) (o:=.cells #[.bool a0_0,.slice A0_1 l0_1.length c0_1,.slice A0_2 l0_2.length c0_2] 40 (0,0)) (qk BK248.out) hb); have n1_:=Aside0.mk (zbr (g:=gb249) (o:=.cells #[.bool a1_0,.slice A1_1 l1_1.length c1_1,.slice A1_2 l1_2.length c1_2] 27 (0,0)) (qk BK249.out) hb); have n2_:=Aside0.mk (zbm (qb2 HB.out GE248.out GE249.out) hb); clear BK248; clear BK249; clear HB; have BK248:=n0_; have BK249:=n1_; have HB:=n2_; clear n0_ n1_ n2_; (try clear hb); (try clear hb2); (try clear hk); (try clear hi)))
   go_ret
   exact⟨by first | rfl | (simp [zbx,zbw]<;>rfl) | (simp [*,zbx,zbw]<;>rfl),by repeat (first | (with_reducible first | exact HB.out | apply zbn | apply zbo | apply zbs | refine zbB ?_ GE248.out | refine zbB ?_ GE249.out) | exact HB.out)⟩
  ·
   replace c5:=Bool.eq_false_iff.mpr c5
   subst c5
   have H1:(some false)=some r:=by rw [if_neg (show ¬ (false=true) by decide)] at H; exact H
   clear H
   have H:=H1
   clear H1
   obtain rfl:=Option.some.inj H
   go_enter Tryz.func36,Tryz.ntmps36
   go_wp2_with (first | ((with_reducible refine zbD (N:=2) rfl ?_); refine zbC ?hg (N:=2) ?hd (cs:=#[.bool a0_0,.slice A0_1 l0_1.length c0_1,.slice A0_2 l0_2.length c0_2]) (t:=40) ?hr ?_; (case hd=>rfl); (case hg=>rfl); (case hr=>first | (go_simp; done) | (go_simp; rfl)); intro gb248 hg w16 hbox hb; have n0_:=Aside0.mk (zbm (qb HB.out) hb); have n1_:=Aside0.mk (hbox); have n2_:=Aside0.mk ((by rw [hg]; exact(zbp (qb HB.out)):w.heap.size≤gb248)); have n3_:=Aside0.mk ((by rw [hg]; exact(zbp (qb HB.out)):w.heap.size≤gb248)); clear HB; have HB:=n0_; have BK248:=n1_; have GW248:=n2_; have GE248:=n3_; clear n0_ n1_ n2_ n3_; clear hb hbox hg) | ((with_reducible refine zbD (N:=3) rfl ?_); refine zbC ?hg (N:=3) ?hd (cs:=#[.bool a1_0,.slice A1_1 l1_1.length c1_1,.slice A1_2 l1_2.length c1_2]) (t:=27) ?hr ?_; (case hd=>rfl); (case hg=>rfl); (case hr=>first | (go_simp; done) | (go_simp; rfl)); intro gb249 hg w17 hbox hb; have n0_:=Aside0.mk (zbr (g:=gb248) (o:=.cells #[.bool a0_0,.slice A0_1 l0_1.length c0_1,.slice A0_2 l0_2.length c0_2] 40 (0,0)) (qk BK248.out) hb); have n1_:=Aside0.mk (zbm (qb1 HB.out GE248.out) hb); have n2_:=Aside0.mk (hbox); have n3_:=Aside0.mk ((by rw [hg]; exact(zbp (qb1 HB.out GE248.out)):w.heap.size≤gb249)); have n4_:=Aside0.mk ((by rw [hg]; exact(zbp (qb1 HB.out GE248.out)):w.heap.size≤gb249)); have n5_:=Aside0.mk ((by rw [hg]; exact Nat.ne_of_lt (zbL (g:=gb248) (o:=.cells #[.bool a0_0,.slice A0_1 l0_1.length c0_1,.slice A0_2 l0_2.length c0_2] 40 (0,0)) (qk BK248.out)):gb248≠gb249)); have n6_:=Aside0.mk ((by rw [hg]; exact Nat.ne_of_gt (zbL (g:=gb248) (o:=.cells #[.bool a0_0,.slice A0_1 l0_1.length c0_1,.slice A0_2 l0_2.length c0_2] 40 (0,0)) (qk BK248.out)):gb249≠gb248)); clear BK248; clear HB; have BK248:=n0_; have HB:=n1_; have BK249:=n2_; have GW249:=n3_; have GE249:=n4_; have NB248_249:=n5_; have NB249_248:=n6_; clear n0_ n1_ n2_ n3_ n4_ n5_ n6_; clear hb hbox hg; have hnb18:=NB249_248.out; have hnc18:=NB248_249.out; obtain⟨hcz19_0,hcz19_1,hcz19_2,hfz19_0,hfz19_1,hfz19_2⟩:=qz BK249.out; obtain⟨hcz20_0,hcz20_1,hcz20_2,hfz20_0,hfz20_1,hfz20_2⟩:=qz BK248.out) | (go_at_call 91; (with_reducible refine(fluxionref01_Is.calls k _ _ l0_1 _ _ l1_1 false _ ?side1 ?side2 ?side3 ?side4 A4.out).mono ?_); (case side1=>exact qc (Kd.C_below HR0_1.out HB.out)); (case side2=>exact HC0_1.out); (case side3=>exact qc (Kd.C_below HR1_1.out HB.out)); (case side4=>exact HC1_1.out); rintro e w21 ⟨rfl,hb⟩; have n0_:=Aside0.mk (zbr (g:=gb248) (o:=.cells #[.bool a0_0,.slice A0_1 l0_1.length c0_1,.slice A0_2 l0_2.length c0_2] 40 (0,0)) (qk BK248.out) hb); have n1_:=Aside0.mk (zbr (g:=gb249) (o:=.cells #[.bool a1_0,.slice A1_1 l1_1.length c1_1,.slice A1_2 l1_2.length c1_2] 27 (0,0)) (qk BK249.out) hb); have n2_:=Aside0.mk (zbm (qb2 HB.out GE248.out GE249.out) hb); clear BK248; clear BK249; clear HB; have BK248:=n0_; have BK249:=n1_; have HB:=n2_; clear n0_ n1_ n2_; (try clear hb); (try clear hb2); (try clear hk); (try clear hi)))
   go_ret
   exact⟨by first | rfl | (simp [zbx,zbw]<;>rfl) | (simp [*,zbx,zbw]<;>rfl),by repeat (first | (with_reducible first | exact HB.out | apply zbn | apply zbo | apply zbs | refine zbB ?_ GE248.out | refine zbB ?_ GE249.out) | exact HB.out)⟩
 ·
  rw [if_neg c3] at H
  have c3b0:(a1_0 == a0_0)=false:=by simpa using c3
  (try (have c3b1:decide (a1_0=a0_0)=false:=by simpa using c3))
  (try (have c3b2:(a1_0 == a0_0)=false:=by simpa using c3))
  (try (have c3b3:¬ (a1_0=a0_0):=by simpa using c3))
  clear c3
  obtain rfl:=Option.some.inj H
  go_enter Tryz.func36,Tryz.ntmps36
  go_wp2_with (first | ((with_reducible refine zbD (N:=2) rfl ?_); refine zbC ?hg (N:=2) ?hd (cs:=#[.bool a0_0,.slice A0_1 l0_1.length c0_1,.slice A0_2 l0_2.length c0_2]) (t:=40) ?hr ?_; (case hd=>rfl); (case hg=>rfl); (case hr=>first | (go_simp; done) | (go_simp; rfl)); intro gb248 hg w22 hbox hb; have n0_:=Aside0.mk (zbm (qb HB.out) hb); have n1_:=Aside0.mk (hbox); have n2_:=Aside0.mk ((by rw [hg]; exact(zbp (qb HB.out)):w.heap.size≤gb248)); have n3_:=Aside0.mk ((by rw [hg]; exact(zbp (qb HB.out)):w.heap.size≤gb248)); clear HB; have HB:=n0_; have BK248:=n1_; have GW248:=n2_; have GE248:=n3_; clear n0_ n1_ n2_ n3_; clear hb hbox hg) | ((with_reducible refine zbD (N:=3) rfl ?_); refine zbC ?hg (N:=3) ?hd (cs:=#[.bool a1_0,.slice A1_1 l1_1.length c1_1,.slice A1_2 l1_2.length c1_2]) (t:=27) ?hr ?_; (case hd=>rfl); (case hg=>rfl); (case hr=>first | (go_simp; done) | (go_simp; rfl)); intro gb249 hg w23 hbox hb; have n0_:=Aside0.mk (zbr (g:=gb248) (o:=.cells #[.bool a0_0,.slice A0_1 l0_1.length c0_1,.slice A0_2 l0_2.length c0_2] 40 (0,0)) (qk BK248.out) hb); have n1_:=Aside0.mk (zbm (qb1 HB.out GE248.out) hb); have n2_:=Aside0.mk (hbox); have n3_:=Aside0.mk ((by rw [hg]; exact(zbp (qb1 HB.out GE248.out)):w.heap.size≤gb249)); have n4_:=Aside0.mk ((by rw [hg]; exact(zbp (qb1 HB.out GE248.out)):w.heap.size≤gb249)); have n5_:=Aside0.mk ((by rw [hg]; exact Nat.ne_of_lt (zbL (g:=gb248) (o:=.cells #[.bool a0_0,.slice A0_1 l0_1.length c0_1,.slice A0_2 l0_2.length c0_2] 40 (0,0)) (qk BK248.out)):gb248≠gb249)); have n6_:=Aside0.mk ((by rw [hg]; exact Nat.ne_of_gt (zbL (g:=gb248) (o:=.cells #[.bool a0_0,.slice A0_1 l0_1.length c0_1,.slice A0_2 l0_2.length c0_2] 40 (0,0)) (qk BK248.out)):gb249≠gb248)); clear BK248; clear HB; have BK248:=n0_; have HB:=n1_; have BK249:=n2_; have GW249:=n3_; have GE249:=n4_; have NB248_249:=n5_; have NB249_248:=n6_; clear n0_ n1_ n2_ n3_ n4_ n5_ n6_; clear hb hbox hg; have hnb24:=NB249_248.out; have hnc24:=NB248_249.out; obtain⟨hcz25_0,hcz25_1,hcz25_2,hfz25_0,hfz25_1,hfz25_2⟩:=qz BK249.out; obtain⟨hcz26_0,hcz26_1,hcz26_2,hfz26_0,hfz26_1,hfz26_2⟩:=qz BK248.out))
  go_ret
  exact⟨by first | rfl | (simp [zbx,zbw]<;>rfl) | (simp [*,zbx,zbw]<;>rfl),by repeat (first | (with_reducible first | exact HB.out | apply zbn | apply zbo | apply zbs | refine zbB ?_ GE248.out | refine zbB ?_ GE249.out) | exact HB.out)⟩
def fluxionref03_May.f (k:Nat) (a0_0:Bool) (l0_1:List Int) (l0_2:List Int):Option (Int):=(fluxionref03_Of.f k a0_0 l0_1 l0_2).bind fun bt253=>((fluxionref03_Is.f k bt253.1 bt253.2.1 bt253.2.2 a0_0 l0_1 l0_2).bind fun t261=>(if t261=true then (some 0) else (some 6)))
theorem fluxionref03_May.calls (k:Nat) (a0_0:Bool) (A0_1:Option Addr) (c0_1:Nat) (l0_1:List Int) (A0_2:Option Addr) (c0_2:Nat) (l0_2:List Int) (r:Int) (w:World) (hr0_1:Kd.C (Kd.int .u32) w A0_1 l0_1.length l0_1) (hc0_1:l0_1.length≤c0_1) (hr0_2:Kd.C (Kd.int .u32) w A0_2 l0_2.length l0_2) (hc0_2:l0_2.length≤c0_2) (h:fluxionref03_May.f k a0_0 l0_1 l0_2=some r) :
  Calls Tryz.prog 83 #[.agg #[.bool a0_0,.slice A0_1 l0_1.length c0_1,.slice A0_2 l0_2.length c0_2]] w fun e w'=>e=.returned (.int .i64 r)∧Below w.heap.size w w':=by
 have hu27:=Tryz.underlying27
 have hu40:=Tryz.underlying40
 have HR0_1:=Aside0.mk hr0_1
 have HC0_1:=Aside0.mk hc0_1
 clear hr0_1 hc0_1
 have HR0_2:=Aside0.mk hr0_2
 have HC0_2:=Aside0.mk hc0_2
 clear hr0_2 hc0_2
 have HB:=Aside0.mk (Below.refl w.heap.size w)
 have H:((fluxionref03_Of.f k a0_0 l0_1 l0_2).bind fun bt253=>((fluxionref03_Is.f k bt253.1 bt253.2.1 bt253.2.2 a0_0 l0_1 l0_2).bind fun t261=>(if t261=true then (some 0) else (some 6))))=some r:=h
 clear h
 replace H:=Option.bind_eq_some_iff.mp H
 obtain⟨⟨t253,t254,t257⟩,A20,H⟩:=H
 replace H:((fluxionref03_Is.f k t253 t254 t257 a0_0 l0_1 l0_2).bind fun t261=>(if t261=true then (some 0) else (some 6)))=some r:=H
 have A2:=Aside0.mk A20
 clear A20
 replace H:=Option.bind_eq_some_iff.mp H
 obtain⟨t261,A30,H⟩:=H
 replace H:(if t261=true then (some 0) else (some 6))=some r:=H
 have A3:=Aside0.mk A30
 clear A30
 by_cases c4:t261=true
 ·
  subst c4
  have H1:(some 0)=some r:=by rw [if_pos rfl] at H; exact H
  clear H
  have H:=H1
  clear H1
  obtain rfl:=Option.some.inj H
  go_enter Tryz.func83,Tryz.ntmps83
  go_wp2_with (first | ((with_reducible refine zbD (N:=1) rfl ?_); refine zbC ?hg (N:=1) ?hd (cs:=#[.bool a0_0,.slice A0_1 l0_1.length c0_1,.slice A0_2 l0_2.length c0_2]) (t:=27) ?hr ?_; (case hd=>rfl); (case hg=>rfl); (case hr=>first | (go_simp; done) | (go_simp; rfl)); intro gb252 hg w5 hbox hb; have n0_:=Aside0.mk (zbm (qb HB.out) hb); have n1_:=Aside0.mk (hbox); have n2_:=Aside0.mk ((by rw [hg]; exact(zbp (qb HB.out)):w.heap.size≤gb252)); have n3_:=Aside0.mk ((by rw [hg]; exact(zbp (qb HB.out)):w.heap.size≤gb252)); clear HB; have HB:=n0_; have BK252:=n1_; have GW252:=n2_; have GE252:=n3_; clear n0_ n1_ n2_ n3_; clear hb hbox hg; obtain⟨hcz6_0,hcz6_1,hcz6_2,hfz6_0,hfz6_1,hfz6_2⟩:=qz BK252.out) | ((with_reducible refine zbz (f:=22) rfl ?_); refine zbK (some 5) rfl rfl Tryz.func22 (by kernel_rfl) rfl #[.agg #[.bool a0_0,.slice A0_1 l0_1.length c0_1,.slice A0_2 l0_2.length c0_2]] rfl (by (try simp only [List.map_toArray,List.map_cons,List.map_nil]); first | done | rfl | (simp only [List.length_drop,List.length_take]; rfl)) ?_; (with_reducible refine(fluxionref03_Of.calls k a0_0 _ _ l0_1 _ _ l0_2 t253 t254 t257 _ ?side1 ?side2 ?side3 ?side4 A2.out).mono ?_); (case side1=>exact qc (Kd.C_below HR0_1.out HB.out)); (case side2=>exact HC0_1.out); (case side3=>exact qc (Kd.C_below HR0_2.out HB.out)); (case side4=>exact HC0_2.out); rintro e w7 ⟨v255,v258,rfl,ho0,ho1,hb⟩; refine⟨_,rfl,?_⟩; have n0_:=Aside0.mk (Kd.R_lower ho0 (zbp (qb1 HB.out GE252.out))); have n1_:=Aside0.mk (Kd.R_lower ho1 (zbp (qb1 HB.out GE252.out))); have n2_:=Aside0.mk (zbr (g:=gb252) (o:=.cells #[.bool a0_0,.slice A0_1 l0_1.length c0_1,.slice A0_2 l0_2.length c0_2] 27 (0,0)) (qk BK252.out) hb); have n3_:=Aside0.mk (zbm (qb1 HB.out GE252.out) hb); clear BK252; clear HB; have HO256:=n0_; have HO259:=n1_; have BK252:=n2_; have HB:=n3_; clear n0_ n1_ n2_ n3_; (try clear hb); (try clear hb2); (try clear hk); (try clear hi); (try clear ho0); (try clear ho1)) | ((with_reducible refine zbD (N:=3) rfl ?_); refine zbC ?hg (N:=3) ?hd (cs:=#[.bool false,.slice none 0 0,.slice none 0 0]) (t:=40) ?hr ?_; (case hd=>rfl); (case hg=>rfl); (case hr=>first | (go_simp; done) | (go_simp; rfl)); intro gb260 hg w8 hbox hb; have n0_:=Aside0.mk (Kd.R_below (qr HO256.out) hb); have n1_:=Aside0.mk (Kd.R_below (qr HO259.out) hb); have n2_:=Aside0.mk (zbr (g:=gb252) (o:=.cells #[.bool a0_0,.slice A0_1 l0_1.length c0_1,.slice A0_2 l0_2.length c0_2] 27 (0,0)) (qk BK252.out) hb); have n3_:=Aside0.mk (zbm (qb1 HB.out GE252.out) hb); have n4_:=Aside0.mk (hbox); have n5_:=Aside0.mk ((by rw [hg]; exact(zbp (qb1 HB.out GE252.out)):w.heap.size≤gb260)); have n6_:=Aside0.mk ((by rw [hg]; exact(zbp (qb1 HB.out GE252.out)):w.heap.size≤gb260)); have n7_:=Aside0.mk ((by rw [hg]; exact Nat.ne_of_lt (zbL (g:=gb252) (o:=.cells #[.bool a0_0,.slice A0_1 l0_1.length c0_1,.slice A0_2 l0_2.length c0_2] 27 (0,0)) (qk BK252.out)):gb252≠gb260)); have n8_:=Aside0.mk ((by rw [hg]; exact Nat.ne_of_gt (zbL (g:=gb252) (o:=.cells #[.bool a0_0,.slice A0_1 l0_1.length c0_1,.slice A0_2 l0_2.length c0_2] 27 (0,0)) (qk BK252.out)):gb260≠gb252)); clear HO256; clear HO259; clear BK252; clear HB; have HO256:=n0_; have HO259:=n1_; have BK252:=n2_; have HB:=n3_; have BK260:=n4_; have GW260:=n5_; have GE260:=n6_; have NB252_260:=n7_; have NB260_252:=n8_; clear n0_ n1_ n2_ n3_ n4_ n5_ n6_ n7_ n8_; clear hb hbox hg; have hnb9:=NB260_252.out; have hnc9:=NB252_260.out; obtain⟨hcz10_0,hcz10_1,hcz10_2,hfz10_0,hfz10_1,hfz10_2⟩:=qz BK260.out; obtain⟨Ao11,co11,eo11⟩:=Kd.R_slice HO256.out; subst eo11; obtain⟨Ao12,co12,eo12⟩:=Kd.R_slice HO259.out; subst eo12; obtain⟨hcz13_0,hcz13_1,hcz13_2,hfz13_0,hfz13_1,hfz13_2⟩:=qz BK252.out) | ((with_reducible refine zbz (f:=36) rfl ?_); refine zbK (some 8) rfl rfl Tryz.func36 (by kernel_rfl) rfl #[.agg #[.bool t253,.slice Ao11 t254.length co11,.slice Ao12 t257.length co12],.agg #[.bool a0_0,.slice A0_1 l0_1.length c0_1,.slice A0_2 l0_2.length c0_2]] rfl (by (try simp only [List.map_toArray,List.map_cons,List.map_nil]); first | done | rfl | (simp only [List.length_drop,List.length_take]; rfl)) ?_; (with_reducible refine(fluxionref03_Is.calls k t253 _ _ t254 _ _ t257 a0_0 _ _ l0_1 _ _ l0_2 true _ ?side1 ?side2 ?side3 ?side4 ?side5 ?side6 ?side7 ?side8 A3.out).mono ?_); (case side1=>refine(Kd.R_reads' (e:=3) (base:=w.heap.size) (ok:=fun k_=>some k_≠(.slice Ao12 t257.length co12:Value).ownBlock) (n:=t254.length) (c:=co11) ?_).2.2; exact(by (with_reducible repeat (first | apply Kd.R_alloc | apply Kd.R_drewN | apply Kd.R_drew)); exact(Kd.R_mono (Kd.R_far (p:=⟨gb260,2,none⟩) (Kd.R_far (p:=⟨gb260,1,none⟩) (Kd.R_far (p:=⟨gb260,0,none⟩) (Kd.R_types HO256.out BK260.out (by decide)) (fun _ hk=>hk.2) (.bool t253)) (fun _ hk=>hk.2) (.slice Ao11 t254.length co11)) (fun _ hk=>hk.2) (.slice Ao12 t257.length co12)) (fun _ h_=>h_.1)))); (case side2=>exact(Kd.R_reads' HO256.out).2.1); (case side3=>refine(Kd.R_reads' (e:=3) (base:=w.heap.size) (ok:=fun k_=>some k_≠(.slice Ao11 t254.length co11:Value).ownBlock) (n:=t257.length) (c:=co12) ?_).2.2; exact(by (with_reducible repeat (first | apply Kd.R_alloc | apply Kd.R_drewN | apply Kd.R_drew)); exact(Kd.R_mono (Kd.R_far (p:=⟨gb260,2,none⟩) (Kd.R_far (p:=⟨gb260,1,none⟩) (Kd.R_far (p:=⟨gb260,0,none⟩) (Kd.R_types HO259.out BK260.out (by decide)) (fun _ hk=>hk.2) (.bool t253)) (fun _ hk=>hk.2) (.slice Ao11 t254.length co11)) (fun _ hk=>hk.2) (.slice Ao12 t257.length co12)) (fun _ h_=>h_.1)))); (case side4=>exact(Kd.R_reads' HO259.out).2.1); (case side5=>exact Kd.C_below HR0_1.out (qb2 HB.out GE252.out GE260.out)); (case side6=>exact HC0_1.out); (case side7=>exact Kd.C_below HR0_2.out (qb2 HB.out GE252.out GE260.out)); (case side8=>exact HC0_2.out); rintro e w14 ⟨rfl,hb⟩; refine⟨_,rfl,?_⟩; have n0_:=Aside0.mk (Kd.R_below (by (with_reducible repeat (first | apply Kd.R_alloc | apply Kd.R_drewN | apply Kd.R_drew)); exact(Kd.R_mono (Kd.R_far (p:=⟨gb260,2,none⟩) (Kd.R_far (p:=⟨gb260,1,none⟩) (Kd.R_far (p:=⟨gb260,0,none⟩) (Kd.R_types HO256.out BK260.out (by decide)) (fun _ hk=>hk.2) (.bool t253)) (fun _ hk=>hk.2) (.slice Ao11 t254.length co11)) (fun _ hk=>hk.2) (.slice Ao12 t257.length co12)) (fun _ h_=>h_.1))) hb); have n1_:=Aside0.mk (Kd.R_below (by (with_reducible repeat (first | apply Kd.R_alloc | apply Kd.R_drewN | apply Kd.R_drew)); exact(Kd.R_mono (Kd.R_far (p:=⟨gb260,2,none⟩) (Kd.R_far (p:=⟨gb260,1,none⟩) (Kd.R_far (p:=⟨gb260,0,none⟩) (Kd.R_types HO259.out BK260.out (by decide)) (fun _ hk=>hk.2) (.bool t253)) (fun _ hk=>hk.2) (.slice Ao11 t254.length co11)) (fun _ hk=>hk.2) (.slice Ao12 t257.length co12)) (fun _ h_=>h_.1))) hb); have n2_:=Aside0.mk (zbr (g:=gb252) (o:=.cells #[.bool a0_0,.slice A0_1 l0_1.length c0_1,.slice A0_2 l0_2.length c0_2] 27 (0,0)) (by (with_reducible repeat (first | refine zbv ?_ _ | refine zbu ?_ | refine zbt ?_ _)); refine zbJ ?_ NB252_260.out _; (with_reducible repeat (first | refine zbv ?_ _ | refine zbu ?_ | refine zbt ?_ _)); refine zbJ ?_ NB252_260.out _; (with_reducible repeat (first | refine zbv ?_ _ | refine zbu ?_ | refine zbt ?_ _)); refine zbJ ?_ NB252_260.out _; (with_reducible repeat (first | refine zbv ?_ _ | refine zbu ?_ | refine zbt ?_ _)); exact BK252.out) hb); have n3_:=Aside0.mk (zbr (g:=gb260) (o:=.cells #[.bool t253,.slice Ao11 t254.length co11,.slice Ao12 t257.length co12] 40 (0,0)) (by (with_reducible repeat (first | refine zbv ?_ _ | refine zbu ?_ | refine zbt ?_ _)); refine zbF (cs:=#[.bool t253,.slice Ao11 t254.length co11,.slice none 0 0]) ?_ 2 _ rfl; (with_reducible repeat (first | refine zbv ?_ _ | refine zbu ?_ | refine zbt ?_ _)); refine zbF (cs:=#[.bool t253,.slice none 0 0,.slice none 0 0]) ?_ 1 _ rfl; (with_reducible repeat (first | refine zbv ?_ _ | refine zbu ?_ | refine zbt ?_ _)); refine zbF (cs:=#[.bool false,.slice none 0 0,.slice none 0 0]) ?_ 0 _ rfl; (with_reducible repeat (first | refine zbv ?_ _ | refine zbu ?_ | refine zbt ?_ _)); exact BK260.out) hb); have n4_:=Aside0.mk (zbm (qb2 HB.out GE252.out GE260.out) hb); clear HO256; clear HO259; clear BK252; clear BK260; clear HB; have HO256:=n0_; have HO259:=n1_; have BK252:=n2_; have BK260:=n3_; have HB:=n4_; clear n0_ n1_ n2_ n3_ n4_; (try clear hb); (try clear hb2); (try clear hk); (try clear hi)))
  go_ret
  exact⟨by first | rfl | (simp [zbx,zbw]<;>rfl) | (simp [*,zbx,zbw]<;>rfl),by repeat (first | (with_reducible first | exact HB.out | apply zbn | apply zbo | apply zbs | refine zbB ?_ GE252.out | refine zbB ?_ GE260.out) | exact HB.out)⟩
 ·
  replace c4:=Bool.eq_false_iff.mpr c4
  subst c4
  have H1:(some 6)=some r:=by rw [if_neg (show ¬ (false=true) by decide)] at H; exact H
  clear H
  have H:=H1
  clear H1
  obtain rfl:=Option.some.inj H
  go_enter Tryz.func83,Tryz.ntmps83
  go_wp2_with (first | ((with_reducible refine zbD (N:=1) rfl ?_); refine zbC ?hg (N:=1) ?hd (cs:=#[.bool a0_0,.slice A0_1 l0_1.length c0_1,.slice A0_2 l0_2.length c0_2]) (t:=27) ?hr ?_; (case hd=>rfl); (case hg=>rfl); (case hr=>first | (go_simp; done) | (go_simp; rfl)); intro gb252 hg w15 hbox hb; have n0_:=Aside0.mk (zbm (qb HB.out) hb); have n1_:=Aside0.mk (hbox); have n2_:=Aside0.mk ((by rw [hg]; exact(zbp (qb HB.out)):w.heap.size≤gb252)); have n3_:=Aside0.mk ((by rw [hg]; exact(zbp (qb HB.out)):w.heap.size≤gb252)); clear HB; have HB:=n0_; have BK252:=n1_; have GW252:=n2_; have GE252:=n3_; clear n0_ n1_ n2_ n3_; clear hb hbox hg; obtain⟨hcz16_0,hcz16_1,hcz16_2,hfz16_0,hfz16_1,hfz16_2⟩:=qz BK252.out) | ((with_reducible refine zbz (f:=22) rfl ?_); refine zbK (some 5) rfl rfl Tryz.func22 (by kernel_rfl) rfl #[.agg #[.bool a0_0,.slice A0_1 l0_1.length c0_1,.slice A0_2 l0_2.length c0_2]] rfl (by (try simp only [List.map_toArray,List.map_cons,List.map_nil]); first | done | rfl | (simp only [List.length_drop,List.length_take]; rfl)) ?_; (with_reducible refine(fluxionref03_Of.calls k a0_0 _ _ l0_1 _ _ l0_2 t253 t254 t257 _ ?side1 ?side2 ?side3 ?side4 A2.out).mono ?_); (case side1=>exact qc (Kd.C_below HR0_1.out HB.out)); (case side2=>exact HC0_1.out); (case side3=>exact qc (Kd.C_below HR0_2.out HB.out)); (case side4=>exact HC0_2.out); rintro e w17 ⟨v255,v258,rfl,ho0,ho1,hb⟩; refine⟨_,rfl,?_⟩; have n0_:=Aside0.mk (Kd.R_lower ho0 (zbp (qb1 HB.out GE252.out))); have n1_:=Aside0.mk (Kd.R_lower ho1 (zbp (qb1 HB.out GE252.out))); have n2_:=Aside0.mk (zbr (g:=gb252) (o:=.cells #[.bool a0_0,.slice A0_1 l0_1.length c0_1,.slice A0_2 l0_2.length c0_2] 27 (0,0)) (qk BK252.out) hb); have n3_:=Aside0.mk (zbm (qb1 HB.out GE252.out) hb); clear BK252; clear HB; have HO256:=n0_; have HO259:=n1_; have BK252:=n2_; have HB:=n3_; clear n0_ n1_ n2_ n3_; (try clear hb); (try clear hb2); (try clear hk); (try clear hi); (try clear ho0); (try clear ho1)) | ((with_reducible refine zbD (N:=3) rfl ?_); refine zbC ?hg (N:=3) ?hd (cs:=#[.bool false,.slice none 0 0,.slice none 0 0]) (t:=40) ?hr ?_; (case hd=>rfl); (case hg=>rfl); (case hr=>first | (go_simp; done) | (go_simp; rfl)); intro gb260 hg w18 hbox hb; have n0_:=Aside0.mk (Kd.R_below (qr HO256.out) hb); have n1_:=Aside0.mk (Kd.R_below (qr HO259.out) hb); have n2_:=Aside0.mk (zbr (g:=gb252) (o:=.cells #[.bool a0_0,.slice A0_1 l0_1.length c0_1,.slice A0_2 l0_2.length c0_2] 27 (0,0)) (qk BK252.out) hb); have n3_:=Aside0.mk (zbm (qb1 HB.out GE252.out) hb); have n4_:=Aside0.mk (hbox); have n5_:=Aside0.mk ((by rw [hg]; exact(zbp (qb1 HB.out GE252.out)):w.heap.size≤gb260)); have n6_:=Aside0.mk ((by rw [hg]; exact(zbp (qb1 HB.out GE252.out)):w.heap.size≤gb260)); have n7_:=Aside0.mk ((by rw [hg]; exact Nat.ne_of_lt (zbL (g:=gb252) (o:=.cells #[.bool a0_0,.slice A0_1 l0_1.length c0_1,.slice A0_2 l0_2.length c0_2] 27 (0,0)) (qk BK252.out)):gb252≠gb260)); have n8_:=Aside0.mk ((by rw [hg]; exact Nat.ne_of_gt (zbL (g:=gb252) (o:=.cells #[.bool a0_0,.slice A0_1 l0_1.length c0_1,.slice A0_2 l0_2.length c0_2] 27 (0,0)) (qk BK252.out)):gb260≠gb252)); clear HO256; clear HO259; clear BK252; clear HB; have HO256:=n0_; have HO259:=n1_; have BK252:=n2_; have HB:=n3_; have BK260:=n4_; have GW260:=n5_; have GE260:=n6_; have NB252_260:=n7_; have NB260_252:=n8_; clear n0_ n1_ n2_ n3_ n4_ n5_ n6_ n7_ n8_; clear hb hbox hg; have hnb19:=NB260_252.out; have hnc19:=NB252_260.out; obtain⟨hcz20_0,hcz20_1,hcz20_2,hfz20_0,hfz20_1,hfz20_2⟩:=qz BK260.out; obtain⟨Ao21,co21,eo21⟩:=Kd.R_slice HO256.out; subst eo21; obtain⟨Ao22,co22,eo22⟩:=Kd.R_slice HO259.out; subst eo22; obtain⟨hcz23_0,hcz23_1,hcz23_2,hfz23_0,hfz23_1,hfz23_2⟩:=qz BK252.out) | ((with_reducible refine zbz (f:=36) rfl ?_); refine zbK (some 8) rfl rfl Tryz.func36 (by kernel_rfl) rfl #[.agg #[.bool t253,.slice Ao21 t254.length co21,.slice Ao22 t257.length co22],.agg #[.bool a0_0,.slice A0_1 l0_1.length c0_1,.slice A0_2 l0_2.length c0_2]] rfl (by (try simp only [List.map_toArray,List.map_cons,List.map_nil]); first | done | rfl | (simp only [List.length_drop,List.length_take]; rfl)) ?_; (with_reducible refine(fluxionref03_Is.calls k t253 _ _ t254 _ _ t257 a0_0 _ _ l0_1 _ _ l0_2 false _ ?side1 ?side2 ?side3 ?side4 ?side5 ?side6 ?side7 ?side8 A3.out).mono ?_); (case side1=>refine(Kd.R_reads' (e:=3) (base:=w.heap.size) (ok:=fun k_=>some k_≠(.slice Ao22 t257.length co22:Value).ownBlock) (n:=t254.length) (c:=co21) ?_).2.2; exact(by (with_reducible repeat (first | apply Kd.R_alloc | apply Kd.R_drewN | apply Kd.R_drew)); exact(Kd.R_mono (Kd.R_far (p:=⟨gb260,2,none⟩) (Kd.R_far (p:=⟨gb260,1,none⟩) (Kd.R_far (p:=⟨gb260,0,none⟩) (Kd.R_types HO256.out BK260.out (by decide)) (fun _ hk=>hk.2) (.bool t253)) (fun _ hk=>hk.2) (.slice Ao21 t254.length co21)) (fun _ hk=>hk.2) (.slice Ao22 t257.length co22)) (fun _ h_=>h_.1)))); (case side2=>exact(Kd.R_reads' HO256.out).2.1); (case side3=>refine(Kd.R_reads' (e:=3) (base:=w.heap.size) (ok:=fun k_=>some k_≠(.slice Ao21 t254.length co21:Value).ownBlock) (n:=t257.length) (c:=co22) ?_).2.2; exact(by (with_reducible repeat (first | apply Kd.R_alloc | apply Kd.R_drewN | apply Kd.R_drew)); exact(Kd.R_mono (Kd.R_far (p:=⟨gb260,2,none⟩) (Kd.R_far (p:=⟨gb260,1,none⟩) (Kd.R_far (p:=⟨gb260,0,none⟩) (Kd.R_types HO259.out BK260.out (by decide)) (fun _ hk=>hk.2) (.bool t253)) (fun _ hk=>hk.2) (.slice Ao21 t254.length co21)) (fun _ hk=>hk.2) (.slice Ao22 t257.length co22)) (fun _ h_=>h_.1)))); (case side4=>exact(Kd.R_reads' HO259.out).2.1); (case side5=>exact Kd.C_below HR0_1.out (qb2 HB.out GE252.out GE260.out)); (case side6=>exact HC0_1.out); (case side7=>exact Kd.C_below HR0_2.out (qb2 HB.out GE252.out GE260.out)); (case side8=>exact HC0_2.out); rintro e w24 ⟨rfl,hb⟩; refine⟨_,rfl,?_⟩; have n0_:=Aside0.mk (Kd.R_below (by (with_reducible repeat (first | apply Kd.R_alloc | apply Kd.R_drewN | apply Kd.R_drew)); exact(Kd.R_mono (Kd.R_far (p:=⟨gb260,2,none⟩) (Kd.R_far (p:=⟨gb260,1,none⟩) (Kd.R_far (p:=⟨gb260,0,none⟩) (Kd.R_types HO256.out BK260.out (by decide)) (fun _ hk=>hk.2) (.bool t253)) (fun _ hk=>hk.2) (.slice Ao21 t254.length co21)) (fun _ hk=>hk.2) (.slice Ao22 t257.length co22)) (fun _ h_=>h_.1))) hb); have n1_:=Aside0.mk (Kd.R_below (by (with_reducible repeat (first | apply Kd.R_alloc | apply Kd.R_drewN | apply Kd.R_drew)); exact(Kd.R_mono (Kd.R_far (p:=⟨gb260,2,none⟩) (Kd.R_far (p:=⟨gb260,1,none⟩) (Kd.R_far (p:=⟨gb260,0,none⟩) (Kd.R_types HO259.out BK260.out (by decide)) (fun _ hk=>hk.2) (.bool t253)) (fun _ hk=>hk.2) (.slice Ao21 t254.length co21)) (fun _ hk=>hk.2) (.slice Ao22 t257.length co22)) (fun _ h_=>h_.1))) hb); have n2_:=Aside0.mk (zbr (g:=gb252) (o:=.cells #[.bool a0_0,.slice A0_1 l0_1.length c0_1,.slice A0_2 l0_2.length c0_2] 27 (0,0)) (by (with_reducible repeat (first | refine zbv ?_ _ | refine zbu ?_ | refine zbt ?_ _)); refine zbJ ?_ NB252_260.out _; (with_reducible repeat (first | refine zbv ?_ _ | refine zbu ?_ | refine zbt ?_ _)); refine zbJ ?_ NB252_260.out _; (with_reducible repeat (first | refine zbv ?_ _ | refine zbu ?_ | refine zbt ?_ _)); refine zbJ ?_ NB252_260.out _; (with_reducible repeat (first | refine zbv ?_ _ | refine zbu ?_ | refine zbt ?_ _)); exact BK252.out) hb); have n3_:=Aside0.mk (zbr (g:=gb260) (o:=.cells #[.bool t253,.slice Ao21 t254.length co21,.slice Ao22 t257.length co22] 40 (0,0)) (by (with_reducible repeat (first | refine zbv ?_ _ | refine zbu ?_ | refine zbt ?_ _)); refine zbF (cs:=#[.bool t253,.slice Ao21 t254.length co21,.slice none 0 0]) ?_ 2 _ rfl; (with_reducible repeat (first | refine zbv ?_ _ | refine zbu ?_ | refine zbt ?_ _)); refine zbF (cs:=#[.bool t253,.slice none 0 0,.slice none 0 0]) ?_ 1 _ rfl; (with_reducible repeat (first | refine zbv ?_ _ | refine zbu ?_ | refine zbt ?_ _)); refine zbF (cs:=#[.bool false,.slice none 0 0,.slice none 0 0]) ?_ 0 _ rfl; (with_reducible repeat (first | refine zbv ?_ _ | refine zbu ?_ | refine zbt ?_ _)); exact BK260.out) hb); have n4_:=Aside0.mk (zbm (qb2 HB.out GE252.out GE260.out) hb); clear HO256; clear HO259; clear BK252; clear BK260; clear HB; have HO256:=n0_; have HO259:=n1_; have BK252:=n2_; have BK260:=n3_; have HB:=n4_; clear n0_ n1_ n2_ n3_ n4_; (try clear hb); (try clear hb2); (try clear hk); (try clear hi)))
  go_ret
  exact⟨by first | rfl | (simp [zbx,zbw]<;>rfl) | (simp [*,zbx,zbw]<;>rfl),by repeat (first | (with_reducible first | exact HB.out | apply zbn | apply zbo | apply zbs | refine zbB ?_ GE252.out | refine zbB ?_ GE260.out) | exact HB.out)⟩
def fluxionref03_size.f (k:Nat) (a0:Int):Option (List Int):=if a0 < 0 then ((fluxionref01_Small.f k (wrap64 (-(wrap64 (a0+1))))).bind fun t262=>((fluxionref01_Add.f k t262 (([1]:List Int))).bind fun t268=>(some t268))) else ((fluxionref01_Small.f k a0).bind fun t271=>(some t271))
theorem fluxionref03_size.calls (k:Nat) (a0:Int) (r:List Int) (w:World) (h:fluxionref03_size.f k a0=some r) :
  Calls Tryz.prog 131 #[.int .i64 a0] w fun e w'=>∃ v0_:Value,e=.returned (v0_)∧Kd.R (Kd.int .i64) 3 w' w.heap.size (fun _=>True) v0_ r∧Below w.heap.size w w':=by
 have HB:=Aside0.mk (Below.refl w.heap.size w)
 have H:(if a0 < 0 then ((fluxionref01_Small.f k (wrap64 (-(wrap64 (a0+1))))).bind fun t262=>((fluxionref01_Add.f k t262 (([1]:List Int))).bind fun t268=>(some t268))) else ((fluxionref01_Small.f k a0).bind fun t271=>(some t271)))=some r:=h
 clear h
 by_cases c2:a0 < 0
 ·
  rw [if_pos c2] at H
  have c2b0:decide (a0 < 0)=true:=decide_eq_true c2
  clear c2
  replace H:=Option.bind_eq_some_iff.mp H
  obtain⟨t262,A30,H⟩:=H
  replace H:((fluxionref01_Add.f k t262 (([1]:List Int))).bind fun t268=>(some t268))=some r:=H
  have A3:=Aside0.mk A30
  clear A30
  obtain⟨y265,hy265⟩:∃ y_:List Int,y_=(([1]:List Int)):=⟨_,rfl⟩
  replace H:((fluxionref01_Add.f k t262 y265).bind fun t268=>(some t268))=some r:=by first | (rw [hy265]; with_reducible exact H) | (have H2_:=(Option.bind_some _ _).symm.trans H; rw [hy265]; with_reducible exact H2_) | (have H2_:=(Option.bind_some _ _).symm.trans H; with_reducible exact H2_) | with_reducible exact H | (rw [hy265]; exact H) | exact H
  have Ny265:=Aside0.mk hy265
  clear hy265
  replace H:=Option.bind_eq_some_iff.mp H
  obtain⟨t268,A40,H⟩:=H
  replace H:(some t268)=some r:=H
  have A4:=Aside0.mk A40
  clear A40
  obtain rfl:=Option.some.inj H
  go_enter Tryz.func131,Tryz.ntmps131
  go_wp2_with (first | ((with_reducible refine zbz (f:=128) rfl ?_); refine zbK (some 8) rfl rfl Tryz.func128 (by kernel_rfl) rfl #[.int .i64 (wrap64 (-(wrap64 (a0+1))))] rfl (by (try simp only [List.map_toArray,List.map_cons,List.map_nil]); first | done | rfl | (simp only [List.length_drop,List.length_take]; rfl)) ?_; (with_reducible refine(fluxionref01_Small.calls k (wrap64 (-(wrap64 (a0+1)))) t262 _ A3.out).mono ?_); rintro e w5 ⟨v263,rfl,ho0,hb⟩; refine⟨_,rfl,?_⟩; have n0_:=Aside0.mk (Kd.R_lower ho0 (zbp (qb HB.out))); have n1_:=Aside0.mk (zbm (qb HB.out) hb); clear HB; have HO264:=n0_; have HB:=n1_; clear n0_ n1_; (try clear hb); (try clear hb2); (try clear hk); (try clear hi); (try clear ho0)) | ((with_reducible refine zbD (N:=9) rfl ?_); refine Kd.R_lit (Kd.int .i64) _ 3 ?hg (N:=9) ?hd (xs:=([1]:List Int)) (inner:=[.int .i64 1]) (ok:=fun _=>True) (okp:=fun _=>True) ?hr ?hp (fun _ hk=>hk) trivial (Below.refl _ _) (Nat.le_refl _) (by simp) ?_; (case hd=>rfl); (case hg=>rfl); (case hr=>first | (go_simp; done) | (go_simp; rfl)); (case hp=>exact(Reps.one (show Kd.M (Kd.int .i64) _ _ _ 1 [.int .i64 1] from rfl) (Reps.none _ _))); intro v266 w6 ho7 hb hg_ hnew_; clear hg_ hnew_; (first | rw [← Ny265.out] at ho7 | (simp only [Int.reduceToNat] at ho7; rw [← Ny265.out] at ho7)); have n0_:=Aside0.mk (Kd.R_elder' (qr HO264.out) (Kd.R_base ho7) hb); have n1_:=Aside0.mk (Kd.R_lower (Kd.R_new' ho7 (Kd.R_lt (qr HO264.out))) (zbp (qb HB.out))); have n2_:=Aside0.mk (zbm (qb HB.out) hb); clear HO264; clear HB; have HO264:=n0_; have HO267:=n1_; have HB:=n2_; clear n0_ n1_ n2_; clear hb ho7; obtain⟨Ao8,co8,eo8⟩:=Kd.R_slice HO264.out; subst eo8; obtain⟨Ao9,co9,eo9⟩:=Kd.R_slice HO267.out; subst eo9) | ((with_reducible refine zbz (f:=126) rfl ?_); refine zbK (some 10) rfl rfl Tryz.func126 (by kernel_rfl) rfl #[.slice Ao8 t262.length co8,.slice Ao9 y265.length co9] rfl (by (try simp only [List.map_toArray,List.map_cons,List.map_nil]); first | done | rfl | (simp only [List.length_drop,List.length_take]; rfl)) ?_; (with_reducible refine(fluxionref01_Add.calls k _ _ t262 _ _ y265 t268 _ ?side1 ?side2 ?side3 ?side4 A4.out).mono ?_); (case side1=>exact qc (Kd.R_reads' HO264.out).2.2); (case side2=>exact(Kd.R_reads' HO264.out).2.1); (case side3=>exact qc (Kd.R_reads' HO267.out).2.2); (case side4=>exact(Kd.R_reads' HO267.out).2.1); rintro e w10 ⟨v269,rfl,ho0,hb⟩; refine⟨_,rfl,?_⟩; have n0_:=Aside0.mk (Kd.R_elder' (qr HO264.out) (Kd.R_base ho0) hb); have n1_:=Aside0.mk (Kd.R_elder' (qr HO267.out) (Kd.R_base ho0) hb); have n2_:=Aside0.mk (Kd.R_lower (Kd.R_new' (Kd.R_new' ho0 (Kd.R_lt (qr HO264.out))) (Kd.R_lt (qr HO267.out))) (zbp (qb HB.out))); have n3_:=Aside0.mk (zbm (qb HB.out) hb); clear HO264; clear HO267; clear HB; have HO264:=n0_; have HO267:=n1_; have HO270:=n2_; have HB:=n3_; clear n0_ n1_ n2_ n3_; (try clear hb); (try clear hb2); (try clear hk); (try clear hi); (try clear ho0)))
  go_ret
  exact⟨_,by first | rfl | (simp [zbx,zbw]<;>rfl) | (simp [*,zbx,zbw]<;>rfl),by (with_reducible repeat (first | apply Kd.R_alloc | apply Kd.R_drewN | apply Kd.R_drew)); exact Kd.R_mono HO270.out (fun _ hk=>trivial),by repeat (first | (with_reducible first | exact HB.out | apply zbn | apply zbo | apply zbs) | exact HB.out)⟩
 ·
  rw [if_neg c2] at H
  have c2b0:decide (a0 < 0)=false:=decide_eq_false c2
  clear c2
  replace H:=Option.bind_eq_some_iff.mp H
  obtain⟨t271,A110,H⟩:=H
  replace H:(some t271)=some r:=H
  have A11:=Aside0.mk A110
  clear A110
  obtain rfl:=Option.some.inj H
  go_enter Tryz.func131,Tryz.ntmps131
  go_wp2_with (first | ((with_reducible refine zbz (f:=128) rfl ?_); refine zbK (some 12) rfl rfl Tryz.func128 (by kernel_rfl) rfl #[.int .i64 a0] rfl (by (try simp only [List.map_toArray,List.map_cons,List.map_nil]); first | done | rfl | (simp only [List.length_drop,List.length_take]; rfl)) ?_; (with_reducible refine(fluxionref01_Small.calls k a0 t271 _ A11.out).mono ?_); rintro e w12 ⟨v272,rfl,ho0,hb⟩; refine⟨_,rfl,?_⟩; have n0_:=Aside0.mk (Kd.R_lower ho0 (zbp (qb HB.out))); have n1_:=Aside0.mk (zbm (qb HB.out) hb); clear HB; have HO273:=n0_; have HB:=n1_; clear n0_ n1_; (try clear hb); (try clear hb2); (try clear hk); (try clear hi); (try clear ho0)))
  go_ret
  exact⟨_,by first | rfl | (simp [zbx,zbw]<;>rfl) | (simp [*,zbx,zbw]<;>rfl),by (with_reducible repeat (first | apply Kd.R_alloc | apply Kd.R_drewN | apply Kd.R_drew)); exact HO273.out,by repeat (first | (with_reducible first | exact HB.out | apply zbn | apply zbo | apply zbs) | exact HB.out)⟩
def fluxionref03_Int.f (k:Nat) (a0:Int):Option (Bool×List Int×List Int):=(fluxionref03_size.f k a0).bind fun t275=>(some (decide (a0 < 0),t275,(([1]:List Int))))
theorem fluxionref03_Int.calls (k:Nat) (a0:Int) (r1:Bool) (r2:List Int) (r3:List Int) (w:World) (h:fluxionref03_Int.f k a0=some (r1,r2,r3)) :
  Calls Tryz.prog 81 #[.int .i64 a0] w fun e w'=>∃ v1_ v2_:Value,e=.returned (.agg #[.bool r1,v1_,v2_])∧Kd.R (Kd.int .i64) 3 w' w.heap.size (fun k_=>some k_≠(v2_:Value).ownBlock) v1_ r2∧Kd.R (Kd.int .i64) 3 w' w.heap.size (fun k_=>some k_≠(v1_:Value).ownBlock) v2_ r3∧Below w.heap.size w w':=by
 have hu40:=Tryz.underlying40
 have HB:=Aside0.mk (Below.refl w.heap.size w)
 have H:((fluxionref03_size.f k a0).bind fun t275=>(some (decide (a0 < 0),t275,(([1]:List Int)))))=some (r1,r2,r3):=h
 clear h
 replace H:=Option.bind_eq_some_iff.mp H
 obtain⟨t275,A20,H⟩:=H
 replace H:(some (decide (a0 < 0),t275,(([1]:List Int))))=some (r1,r2,r3):=H
 have A2:=Aside0.mk A20
 clear A20
 obtain⟨y278,hy278⟩:∃ y_:List Int,y_=(([1]:List Int)):=⟨_,rfl⟩
 replace H:(some (decide (a0 < 0),t275,y278))=some (r1,r2,r3):=by first | (rw [hy278]; with_reducible exact H) | (have H2_:=(Option.bind_some _ _).symm.trans H; rw [hy278]; with_reducible exact H2_) | (have H2_:=(Option.bind_some _ _).symm.trans H; with_reducible exact H2_) | with_reducible exact H | (rw [hy278]; exact H) | exact H
 have Ny278:=Aside0.mk hy278
 clear hy278
 simp only [Option.some.injEq,Prod.mk.injEq] at H
 obtain⟨rfl,rfl,rfl⟩:=H
 go_enter Tryz.func81,Tryz.ntmps81
 go_wp2_with (first | ((with_reducible refine zbD (N:=2) rfl ?_); refine zbC ?hg (N:=2) ?hd (cs:=#[.bool false,.slice none 0 0,.slice none 0 0]) (t:=40) ?hr ?_; (case hd=>rfl); (case hg=>rfl); (case hr=>first | (go_simp; done) | (go_simp; rfl)); intro gb274 hg w3 hbox hb; have n0_:=Aside0.mk (zbm (qb HB.out) hb); have n1_:=Aside0.mk (hbox); have n2_:=Aside0.mk ((by rw [hg]; exact(zbp (qb HB.out)):w.heap.size≤gb274)); have n3_:=Aside0.mk ((by rw [hg]; exact(zbp (qb HB.out)):w.heap.size≤gb274)); clear HB; have HB:=n0_; have BK274:=n1_; have GW274:=n2_; have GE274:=n3_; clear n0_ n1_ n2_ n3_; clear hb hbox hg) | ((with_reducible refine zbz (f:=131) rfl ?_); refine zbK (some 6) rfl rfl Tryz.func131 (by kernel_rfl) rfl #[.int .i64 a0] rfl (by (try simp only [List.map_toArray,List.map_cons,List.map_nil]); first | done | rfl | (simp only [List.length_drop,List.length_take]; rfl)) ?_; (with_reducible refine(fluxionref03_size.calls k a0 t275 _ A2.out).mono ?_); rintro e w4 ⟨v276,rfl,ho0,hb⟩; refine⟨_,rfl,?_⟩; have n0_:=Aside0.mk (Kd.R_lower ho0 (zbp (qb1 HB.out GE274.out))); have n1_:=Aside0.mk (zbr (g:=gb274) (o:=.cells #[.bool false,.slice none 0 0,.slice none 0 0] 40 (0,0)) (qk BK274.out) hb); have n2_:=Aside0.mk (zbm (qb1 HB.out GE274.out) hb); clear BK274; clear HB; have HO277:=n0_; have BK274:=n1_; have HB:=n2_; clear n0_ n1_ n2_; (try clear hb); (try clear hb2); (try clear hk); (try clear hi); (try clear ho0)) | ((with_reducible refine zbD (N:=7) rfl ?_); refine Kd.R_lit (Kd.int .i64) _ 3 ?hg (N:=7) ?hd (xs:=([1]:List Int)) (inner:=[.int .i64 1]) (ok:=fun _=>True) (okp:=fun _=>True) ?hr ?hp (fun _ hk=>hk) trivial (Below.refl _ _) (Nat.le_refl _) (by simp) ?_; (case hd=>rfl); (case hg=>rfl); (case hr=>first | (go_simp; done) | (go_simp; rfl)); (case hp=>exact(Reps.one (show Kd.M (Kd.int .i64) _ _ _ 1 [.int .i64 1] from rfl) (Reps.none _ _))); intro v279 w5 ho6 hb hg_ hnew_; clear hg_ hnew_; (first | rw [← Ny278.out] at ho6 | (simp only [Int.reduceToNat] at ho6; rw [← Ny278.out] at ho6)); have n0_:=Aside0.mk (Kd.R_elder' (qr HO277.out) (Kd.R_base ho6) hb); have n1_:=Aside0.mk (Kd.R_lower (Kd.R_new' ho6 (Kd.R_lt (qr HO277.out))) (zbp (qb1 HB.out GE274.out))); have n2_:=Aside0.mk (zbr (g:=gb274) (o:=.cells #[.bool false,.slice none 0 0,.slice none 0 0] 40 (0,0)) (qk BK274.out) hb); have n3_:=Aside0.mk (zbm (qb1 HB.out GE274.out) hb); clear HO277; clear BK274; clear HB; have HO277:=n0_; have HO280:=n1_; have BK274:=n2_; have HB:=n3_; clear n0_ n1_ n2_ n3_; clear hb ho6; obtain⟨Ao7,co7,eo7⟩:=Kd.R_slice HO280.out; subst eo7; obtain⟨Ao8,co8,eo8⟩:=Kd.R_slice HO277.out; subst eo8; obtain⟨hcz9_0,hcz9_1,hcz9_2,hfz9_0,hfz9_1,hfz9_2⟩:=qz BK274.out))
 refine bodyPost_ret (results_cell_row rfl _ _ gb274 40 #[.bool (decide (a0 < 0)),.slice Ao8 t275.length co8,.slice Ao7 y278.length co7] (0,0) _ rfl (by (with_reducible repeat (first | refine zbv ?_ _ | refine zbu ?_ | refine zbt ?_ _)); refine zbF (cs:=#[.bool (decide (a0 < 0)),.slice Ao8 t275.length co8,.slice none 0 0]) ?_ 2 _ rfl; (with_reducible repeat (first | refine zbv ?_ _ | refine zbu ?_ | refine zbt ?_ _)); refine zbF (cs:=#[.bool (decide (a0 < 0)),.slice none 0 0,.slice none 0 0]) ?_ 1 _ rfl; (with_reducible repeat (first | refine zbv ?_ _ | refine zbu ?_ | refine zbt ?_ _)); refine zbF (cs:=#[.bool false,.slice none 0 0,.slice none 0 0]) ?_ 0 _ rfl; (with_reducible repeat (first | refine zbv ?_ _ | refine zbu ?_ | refine zbt ?_ _)); exact BK274.out) Tryz.underlying40 rfl (by kernel_rfl)) rfl ?_
 exact⟨_,_,by first | rfl | (simp [zbx,zbw]<;>rfl) | (simp [*,zbx,zbw]<;>rfl),by (with_reducible repeat (first | apply Kd.R_alloc | apply Kd.R_drewN | apply Kd.R_drew)); exact Kd.R_mono (Kd.R_far (p:=⟨gb274,2,none⟩) (Kd.R_far (p:=⟨gb274,1,none⟩) (Kd.R_far (p:=⟨gb274,0,none⟩) (Kd.R_types HO277.out BK274.out (by decide)) (fun _ hk=>hk.2) (.bool (decide (a0 < 0)))) (fun _ hk=>hk.2) (.slice Ao8 t275.length co8)) (fun _ hk=>hk.2) (.slice Ao7 y278.length co7)) (fun _ hk=>hk.1.2),by (with_reducible repeat (first | apply Kd.R_alloc | apply Kd.R_drewN | apply Kd.R_drew)); exact Kd.R_mono (Kd.R_far (p:=⟨gb274,2,none⟩) (Kd.R_far (p:=⟨gb274,1,none⟩) (Kd.R_far (p:=⟨gb274,0,none⟩) (Kd.R_types HO280.out BK274.out (by decide)) (fun _ hk=>hk.2) (.bool (decide (a0 < 0)))) (fun _ hk=>hk.2) (.slice Ao8 t275.length co8)) (fun _ hk=>hk.2) (.slice Ao7 y278.length co7)) (fun _ hk=>hk.1.2),by repeat (first | (with_reducible first | exact HB.out | apply zbn | apply zbo | apply zbs | refine zbB ?_ GE274.out) | exact HB.out)⟩
end Go.Proofs.YtehghijlchpeaaaGreat.L
end
section
namespace Go.Proofs.YtehghijlchpeaaaGreat.L
open Go.RowKit YtehghijlchpeaaaGreatW.PrintWords YtehghijlchpeaaaGreatW.PrintLast YtehghijlchpeaaaGreatW.PrintMore
attribute [local go_sem] zbX zbZ zb2 zb1 zbQ zbR zbW zbY   -- for this text's walks alone
def fluxionref01_Mul.l0:Nat→List Int→List Int→List Int→Int→Option (List Int)
 | 0,_,_,_,_=>none
 | k+1,x0,x1,x5,x6=>if x6 ≥ 0 then (if (x5.length:Int) > 0 then ((some (([0]:List Int):List Int)).bind fun y299=>(if y299.length+x5.length < 17592186044416 then (if 0≤x6 then (if x6 < (x1.length:Int) then ((fluxionref01_Times.f k x0 (rd x1 x6)).bind fun t306=>((fluxionref01_Add.f k (y299++x5) t306).bind fun t309=>(fluxionref01_Mul.l0 k x0 x1 t309 (wrap64 (x6-1))))) else (none)) else (none)) else (none))) else (if 0≤x6 then (if x6 < (x1.length:Int) then ((fluxionref01_Times.f k x0 (rd x1 x6)).bind fun t313=>((fluxionref01_Add.f k ([]:List Int) t313).bind fun t316=>(fluxionref01_Mul.l0 k x0 x1 t316 (wrap64 (x6-1))))) else (none)) else (none))) else (some x5)
def fluxionref01_Mul.f (k:Nat) (l0:List Int) (l1:List Int):Option (List Int):=fluxionref01_Mul.l0 k l0 l1 ([]:List Int) (wrap64 ((l1.length:Int)-1))
theorem fluxionref01_Mul.calls (k:Nat) (A0:Option Addr) (c0:Nat) (l0:List Int) (A1:Option Addr) (c1:Nat) (l1:List Int) (r:List Int) (w:World) (hr0:Kd.C (Kd.int .i64) w A0 l0.length l0) (hc0:l0.length≤c0) (hr1:Kd.C (Kd.int .i64) w A1 l1.length l1) (hc1:l1.length≤c1) (h:fluxionref01_Mul.f k l0 l1=some r) :
  Calls Tryz.prog 142 #[.slice A0 l0.length c0,.slice A1 l1.length c1] w fun e w'=>∃ v0_:Value,e=.returned (v0_)∧Kd.R (Kd.int .i64) 3 w' w.heap.size (fun _=>True) v0_ r∧Below w.heap.size w w':=by
 have HR0:=Aside0.mk hr0
 have HC0:=Aside0.mk hc0
 clear hr0 hc0
 have HR1:=Aside0.mk hr1
 have HC1:=Aside0.mk hc1
 clear hr1 hc1
 have HB:=Aside0.mk (Below.refl w.heap.size w)
 have H:(fluxionref01_Mul.l0 k l0 l1 ([]:List Int) (wrap64 ((l1.length:Int)-1)))=some r:=h
 clear h
 have H':=Aside0.mk H
 clear H
 go_enter Tryz.func142,Tryz.ntmps142
 go_wp2
 go_loopg [5,6] k (fun kq v5 v6 w'=>∃ (x5_1:List Int) (x6_1:Int),v6=.int .i64 x6_1∧Aside0 (fluxionref01_Mul.l0 kq l0 l1 x5_1 x6_1=some r)∧Aside0 (kq≤k)∧Aside0 (Kd.R (Kd.int .i64) 3 w' w.heap.size (fun _=>True) v5 x5_1)∧Aside0 (Below w.heap.size w w'))
 case atStart=>exact⟨(([]:List Int)),(wrap64 ((l1.length:Int)-1)),(by first | rfl | (simp; done) | (simp [*]; done)),H',⟨Nat.le_refl _⟩,⟨by first | exact Kd.R_nil _ _ _ _ _ | exact Kd.N_nil _ _ _ _ _ | exact Kd.V_nil _ _ _ _ _ | exact Kd.Q_nil _ _ _ _ _ | exact Kd.S_nil _ _ _ _ _⟩,⟨by repeat (first | (with_reducible first | exact HB.out | apply zbn | apply zbo | apply zbs) | exact HB.out)⟩⟩
 case round =>
  clear H'
  try clear c1
  try clear p2
  obtain⟨x5_1,x6_1,rfl,HA,HK1,HO_5,HB⟩:=hrel
  cases gk with
  | zero=>exact absurd HA.out (by simp [fluxionref01_Mul.l0])
  | succ k1 =>
   have H:=HA.out
   clear HA
   simp only [fluxionref01_Mul.l0] at H
   by_cases c3:x6_1 ≥ 0
   ·
    rw [if_pos c3] at H
    have c3b0:decide (0≤x6_1)=true:=decide_eq_true c3
    clear c3
    by_cases c4:(x5_1.length:Int) > 0
    ·
     rw [if_pos c4] at H
     have c4b0:decide (0 < (x5_1.length:Int))=true:=decide_eq_true c4
     have c4b1:decide (0 < x5_1.length)=true:=decide_eq_true (by omega)
     clear c4
     obtain⟨y299,hy299⟩:∃ y_:List Int,y_=(([0]:List Int)):=⟨_,rfl⟩
     replace H:(if y299.length+x5_1.length < 17592186044416 then (if 0≤x6_1 then (if x6_1 < (l1.length:Int) then ((fluxionref01_Times.f k1 l0 (rd l1 x6_1)).bind fun t306=>((fluxionref01_Add.f k1 (y299++x5_1) t306).bind fun t309=>(fluxionref01_Mul.l0 k1 l0 l1 t309 (wrap64 (x6_1-1))))) else (none)) else (none)) else (none))=some r:=by first | (rw [hy299]; with_reducible exact H) | (have H2_:=(Option.bind_some _ _).symm.trans H; rw [hy299]; with_reducible exact H2_) | (have H2_:=(Option.bind_some _ _).symm.trans H; with_reducible exact H2_) | with_reducible exact H | (rw [hy299]; exact H) | exact H
     have Ny299:=Aside0.mk hy299
     clear hy299
     by_cases c5:y299.length+x5_1.length < 17592186044416
     ·
      rw [if_pos c5] at H
      have LMc5:=Aside0.mk c5
      clear c5
      obtain⟨y302,hy302⟩:∃ y_:List Int,y_=(y299++x5_1):=⟨_,rfl⟩
      replace H:(if 0≤x6_1 then (if x6_1 < (l1.length:Int) then ((fluxionref01_Times.f k1 l0 (rd l1 x6_1)).bind fun t306=>((fluxionref01_Add.f k1 y302 t306).bind fun t309=>(fluxionref01_Mul.l0 k1 l0 l1 t309 (wrap64 (x6_1-1))))) else (none)) else (none))=some r:=by first | (rw [hy302]; with_reducible exact H) | (have H2_:=(Option.bind_some _ _).symm.trans H; rw [hy302]; with_reducible exact H2_) | (have H2_:=(Option.bind_some _ _).symm.trans H; with_reducible exact H2_) | with_reducible exact H | (rw [hy302]; exact H) | exact H
      have Ny302:=Aside0.mk hy302
      clear hy302
      by_cases c6:0≤x6_1
      ·
       rw [if_pos c6] at H
       have c6b0:decide (0≤x6_1)=true:=decide_eq_true c6
       clear c6
       by_cases c7:x6_1 < (l1.length:Int)
       ·
        rw [if_pos c7] at H
        have c7b0:decide (x6_1 < (l1.length:Int))=true:=decide_eq_true c7
        clear c7
        replace H:=Option.bind_eq_some_iff.mp H
        obtain⟨t306,A80,H⟩:=H
        replace H:((fluxionref01_Add.f k1 y302 t306).bind fun t309=>(fluxionref01_Mul.l0 k1 l0 l1 t309 (wrap64 (x6_1-1))))=some r:=H
        have A8:=Aside0.mk A80
        clear A80
        replace H:=Option.bind_eq_some_iff.mp H
        obtain⟨t309,A90,H⟩:=H
        replace H:(fluxionref01_Mul.l0 k1 l0 l1 t309 (wrap64 (x6_1-1)))=some r:=H
        have A9:=Aside0.mk A90
        clear A90
        have H':=Aside0.mk H
        clear H
        obtain⟨Ao10,co10,eo10⟩:=Kd.R_slice HO_5.out
        subst eo10
        go_wp2_with (first | ((with_reducible refine zbD (N:=18) rfl ?_); refine Kd.R_lit (Kd.int .i64) _ 3 ?hg (N:=18) ?hd (xs:=([0]:List Int)) (inner:=[.int .i64 0]) (ok:=fun _=>True) (okp:=fun _=>True) ?hr ?hp (fun _ hk=>hk) trivial (Below.refl _ _) (Nat.le_refl _) (by simp) ?_; (case hd=>rfl); (case hg=>rfl); (case hr=>first | (go_simp; done) | (go_simp; rfl)); (case hp=>exact(Reps.one (show Kd.M (Kd.int .i64) _ _ _ 0 [.int .i64 0] from rfl) (Reps.none _ _))); intro v300 w11 ho12 hb hg_ hnew_; clear hg_ hnew_; (first | rw [← Ny299.out] at ho12 | (simp only [Int.reduceToNat] at ho12; rw [← Ny299.out] at ho12)); have n0_:=Aside0.mk (Kd.R_elder' (qr HO_5.out) (Kd.R_base ho12) hb); have n1_:=Aside0.mk (Kd.R_lower (Kd.R_new' ho12 (Kd.R_lt (qr HO_5.out))) (zbp (qb HB.out))); have n2_:=Aside0.mk (zbm (qb HB.out) hb); clear HO_5; clear HB; have HO_5:=n0_; have HO301:=n1_; have HB:=n2_; clear n0_ n1_ n2_; clear hb ho12) | ((with_reducible refine zbO (b:=.append) (xs:=#[.tmp 18,.tmp 19]) rfl ?_); at_builtin; refine Kd.R_append_rows (Kd.int .i64) (w0:=w) w.heap.size rfl (.tmp 18) (.tmp 19) 38 3 (.int .i64 0) 8 rfl Tryz.underlying38 info3 rfl (by decide) (by omega) v300 y299 x5_1 _ _ _ (fun k_=>some k_≠(.slice Ao10 x5_1.length co10:Value).ownBlock) (fun _=>False) rfl rfl ?aO ?aR (fun _ _ h=>h) (fun _ h=>h.elim) ?aF ?aB ?aS ?aL ?_; (case aR=>exact qc (Kd.R_reads' HO_5.out).2.2); (case aB=>exact(qb HB.out)); (case aF=>exact(fun k_ hk=>Kd.fresh' (Kd.R_lt (qr HO_5.out)) k_ hk)); (case aO=>exact(by (with_reducible repeat (first | apply Kd.R_alloc | apply Kd.R_drewN | apply Kd.R_drew)); exact Kd.R_mono HO301.out (fun _ hk=>hk.2))); (case aS=>exact(zbp (qb HB.out))); (case aL=>have:=LMc5.out; omega); intro v303 w13 ho hb hg hat; rw [← Ny302.out] at ho; have n0_:=Aside0.mk (Kd.R_after (ok:=(fun _=>True)) (qr HO_5.out) hg hat); have n1_:=Aside0.mk (hb); have n2_:=Aside0.mk (ho); clear HO_5; clear HB; clear HO301; have HO_5:=n0_; have HB:=n1_; have HO304:=n2_; clear n0_ n1_ n2_; clear ho hb hg hat; have p305:0≤(x6_1:Int):=of_decide_eq_true qs; have q305:x6_1 < (l1.length:Int):=of_decide_eq_true qs; obtain⟨ad305,e305,hx305_0⟩:=Kd.at_int HR1.out x6_1 p305 q305; cases e305; replace hx305_0:=(HB.out.cell (World.block_lt_of_cell? w _ hx305_0)).trans hx305_0; replace p305:=eq_true p305; replace q305:=eq_true q305) | ((with_reducible refine zbz (f:=127) rfl ?_); refine zbK (some 27) rfl rfl Tryz.func127 (by kernel_rfl) rfl #[.slice A0 l0.length c0,.int .i64 (rd l1 x6_1)] rfl (by (try simp only [List.map_toArray,List.map_cons,List.map_nil]); first | done | rfl | (simp only [List.length_drop,List.length_take]; rfl)) ?_; (with_reducible refine(fluxionref01_Times.calls k1 _ _ l0 (rd l1 x6_1) t306 _ ?side1 ?side2 A8.out).mono ?_); (case side1=>exact qc (Kd.C_below HR0.out HB.out)); (case side2=>exact HC0.out); rintro e w14 ⟨v307,rfl,ho0,hb⟩; refine⟨_,rfl,?_⟩; have n0_:=Aside0.mk (Kd.R_elder' (qr HO_5.out) (Kd.R_base ho0) hb); have n1_:=Aside0.mk (Kd.R_elder' (qr HO304.out) (Kd.R_base ho0) hb); have n2_:=Aside0.mk (Kd.R_lower (Kd.R_new' (Kd.R_new' ho0 (Kd.R_lt (qr HO_5.out))) (Kd.R_lt (qr HO304.out))) (zbp (qb HB.out))); have n3_:=Aside0.mk (zbm (qb HB.out) hb); clear HO_5; clear HO304; clear HB; have HO_5:=n0_; have HO304:=n1_; have HO308:=n2_; have HB:=n3_; clear n0_ n1_ n2_ n3_; (try clear hb); (try clear hb2); (try clear hk); (try clear hi); (try clear ho0); obtain⟨Ao15,co15,eo15⟩:=Kd.R_slice HO304.out; subst eo15; obtain⟨Ao16,co16,eo16⟩:=Kd.R_slice HO308.out; subst eo16) | ((with_reducible refine zbz (f:=126) rfl ?_); refine zbK (some 28) rfl rfl Tryz.func126 (by kernel_rfl) rfl #[.slice Ao15 y302.length co15,.slice Ao16 t306.length co16] rfl (by (try simp only [List.map_toArray,List.map_cons,List.map_nil]); first | done | rfl | (simp only [List.length_drop,List.length_take]; rfl)) ?_; (with_reducible refine(fluxionref01_Add.calls k1 _ _ y302 _ _ t306 t309 _ ?side1 ?side2 ?side3 ?side4 A9.out).mono ?_); (case side1=>exact qc (Kd.R_reads' HO304.out).2.2); (case side2=>exact(Kd.R_reads' HO304.out).2.1); (case side3=>exact qc (Kd.R_reads' HO308.out).2.2); (case side4=>exact(Kd.R_reads' HO308.out).2.1); rintro e w17 ⟨v310,rfl,ho0,hb⟩; refine⟨_,rfl,?_⟩; have n0_:=Aside0.mk (Kd.R_elder' (qr HO_5.out) (Kd.R_base ho0) hb); have n1_:=Aside0.mk (Kd.R_elder' (qr HO304.out) (Kd.R_base ho0) hb); have n2_:=Aside0.mk (Kd.R_elder' (qr HO308.out) (Kd.R_base ho0) hb); have n3_:=Aside0.mk (Kd.R_lower (Kd.R_new' (Kd.R_new' (Kd.R_new' ho0 (Kd.R_lt (qr HO_5.out))) (Kd.R_lt (qr HO304.out))) (Kd.R_lt (qr HO308.out))) (zbp (qb HB.out))); have n4_:=Aside0.mk (zbm (qb HB.out) hb); clear HO_5; clear HO304; clear HO308; clear HB; have HO_5:=n0_; have HO304:=n1_; have HO308:=n2_; have HO311:=n3_; have HB:=n4_; clear n0_ n1_ n2_ n3_ n4_; (try clear hb); (try clear hb2); (try clear hk); (try clear hi); (try clear ho0)))
        go_roundg k1
        case measure=>have:=HK1.out; omega
        case rel=>exact⟨(t309),(wrap64 (x6_1-1)),(by first | rfl | (simp; done) | (simp [*]; done)),H',⟨by have:=HK1.out; omega⟩,⟨by (with_reducible repeat (first | apply Kd.R_alloc | apply Kd.R_drewN | apply Kd.R_drew)); exact Kd.R_mono HO311.out (fun _ hk=>trivial)⟩,⟨by repeat (first | (with_reducible first | exact HB.out | apply zbn | apply zbo | apply zbs) | exact HB.out)⟩⟩
       ·
        rw [if_neg c7] at H
        exact absurd H (by simp)
      ·
       rw [if_neg c6] at H
       exact absurd H (by simp)
     ·
      rw [if_neg c5] at H
      exact absurd H (by simp)
    ·
     rw [if_neg c4] at H
     have c4b0:decide (0 < (x5_1.length:Int))=false:=decide_eq_false c4
     have c4b1:decide (0 < x5_1.length)=false:=decide_eq_false (by omega)
     clear c4
     by_cases c18:0≤x6_1
     ·
      rw [if_pos c18] at H
      have c18b0:decide (0≤x6_1)=true:=decide_eq_true c18
      clear c18
      by_cases c19:x6_1 < (l1.length:Int)
      ·
       rw [if_pos c19] at H
       have c19b0:decide (x6_1 < (l1.length:Int))=true:=decide_eq_true c19
       clear c19
       replace H:=Option.bind_eq_some_iff.mp H
       obtain⟨t313,A200,H⟩:=H
       replace H:((fluxionref01_Add.f k1 ([]:List Int) t313).bind fun t316=>(fluxionref01_Mul.l0 k1 l0 l1 t316 (wrap64 (x6_1-1))))=some r:=H
       have A20:=Aside0.mk A200
       clear A200
       replace H:=Option.bind_eq_some_iff.mp H
       obtain⟨t316,A210,H⟩:=H
       replace H:(fluxionref01_Mul.l0 k1 l0 l1 t316 (wrap64 (x6_1-1)))=some r:=H
       have A21:=Aside0.mk A210
       clear A210
       have H':=Aside0.mk H
       clear H
       obtain⟨Ao22,co22,eo22⟩:=Kd.R_slice HO_5.out
       subst eo22
       have p312:0≤(x6_1:Int):=of_decide_eq_true qs
       have q312:x6_1 < (l1.length:Int):=of_decide_eq_true qs
       obtain⟨ad312,e312,hx312_0⟩:=Kd.at_int HR1.out x6_1 p312 q312
       cases e312
       replace hx312_0:=(HB.out.cell (World.block_lt_of_cell? w _ hx312_0)).trans hx312_0
       replace p312:=eq_true p312
       replace q312:=eq_true q312
       go_wp2_with (first | ((with_reducible refine zbz (f:=127) rfl ?_); refine zbK (some 27) rfl rfl Tryz.func127 (by kernel_rfl) rfl #[.slice A0 l0.length c0,.int .i64 (rd l1 x6_1)] rfl (by (try simp only [List.map_toArray,List.map_cons,List.map_nil]); first | done | rfl | (simp only [List.length_drop,List.length_take]; rfl)) ?_; (with_reducible refine(fluxionref01_Times.calls k1 _ _ l0 (rd l1 x6_1) t313 _ ?side1 ?side2 A20.out).mono ?_); (case side1=>exact qc (Kd.C_below HR0.out HB.out)); (case side2=>exact HC0.out); rintro e w23 ⟨v314,rfl,ho0,hb⟩; refine⟨_,rfl,?_⟩; have n0_:=Aside0.mk (Kd.R_elder' (qr HO_5.out) (Kd.R_base ho0) hb); have n1_:=Aside0.mk (Kd.R_lower (Kd.R_new' ho0 (Kd.R_lt (qr HO_5.out))) (zbp (qb HB.out))); have n2_:=Aside0.mk (zbm (qb HB.out) hb); clear HO_5; clear HB; have HO_5:=n0_; have HO315:=n1_; have HB:=n2_; clear n0_ n1_ n2_; (try clear hb); (try clear hb2); (try clear hk); (try clear hi); (try clear ho0); obtain⟨Ao24,co24,eo24⟩:=Kd.R_slice HO315.out; subst eo24) | ((with_reducible refine zbz (f:=126) rfl ?_); refine zbK (some 28) rfl rfl Tryz.func126 (by kernel_rfl) rfl #[.slice none 0 0,.slice Ao24 t313.length co24] rfl (by (try simp only [List.map_toArray,List.map_cons,List.map_nil]); first | done | rfl | (simp only [List.length_drop,List.length_take]; rfl)) ?_; (refine(fluxionref01_Add.calls k1 _ _ ([]:List Int) _ _ t313 t316 _ ?side1 ?side2 ?side3 ?side4 A21.out).mono ?_); (case side1=>exact Kd.C_nil _ _); (case side2=>exact Nat.le_refl _); (case side3=>exact qc (Kd.R_reads' HO315.out).2.2); (case side4=>exact(Kd.R_reads' HO315.out).2.1); rintro e w25 ⟨v317,rfl,ho0,hb⟩; refine⟨_,rfl,?_⟩; have n0_:=Aside0.mk (Kd.R_elder' (qr HO_5.out) (Kd.R_base ho0) hb); have n1_:=Aside0.mk (Kd.R_elder' (qr HO315.out) (Kd.R_base ho0) hb); have n2_:=Aside0.mk (Kd.R_lower (Kd.R_new' (Kd.R_new' ho0 (Kd.R_lt (qr HO_5.out))) (Kd.R_lt (qr HO315.out))) (zbp (qb HB.out))); have n3_:=Aside0.mk (zbm (qb HB.out) hb); clear HO_5; clear HO315; clear HB; have HO_5:=n0_; have HO315:=n1_; have HO318:=n2_; have HB:=n3_; clear n0_ n1_ n2_ n3_; (try clear hb); (try clear hb2); (try clear hk); (try clear hi); (try clear ho0)))
       go_roundg k1
       case measure=>have:=HK1.out; omega
       case rel=>exact⟨(t316),(wrap64 (x6_1-1)),(by first | rfl | (simp; done) | (simp [*]; done)),H',⟨by have:=HK1.out; omega⟩,⟨by (with_reducible repeat (first | apply Kd.R_alloc | apply Kd.R_drewN | apply Kd.R_drew)); exact Kd.R_mono HO318.out (fun _ hk=>trivial)⟩,⟨by repeat (first | (with_reducible first | exact HB.out | apply zbn | apply zbo | apply zbs) | exact HB.out)⟩⟩
      ·
       rw [if_neg c19] at H
       exact absurd H (by simp)
     ·
      rw [if_neg c18] at H
      exact absurd H (by simp)
   ·
    rw [if_neg c3] at H
    have c3b0:decide (0≤x6_1)=false:=decide_eq_false c3
    clear c3
    obtain rfl:=Option.some.inj H
    go_wp2
    go_ret
    exact⟨_,by first | rfl | (simp [zbx,zbw]<;>rfl) | (simp [*,zbx,zbw]<;>rfl),by (with_reducible repeat (first | apply Kd.R_alloc | apply Kd.R_drewN | apply Kd.R_drew)); exact HO_5.out,by repeat (first | (with_reducible first | exact HB.out | apply zbn | apply zbo | apply zbs) | exact HB.out)⟩
end Go.Proofs.YtehghijlchpeaaaGreat.L
end
section
namespace Go.Proofs.YtehghijlchpeaaaGreat.L
open Go.RowKit YtehghijlchpeaaaGreatW.PrintWords YtehghijlchpeaaaGreatW.PrintLast YtehghijlchpeaaaGreatW.PrintMore
attribute [local go_sem] zbX zbZ zb2 zb1 zbQ zbR zbW zbY   -- for this text's walks alone
end Go.Proofs.YtehghijlchpeaaaGreat.L
end
section
namespace Go.Proofs.YtehghijlchpeaaaGreat.L
open Go.RowKit YtehghijlchpeaaaGreatW.PrintWords YtehghijlchpeaaaGreatW.PrintLast YtehghijlchpeaaaGreatW.PrintMore
attribute [local go_sem] zbX zbZ zb2 zb1 zbQ zbR zbW zbY   -- for this text's walks alone
end Go.Proofs.YtehghijlchpeaaaGreat.L
end
