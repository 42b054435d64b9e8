/- Part 12 of the proof of tensorDotsUpto_holds: what it uses, in build order. -/
import Derived.Test.YtehghijlchpeaaaGreatV010
import Derived.ArgAppend
import Derived.Below
import Derived.BigQuiet
import Derived.Deep.AppendLies
import Derived.Deep.CutBlock
import Derived.Deep.DeepCutAuto
import Derived.Deep.Draws
import Derived.Deep.LoopGhost
import Derived.Deep.OwnRows
import Derived.Deep.QuietTactic
import Derived.Deep.RegionHeld3
import Derived.KernelRfl
import Derived.Laws.BitsLemmas
import Derived.Laws.BytesArg
import Derived.Laws.IdiomCopy
import Derived.Laws.MakeOwn
import Derived.Laws.OwnMore
import Derived.Laws.Rows
import Derived.Laws.Slices
import Derived.Lib.AppendStr
import Derived.Lib.ConvBytes
import Derived.Maps.AppendAt
import Derived.OrdersHeld
import Derived.OwnWalk
import Derived.RowKit
import Derived.RowKit3
import Derived.Tactics
import Derived.Test.YtehghijlchpeaaaGreatProg
import Derived.WalkKit
import Derived.WalkSpells
import Derived.WideLaws
set_option maxHeartbeats 8000000
set_option maxRecDepth 100000
set_option linter.unusedVariables false
set_option linter.unusedSimpArgs false
set_option linter.unusedSectionVars false
section
namespace Go.Proofs.YtehghijlchpeaaaGreat.Nat1
open Go.RowKit YtehghijlchpeaaaGreatW.PrintWords YtehghijlchpeaaaGreatW.PrintLast YtehghijlchpeaaaGreatW.PrintMore L Nt
theorem C_ints {w:World} {A:Option Addr} {n:Nat} {xs:List Int} (h:Kd.C (Kd.int .u32) w A n xs):zca w .u32 A n xs:=by
 refine⟨h.1,h.2.1,fun hp=>?_⟩
 obtain⟨ad,e,hc⟩:=h.2.2 hp
 refine⟨ad,e,fun j hj=>?_⟩
 have hl:j < xs.length:=by have:=h.1; omega
 obtain⟨c,_,hK,hcell⟩:=hc j _ (List.getElem?_eq_getElem hl)
 have hK':c=[.int .u32 xs[j]]:=hK
 subst hK'
 have:=hcell 0 _ rfl
 have e1:j*(Kd.int .u32).sz+0=j:=Nat.mul_one j
 rw [e1] at this
 rw [this,List.getD_eq_getElem?_getD,List.getElem?_eq_getElem hl,Option.getD_some]
theorem clone_calls (A0:Option Addr) (c0:Nat) (l0:List Int) (w:World) (hr0:Kd.C (Kd.int .u32) w A0 l0.length l0) (hl:l0.length≤1099511627776) :
  Calls Tryz.prog 75 #[.slice A0 l0.length c0] w fun e w'=>∃ v0_:Value,e=.returned (v0_)∧Kd.R (Kd.int .u32) 81 w' w.heap.size (fun _=>True) v0_ l0∧Below w.heap.size w w':=by
 have HR:=Aside0.mk (C_ints hr0)
 have hnil:=fun (W:World) (a:Option Addr) (n c:Nat)=>Lib.run_eql_slice_nil (P:=Tryz.prog) W 25 81 a n c 0 0 Tryz.underlying25
 cases A0 with
 | none =>
  have h0:l0=[]:=by
   cases l0 with
   | nil=>rfl
   | cons d l0 =>
    obtain⟨ad,e,_⟩:=hr0.2.2 (by simp)
    cases e
  subst h0
  go_enter Tryz.func75,Tryz.ntmps75
  go_wp2_with fail
  go_ret
  exact⟨_,rfl,Kd.R_nil _ _ _ _ _,Below.refl _ _⟩
 | some ad =>
  go_enter Tryz.func75,Tryz.ntmps75
  go_wp2_with (at_builtin; refine print_append_row (w0:=w) w.heap.size rfl (.tmp 5) (.tmp 6) 25 81 .u32 4 rfl Tryz.underlying25 infoU32 (by decide) (.slice (some ⟨w.heap.size,0,none⟩) 0 0) [] l0 (some ad) l0.length c0 rfl rfl ?aO ?aR ?aB ?aS ?aL ?_; (case aO=>exact own_lit w w.heap.size 81 .u32 [] (Nat.le_refl _) (by simp)); (case aR=>exact HR.out.below ((Below.refl _ w).alloc (Nat.le_refl _) _)); (case aB=>exact(Below.refl _ w).alloc (Nat.le_refl _) _); (case aS=>simp); (case aL=>simp; omega); intro v1 w1 hown hb hg hat; rw [List.nil_append] at hown; obtain⟨A1,c1,rfl⟩:=own_slice hown; have HO:=Aside0.mk hown; have HB:=Aside0.mk hb; clear hown hb hg hat)
  go_ret
  exact⟨_,rfl,Kd.R_of_own HO.out (fun _ _=>trivial),HB.out⟩
open Classical in
noncomputable def nat_Trim.f (l0:List Int):Option (List Int):=if okL l0 then some (dg B32 (val B32 l0)) else none
theorem nat_Trim.calls (A0:Option Addr) (c0:Nat) (l0:List Int) (r:List Int) (w:World) (hr0:Kd.C (Kd.int .u32) w A0 l0.length l0) (hc0:l0.length≤c0) (h:nat_Trim.f l0=some r) :
  Calls Tryz.prog 166 #[.slice A0 l0.length c0] w fun e w'=>∃ v0_:Value,e=.returned (v0_)∧Kd.R (Kd.int .u32) 81 w' w.heap.size (fun _=>True) v0_ r∧Below w.heap.size w w':=by
 unfold nat_Trim.f at h
 split at h
 ·
  rename_i hk
  obtain rfl:=Option.some.inj h
  have hl0:=hk.2
  obtain⟨kt,t,ht,htl,htz,htc⟩:=top_spec l0 (by omega)
  have HT:=Aside0.mk (nat_top.calls kt A0 c0 l0 (t:Int) w hr0 hc0 ht)
  have e:(l0.take t).length=t:=by rw [List.length_take]; omega
  have hC:Kd.C (Kd.int .u32) w A0 (l0.take t).length (l0.take t):=by
   refine⟨rfl,by omega,fun hp=>?_⟩
   obtain⟨ad,ea,hc⟩:=hr0.2.2 (by omega)
   refine⟨ad,ea,fun j p hj=>hc j p ?_⟩
   have hjt:j < t:=by
    have:=(List.getElem?_eq_some_iff.1 hj).1
    omega
   rw [← hj,List.getElem?_take,if_pos hjt]
  rw [← top_dg zby hk.1 htz htc]
  have HC:=Aside0.mk (fun q=>clone_calls A0 c0 (l0.take t) (w.drewN q) (Kd.C_drewN hC q) (by omega))
  rw [e] at HC
  generalize l0.take t=l1 at HC ⊢
  have hb2:(t:Int)≤(l0.length:Int):=by omega
  have hb3:(t:Int)≤(c0:Int):=by omega
  have hb4:t≤c0:=by omega
  clear h hk ht htz htc hr0 hC e
  go_enter Tryz.func166,Tryz.ntmps166
  go_wp2_with fail
  refine HT.out.mono ?_
  rintro e w1 ⟨rfl,hd⟩
  obtain⟨q,rfl⟩:=hd.out
  clear hd
  go_wp2_with fail
  refine(HC.out q).mono ?_
  rintro e w2 ⟨v,rfl,hR,hB⟩
  obtain⟨A,c,rfl⟩:=Kd.R_slice hR
  have HR:=Aside0.mk hR
  have HB:=Aside0.mk hB
  clear hR hB
  go_wp2
  go_ret
  exact⟨_,rfl,HR.out,zbm (zbo (Below.refl _ _) q) HB.out⟩
 ·
  cases h
end Go.Proofs.YtehghijlchpeaaaGreat.Nat1
end
section
noncomputable section
namespace Go.Proofs.YtehghijlchpeaaaGreat.S
open Go.RowKit YtehghijlchpeaaaGreat.Nat1 YtehghijlchpeaaaGreatW.PrintWords YtehghijlchpeaaaGreatW.PrintLast YtehghijlchpeaaaGreatW.PrintMore
attribute [local go_sem] zbX zbZ zb2 zb1 zbQ zbR zbW zbY   -- for this text's walks alone
def errW:Option Int→Value
 | none=>.nilIface
 | some c=>.iface 0 (.int .i64 c)
theorem zbx:errW none=.nilIface:=rfl
theorem zbw (c:Int):errW (some c)=.iface 0 (.int .i64 c):=rfl
theorem info81:(Tryz.prog.info? 81).map (fun i=>(i.zero,i.size,i.bytes))=some (some (.int .u32 0),1,4):=by kernel_rfl
end Go.Proofs.YtehghijlchpeaaaGreat.S
end
end
section
noncomputable section
namespace Go.Proofs.YtehghijlchpeaaaGreat.S
open Go.RowKit YtehghijlchpeaaaGreat.Nat1 YtehghijlchpeaaaGreatW.PrintWords YtehghijlchpeaaaGreatW.PrintLast YtehghijlchpeaaaGreatW.PrintMore
attribute [local go_sem] zbX zbZ zb2 zb1 zbQ zbR zbW zbY   -- for this text's walks alone
def quo_Short.l0:Nat→List Int→Int→List Int→Int→Int→Option (List Int×Int×Int)
 | 0,_,_,_,_,_=>none
 | k+1,x0,x1,x7,x8,x9=>if x9 ≥ 0 then (if 0≤x9 then (if x9 < (x0.length:Int) then (if (IntKind.u64.wrap (x1))=0 then (none) else (if x9 < (x7.length:Int) then (quo_Short.l0 k x0 x1 (x7.set (x9:Int).toNat ((IntKind.u64.wrap (Int.tdiv (Go.bits .or .u64 (IntKind.u64.wrap (x8*4294967296)) (IntKind.u64.wrap (rd x0 x9))) (IntKind.u64.wrap (x1)))) % 4294967296)) (Int.tmod (Go.bits .or .u64 (IntKind.u64.wrap (x8*4294967296)) (IntKind.u64.wrap (rd x0 x9))) (IntKind.u64.wrap (x1))) (wrap64 (x9-1))) else (none))) else (none)) else (none)) else ((nat_Trim.f x7).bind fun t106=>(some (t106,(x8) % 4294967296,0)))
def quo_Short.f (k:Nat) (l0:List Int) (a1:Int):Option (List Int×Int×Int):=if a1=0 then (some (([]:List Int),0,17)) else (if 0≤(l0.length:Int) then (if ((l0.length:Int):Int).toNat≤70368744177664 then (quo_Short.l0 k l0 a1 (List.replicate ((l0.length:Int):Int).toNat 0) 0 (wrap64 ((l0.length:Int)-1))) else (none)) else (none))
theorem quo_Short.calls (k:Nat) (A0:Option Addr) (c0:Nat) (l0:List Int) (a1:Int) (r1:List Int) (r2:Int) (r3:Int) (w:World) (hr0:Kd.C (Kd.int .u32) w A0 l0.length l0) (hc0:l0.length≤c0) (h:quo_Short.f k l0 a1=some (r1,r2,r3)) :
  Calls Tryz.prog 179 #[.slice A0 l0.length c0,.int .u32 a1] w fun e w'=>∃ v0_:Value,e=.returned (.tuple #[v0_,.int .u32 r2,.int .i64 r3])∧Kd.R (Kd.int .u32) 81 w' w.heap.size (fun _=>True) v0_ r1∧Below w.heap.size w w':=by
 have HR0:=Aside0.mk hr0
 have HC0:=Aside0.mk hc0
 clear hr0 hc0
 have HB:=Aside0.mk (Below.refl w.heap.size w)
 have H:(if a1=0 then (some (([]:List Int),0,17)) else (if 0≤(l0.length:Int) then (if ((l0.length:Int):Int).toNat≤70368744177664 then (quo_Short.l0 k l0 a1 (List.replicate ((l0.length:Int):Int).toNat 0) 0 (wrap64 ((l0.length:Int)-1))) else (none)) else (none)))=some (r1,r2,r3):=h
 clear h
 by_cases c3:a1=0
 ·
  rw [if_pos c3] at H
  have c3b0:(a1 == 0)=true:=beq_iff_eq.mpr c3
  have c3b1:(a1 != 0)=false:=bne_eq_false_iff_eq.mpr c3
  clear c3
  simp only [Option.some.injEq,Prod.mk.injEq] at H
  obtain⟨rfl,rfl,rfl⟩:=H
  go_enter Tryz.func179,Tryz.ntmps179
  go_wp2
  go_ret3
  exact⟨_,by first | rfl | (simp [zbx,zbw]<;>rfl) | (simp [*,zbx,zbw]<;>rfl),by first | exact Kd.R_nil _ _ _ _ _ | exact Kd.N_nil _ _ _ _ _ | exact Kd.V_nil _ _ _ _ _ | exact Kd.Q_nil _ _ _ _ _ | exact Kd.S_nil _ _ _ _ _,by repeat (first | (with_reducible first | exact HB.out | apply zbn | apply zbo | apply zbs) | exact HB.out)⟩
 ·
  rw [if_neg c3] at H
  have c3b0:(a1 == 0)=false:=beq_eq_false_iff_ne.mpr c3
  have c3b1:(a1 != 0)=true:=bne_iff_ne.mpr c3
  by_cases c4:0≤(l0.length:Int)
  ·
   rw [if_pos c4] at H
   have c4b0:=eq_true c4
   have c4b1:decide (0≤(l0.length:Int))=true:=decide_eq_true c4
   clear c4
   by_cases c5:((l0.length:Int):Int).toNat≤70368744177664
   ·
    rw [if_pos c5] at H
    have c5b0:=eq_true c5
    have c5b1:decide (((l0.length:Int):Int).toNat≤70368744177664)=true:=decide_eq_true c5
    clear c5
    obtain⟨y101,hy101⟩:∃ y_:List Int,y_=(List.replicate ((l0.length:Int):Int).toNat 0):=⟨_,rfl⟩
    replace H:(quo_Short.l0 k l0 a1 y101 0 (wrap64 ((l0.length:Int)-1)))=some (r1,r2,r3):=by first | (rw [hy101]; with_reducible exact H) | (have H2_:=(Option.bind_some _ _).symm.trans H; rw [hy101]; with_reducible exact H2_) | (have H2_:=(Option.bind_some _ _).symm.trans H; with_reducible exact H2_) | with_reducible exact H | (rw [hy101]; exact H) | exact H
    have Ny101:=Aside0.mk hy101
    clear hy101
    have H':=Aside0.mk H
    clear H
    go_enter Tryz.func179,Tryz.ntmps179
    go_wp2_with (first | ((with_reducible refine zbD (N:=14) rfl ?_); refine Kd.R_make (Kd.int .u32) _ 81 rfl (N:=14) rfl 25 _ _ rfl (l0.length:Int) rfl rfl Tryz.underlying25 (.int .u32 0) 4 info81 rfl (by decide) (by omega) 0 (ok:=fun _=>True) (okp:=fun _=>True) rfl (fun _ hk=>hk) trivial (of_decide_eq_true qs) (Nat.le_trans (Nat.mul_le_mul_right _ (of_decide_eq_true qs:(l0.length:Int).toNat≤70368744177664)) (by omega)) (Below.refl _ _) (Nat.le_refl _) ?_; intro v102 w6 ho7 hb hg_ hnew_; clear hg_ hnew_; (first | rw [← Ny101.out] at ho7 | (simp only [Int.reduceToNat] at ho7; rw [← Ny101.out] at ho7)); have n0_:=Aside0.mk (Kd.R_lower ho7 (zbp (qb HB.out))); have n1_:=Aside0.mk (zbm (qb HB.out) hb); clear HB; have HO103:=n0_; have HB:=n1_; clear n0_ n1_; clear hb ho7))
    go_loopg [8,9] k (fun kq v8 v9 w'=>∃ (x7_1:List Int) (x8_1:Int) (x9_1:Int),v8=.int .u64 x8_1∧v9=.int .i64 x9_1∧Aside0 (quo_Short.l0 kq l0 a1 x7_1 x8_1 x9_1=some (r1,r2,r3))∧Aside0 (kq≤k)∧Aside0 (Kd.R (Kd.int .u32) 81 w' w.heap.size (fun _=>True) v102 x7_1)∧Aside0 (Below w.heap.size w w'))
    case atStart=>exact⟨(y101),(0),(wrap64 ((l0.length:Int)-1)),(by first | rfl | (simp; done) | (simp [*]; done)),(by first | rfl | (simp; done) | (simp [*]; done)),H',⟨Nat.le_refl _⟩,⟨by (with_reducible repeat (first | apply Kd.R_alloc | apply Kd.R_drewN | apply Kd.R_drew)); exact HO103.out⟩,⟨by repeat (first | (with_reducible first | exact HB.out | apply zbn | apply zbo | apply zbs) | exact HB.out)⟩⟩
    case round =>
     clear H'
     try clear c1
     try clear p2
     try clear c3
     try clear c3b0
     try clear c3b1
     try clear c4
     try clear c4b0
     try clear c4b1
     try clear c5
     try clear c5b0
     try clear c5b1
     try clear p6
     obtain⟨x7_1,x8_1,x9_1,rfl,rfl,HA,HK1,HO_7,HB⟩:=hrel
     cases gk with
     | zero=>exact absurd HA.out (by simp [quo_Short.l0])
     | succ k1 =>
      have H:=HA.out
      clear HA
      simp only [quo_Short.l0] at H
      by_cases c8:x9_1 ≥ 0
      ·
       rw [if_pos c8] at H
       have c8b0:decide (0≤x9_1)=true:=decide_eq_true c8
       clear c8
       by_cases c9:0≤x9_1
       ·
        rw [if_pos c9] at H
        have c9b0:decide (0≤x9_1)=true:=decide_eq_true c9
        clear c9
        by_cases c10:x9_1 < (l0.length:Int)
        ·
         rw [if_pos c10] at H
         have c10b0:decide (x9_1 < (l0.length:Int))=true:=decide_eq_true c10
         clear c10
         by_cases c11:(IntKind.u64.wrap (a1))=0
         ·
          rw [if_pos c11] at H
          exact absurd H (by simp)
         ·
          rw [if_neg c11] at H
          have c11b0:((IntKind.u64.wrap (a1)) == 0)=false:=beq_eq_false_iff_ne.mpr c11
          have c11b1:((IntKind.u64.wrap (a1)) != 0)=true:=bne_iff_ne.mpr c11
          by_cases c12:x9_1 < (x7_1.length:Int)
          ·
           rw [if_pos c12] at H
           have c12b0:decide (x9_1 < (x7_1.length:Int))=true:=decide_eq_true c12
           clear c12
           obtain⟨y105,hy105⟩:∃ y_:List Int,y_=(x7_1.set (x9_1:Int).toNat ((IntKind.u64.wrap (Int.tdiv (Go.bits .or .u64 (IntKind.u64.wrap (x8_1*4294967296)) (IntKind.u64.wrap (rd l0 x9_1))) (IntKind.u64.wrap (a1)))) % 4294967296)):=⟨_,rfl⟩
           replace H:(quo_Short.l0 k1 l0 a1 y105 (Int.tmod (Go.bits .or .u64 (IntKind.u64.wrap (x8_1*4294967296)) (IntKind.u64.wrap (rd l0 x9_1))) (IntKind.u64.wrap (a1))) (wrap64 (x9_1-1)))=some (r1,r2,r3):=by first | (rw [hy105]; with_reducible exact H) | (have H2_:=(Option.bind_some _ _).symm.trans H; rw [hy105]; with_reducible exact H2_) | (have H2_:=(Option.bind_some _ _).symm.trans H; with_reducible exact H2_) | with_reducible exact H | (rw [hy105]; exact H) | exact H
           have Ny105:=Aside0.mk hy105
           clear hy105
           have H':=Aside0.mk H
           clear H
           have p104:0≤(x9_1:Int):=of_decide_eq_true qs
           have q104:x9_1 < (l0.length:Int):=of_decide_eq_true qs
           obtain⟨ad104,e104,hx104_0⟩:=Kd.at_int HR0.out x9_1 p104 q104
           cases e104
           replace hx104_0:=(HB.out.cell (World.block_lt_of_cell? w _ hx104_0)).trans hx104_0
           replace p104:=eq_true p104
           replace q104:=eq_true q104
           have p13:0≤(x9_1:Int):=of_decide_eq_true qs
           have q13:(x9_1:Int) < ((x7_1.length:Int):Int):=of_decide_eq_true qs
           obtain⟨go13,co13,eo13,gb13,gl13,cl13,HG13⟩:=Kd.R_form HO_7.out (by omega)
           (first | cases eo13 | (injection eo13 with ea_ en_ ec_; (first | subst ea_ | (injection ea_ with ea_; subst ea_)); subst ec_; clear en_))
           have GB13:=Aside0.mk gb13
           have GG13:=Aside0.mk HG13
           clear gb13 gl13 HG13
           obtain⟨hx13_0,hf13_0⟩:=Kd.R_celln 0 HO_7.out (x9_1:Int) p13 q13
           replace p13:=eq_true p13
           replace q13:=eq_true q13
           have HP14:=Kd.R_putg HO_7.out (x9_1:Int) ((IntKind.u64.wrap (Int.tdiv (Go.bits .or .u64 (IntKind.u64.wrap (x8_1*4294967296)) (IntKind.u64.wrap (rd l0 x9_1))) (IntKind.u64.wrap (a1)))) % 4294967296)
           go_wp2_with (first | ((with_reducible refine gate_store (t:=81) (p:=37) rfl ?_); refine store_event (t:=81) (p:=37) (v:=?vo_w15) (w1:=(wr.setCell ⟨go13,(x9_1:Int).toNat,none⟩ (.int .u32 ((IntKind.u64.wrap (Int.tdiv (Go.bits .or .u64 (IntKind.u64.wrap (x8_1*4294967296)) (IntKind.u64.wrap (rd l0 x9_1))) (IntKind.u64.wrap (a1)))) % 4294967296)))) ?hg ?ho ?hn ?hr ?_; (case ho=>rfl); (case hg=>rfl); (case hn=>rfl); (case hr=>first | (go_simp; done) | (go_simp; rfl)); intro w15 hw; have hg:wr.grownBy w15 (some go13):=(by rw [hw]; exact HP14.2); have hp_:Kd.R (Kd.int .u32) 81 w15 w.heap.size (fun _=>True) (.slice (some ⟨go13,0,none⟩) x7_1.length co13) y105:=(by rw [hw,Ny105.out]; exact HP14.1); clear HP14; have n0_:=Aside0.mk (hp_); have n1_:=Aside0.mk ((by rw [hw]; exact zbB (HB.out) GB13.out:Below w.heap.size w w15)); clear HO_7; clear HB; have HO_7:=n0_; have HB:=n1_; clear n0_ n1_; clear hg hw hp_))
           go_roundg k1
           case measure=>have:=HK1.out; omega
           case rel=>exact⟨(y105),(Int.tmod (Go.bits .or .u64 (IntKind.u64.wrap (x8_1*4294967296)) (IntKind.u64.wrap (rd l0 x9_1))) (IntKind.u64.wrap (a1))),(wrap64 (x9_1-1)),(by first | rfl | (simp; done) | (simp [*]; done)),(by first | rfl | (simp; done) | (simp [*]; done)),H',⟨by have:=HK1.out; omega⟩,⟨by (with_reducible repeat (first | apply Kd.R_alloc | apply Kd.R_drewN | apply Kd.R_drew)); exact HO_7.out⟩,⟨by repeat (first | (with_reducible first | exact HB.out | apply zbn | apply zbo | apply zbs) | exact HB.out)⟩⟩
          ·
           rw [if_neg c12] at H
           exact absurd H (by simp)
        ·
         rw [if_neg c10] at H
         exact absurd H (by simp)
       ·
        rw [if_neg c9] at H
        exact absurd H (by simp)
      ·
       rw [if_neg c8] at H
       have c8b0:decide (0≤x9_1)=false:=decide_eq_false c8
       clear c8
       replace H:=Option.bind_eq_some_iff.mp H
       obtain⟨t106,A160,H⟩:=H
       replace H:(some (t106,(x8_1) % 4294967296,0))=some (r1,r2,r3):=H
       have A16:=Aside0.mk A160
       clear A160
       simp only [Option.some.injEq,Prod.mk.injEq] at H
       obtain⟨rfl,rfl,rfl⟩:=H
       obtain⟨Ao17,co17,eo17⟩:=Kd.R_slice HO_7.out
       subst eo17
       go_wp2_with (first | ((with_reducible refine zbz (f:=166) rfl ?_); refine zbK (some 43) rfl rfl Tryz.func166 (by kernel_rfl) rfl #[.slice Ao17 x7_1.length co17] rfl (by (try simp only [List.map_toArray,List.map_cons,List.map_nil]); first | done | rfl | (simp only [List.length_drop,List.length_take]; rfl)) ?_; (with_reducible refine(nat_Trim.calls _ _ x7_1 t106 _ ?side1 ?side2 A16.out).mono ?_); (case side1=>exact qc (Kd.R_reads' HO_7.out).2.2); (case side2=>exact(Kd.R_reads' HO_7.out).2.1); rintro e w18 ⟨v107,rfl,ho0,hb⟩; refine⟨_,rfl,?_⟩; have n0_:=Aside0.mk (Kd.R_elder' (qr HO_7.out) (Kd.R_base ho0) hb); have n1_:=Aside0.mk (Kd.R_lower (Kd.R_new' ho0 (Kd.R_lt (qr HO_7.out))) (zbp (qb HB.out))); have n2_:=Aside0.mk (zbm (qb HB.out) hb); clear HO_7; clear HB; have HO_7:=n0_; have HO108:=n1_; have HB:=n2_; clear n0_ n1_ n2_; (try clear hb); (try clear hb2); (try clear hk); (try clear hi); (try clear ho0)))
       go_ret3
       exact⟨_,by first | rfl | (simp [zbx,zbw]<;>rfl) | (simp [*,zbx,zbw]<;>rfl),by (with_reducible repeat (first | apply Kd.R_alloc | apply Kd.R_drewN | apply Kd.R_drew)); exact Kd.R_mono HO108.out (fun _ hk=>trivial),by repeat (first | (with_reducible first | exact HB.out | apply zbn | apply zbo | apply zbs) | exact HB.out)⟩
   ·
    rw [if_neg c5] at H
    exact absurd H (by simp)
  ·
   rw [if_neg c4] at H
   exact absurd H (by simp)
end Go.Proofs.YtehghijlchpeaaaGreat.S
end
end
section
noncomputable section
namespace Go.Proofs.YtehghijlchpeaaaGreat.S
open Go.RowKit YtehghijlchpeaaaGreat.Nat1 YtehghijlchpeaaaGreatW.PrintWords YtehghijlchpeaaaGreatW.PrintLast YtehghijlchpeaaaGreatW.PrintMore
attribute [local go_sem] zbX zbZ zb2 zb1 zbQ zbR zbW zbY   -- for this text's walks alone
end Go.Proofs.YtehghijlchpeaaaGreat.S
end
end
section
namespace Go.Proofs.YtehghijlchpeaaaGreat.Nat1
open Go.RowKit YtehghijlchpeaaaGreatW.PrintWords YtehghijlchpeaaaGreatW.PrintLast YtehghijlchpeaaaGreatW.PrintMore L Nt
def dif (x y b:Int):Int:=(x-y-b) % 4294967296
def bor (x y b:Int):Int:=if x < y+b then 1 else 0
theorem dif_range (x y b:Int):0≤dif x y b∧dif x y b < 4294967296:=by unfold dif; omega
theorem bor_range (x y b:Int):0≤bor x y b∧bor x y b≤1:=by unfold bor; split<;>omega
theorem dif_bor {x y b:Int} (hx:0≤x∧x < 4294967296) (hy:0≤y∧y < 4294967296) (hb:0≤b∧b≤1):dif x y b+y+b=x+4294967296*bor x y b:=by
 unfold dif bor
 split<;>omega
theorem top_bit {x:Nat} (h:x < 4294967296):x.testBit 31=decide (2147483648≤x):=by
 rw [Nat.testBit_eq_decide_div_mod_eq]
 show decide (x / 2147483648 % 2=1)=_
 rw [decide_eq_decide]
 omega
theorem div_top {x:Nat} (h:x < 4294967296):x / 2147483648=if x.testBit 31 then 1 else 0:=by
 rw [top_bit h]
 by_cases h1:2147483648≤x
 ·
  rw [decide_eq_true h1,if_pos rfl]
  omega
 ·
  rw [decide_eq_false h1,if_neg (by simp)]
  omega
theorem bor_bits {x y b:Int} (hx:0≤x∧x < 4294967296) (hy:0≤y∧y < 4294967296) (hb:0≤b∧b≤1) :
  bits BinOp.or IntKind.u32 (bits BinOp.and IntKind.u32 (bits BinOp.xor IntKind.u32 IntKind.u32.max x) y) (bits BinOp.and IntKind.u32 (bits BinOp.xor IntKind.u32 IntKind.u32.max (bits BinOp.xor IntKind.u32 x y)) (dif x y b)) / 2147483648=bor x y b:=by
 have hd:=dif_range x y b
 have hdb:=dif_bor hx hy hb
 have hb2:=bor_range x y b
 generalize dif x y b=d at *
 generalize bor x y b=r at *
 obtain⟨X,rfl⟩:=Int.eq_ofNat_of_zero_le hx.1
 obtain⟨Y,rfl⟩:=Int.eq_ofNat_of_zero_le hy.1
 obtain⟨D,rfl⟩:=Int.eq_ofNat_of_zero_le hd.1
 have hm:IntKind.u32.max=((4294967295:Nat):Int):=by rfl
 have x1:X ^^^ Y < 2 ^ 32:=Nat.xor_lt_two_pow (by show X < 4294967296; omega) (by show Y < 4294967296; omega)
 have x2:4294967295 ^^^ X < 2 ^ 32:=Nat.xor_lt_two_pow (by decide) (by show X < 4294967296; omega)
 have x3:4294967295 ^^^ (X ^^^ Y) < 2 ^ 32:=Nat.xor_lt_two_pow (by decide) x1
 have x4:(4294967295 ^^^ X) &&& Y < 2 ^ 32:=Nat.and_lt_two_pow _ (by show Y < 4294967296; omega)
 have x5:(4294967295 ^^^ (X ^^^ Y)) &&& D < 2 ^ 32:=Nat.and_lt_two_pow _ (by show D < 4294967296; omega)
 have x6:((4294967295 ^^^ X) &&& Y) ||| ((4294967295 ^^^ (X ^^^ Y)) &&& D) < 2 ^ 32:=Nat.or_lt_two_pow x4 x5
 have e32:(2:Nat) ^ 32=4294967296:=rfl
 rw [e32] at x1 x2 x3 x4 x5 x6
 rw [hm,u32_xor_nat _ _ (by omega) (by omega),u32_xor_nat X Y (by omega) (by omega),u32_xor_nat _ _ (by omega) x1,u32_and_nat _ _ x2 (by omega),u32_and_nat _ _ x3 (by omega),u32_or_nat _ _ x4 x5]
 have e:((((4294967295 ^^^ X) &&& Y) ||| ((4294967295 ^^^ (X ^^^ Y)) &&& D):Nat):Int) / 2147483648=(((((4294967295 ^^^ X) &&& Y) ||| ((4294967295 ^^^ (X ^^^ Y)) &&& D)) / 2147483648:Nat):Int):=by omega
 rw [e,div_top x6]
 have hmb:Nat.testBit 4294967295 31=true:=by decide
 simp only [Nat.testBit_or,Nat.testBit_and,Nat.testBit_xor,hmb]
 rw [top_bit (x:=X) (by omega),top_bit (x:=Y) (by omega),top_bit (x:=D) (by omega)]
 by_cases h1:2147483648≤X<;>by_cases h2:2147483648≤Y<;>by_cases h3:2147483648≤D<;>simp [h1,h2,h3]<;>omega
theorem sub32_calls (x y b:Int) (w:World) (hx:0≤x∧x < 4294967296) (hy:0≤y∧y < 4294967296) (hb:0≤b∧b≤1) :
  Calls Tryz.prog 189 #[.int .u32 x,.int .u32 y,.int .u32 b] w fun e w'=>e=.returned (.tuple #[.int .u32 (dif x y b),.int .u32 (bor x y b)])∧w=w':=by
 have HB:=Aside0.mk (bor_bits hx hy hb)
 have HD:=Aside0.mk (show dif x y b=(x-y-b) % 4294967296 from rfl)
 generalize bor x y b=r at HB ⊢
 generalize dif x y b=d at HB HD ⊢
 go_enter Tryz.func189,Tryz.ntmps189
 go_wp2
 go_ret2
 rw [← HB.out,HD.out]
 exact⟨rfl,rfl⟩
end Go.Proofs.YtehghijlchpeaaaGreat.Nat1
end
section
namespace Go.Proofs.YtehghijlchpeaaaGreat.Nat1
open Go.RowKit YtehghijlchpeaaaGreatW.PrintWords YtehghijlchpeaaaGreatW.PrintLast YtehghijlchpeaaaGreatW.PrintMore L Nt
theorem zcd (us:List Int) (i m:Nat) (x:Int) (hi:i < us.length):lmb (us.set i x) m=if m=i then x else lmb us m:=by
 unfold lmb
 rw [List.getD_eq_getElem?_getD,List.getD_eq_getElem?_getD,List.getElem?_set]
 by_cases h:m=i
 ·
  subst h; simp [hi]
 ·
  rw [if_neg (fun e=>h e.symm),if_neg h]
theorem ok_set {us:List Int} (h:ok B32 us) (i:Nat) {x:Int} (hx:0≤x∧x < 4294967296):ok B32 (us.set i x):=by
 intro y hy
 rcases List.mem_or_eq_of_mem_set hy with hy | rfl
 ·
  exact h y hy
 ·
  unfold B32; omega
def UR (W:World) (g cap:Nat) (us:List Int):Prop:=W.ownsRow 0 81 1 (.slice (some ⟨g,0,none⟩) us.length cap) us.length (nums .u32 us)
theorem UR.at_ {W:World} {g cap:Nat} {us:List Int} (h:UR W g cap us) (i:Nat) (hi:i < us.length):W.cell? ⟨g,i,none⟩=some (.int .u32 (lmb us i))∧W.frozen? ⟨g,i,none⟩=false:=by
 have:=own_at h (i:Int) (by omega) (by omega)
 simpa [rd,lmb] using this
theorem UR.set_ {W:World} {g cap:Nat} {us:List Int} (h:UR W g cap us) (i:Nat) (x:Int):UR (W.setCell ⟨g,i,none⟩ (.int .u32 x)) g cap (us.set i x):=by
 have:=(own_store h (i:Int) x).1
 unfold UR
 rw [List.length_set]
 simpa using this
theorem UR.keep {W W':World} {g cap:Nat} {us:List Int} (h:UR W g cap us) (hb:W'.heap[g]? = W.heap[g]?):UR W' g cap us :=
 own_move h (fun k hk=>by simp [Value.ownBlock] at hk; subst hk; exact hb)
theorem UR.lt {W:World} {g cap:Nat} {us:List Int} (h:UR W g cap us):g < W.heap.size:=own_lt h g (by simp [Value.ownBlock])
def VR (W:World) (g:Nat) (A:Option Addr) (l:List Int):Prop:=∀ W':World,(∀ k,k < W.heap.size→k≠g→W'.heap[k]? = W.heap[k]?)→Kd.C (Kd.int .u32) W' A l.length l
theorem VR.grown {W W':World} {g:Nat} {A:Option Addr} {l:List Int} (h:VR W g A l) (hg:W.grownBy W' (some g)):VR W' g A l :=
 fun W2 hk=>h W2 (fun k h1 h2=>(hk k (Nat.lt_of_lt_of_le h1 hg.size) h2).trans (hg.block k h1 (by simpa using h2)))
theorem VR.c {W:World} {g:Nat} {A:Option Addr} {l:List Int} (h:VR W g A l):Kd.C (Kd.int .u32) W A l.length l:=h W (fun _ _ _=>rfl)
theorem grown_set (w:World) (g i:Nat) (v:Value):w.grownBy (w.setCell ⟨g,i,none⟩ v) (some g) :=
 ⟨rfl,rfl,rfl,by simp [World.setCell],fun k hk hne=>Below.heap_setCell _ _ _ _ (fun e=>hne (by rw [e]))⟩
theorem rd_lmb (l:List Int) (i:Nat):rd l (i:Int)=lmb l i:=by simp [rd,lmb]
structure TI (w:World) (g cap j:Nat) (us:List Int) (l:List Int) (q:Int) (k:Nat) (c b:Int) (wr:World):Prop where
 le:k≤l.length
 c0:0≤c∧c < 4294967296
 b0:0≤b∧b≤1
 gr:w.grownBy wr (some g)
 r:∃ us',us'.length=us.length∧ok B32 us'∧UR wr g cap us'∧(∀ i,¬ (j≤i∧i < j+k)→lmb us' i=lmb us i) ∧
  zb0 B32 (fun i=>lmb us (j+i)) k+(c+b).toNat*B32 ^ k=zb0 B32 (fun i=>lmb us' (j+i)) k+q.toNat*zb0 B32 (lmb l) k
theorem take_step {u u' x q c b p:Int} (hu:0≤u∧u < 4294967296) (hx:0≤x∧x < 4294967296) (hq:0≤q∧q < 4294967296) (hc:0≤c∧c < 4294967296) (hb:0≤b∧b≤1) (hp:p=q*x+c)
  (hu':u'=dif u (p % 4294967296) b):u.toNat+B32*(p / 4294967296+bor u (p % 4294967296) b).toNat=u'.toNat+q.toNat*x.toNat+(c+b).toNat:=by
 have h1:=dif_bor hu (y:=p % 4294967296) (by omega) hb
 have h2:=dif_range u (p % 4294967296) b
 have h3:=bor_range u (p % 4294967296) b
 have h4:(q*x).toNat=q.toNat*x.toNat:=Int.toNat_mul hq.1 hx.1
 have h5:=prod_range hq.1 hq.2 hx.1 hx.2
 rw [← h4,hu']
 unfold B32
 omega
def TakePost (w:World) (g cap j:Nat) (us l1:List Int) (q:Int) (e:Ending) (w':World):Prop :=
 ∃ (us':List Int) (t:Bool),e=.returned (.bool t)∧us'.length=us.length∧ok B32 us'∧UR w' g cap us'∧w.grownBy w' (some g)∧(∀ i,¬ (j≤i∧i < j+(l1.length+1))→lmb us' i=lmb us i) ∧
    zb0 B32 (fun i=>lmb us (j+i)) (l1.length+1)+(if t then B32 ^ (l1.length+1) else 0)=zb0 B32 (fun i=>lmb us' (j+i)) (l1.length+1)+q.toNat*val B32 l1
theorem take_calls (g cap j cp:Nat) (us:List Int) (A1:Option Addr) (c1:Nat) (l1:List Int) (q:Int) (w:World) (hU:UR w g cap us) (hV:VR w g A1 l1) (hc1:l1.length≤c1) (hj:j+l1.length < us.length) (hL:us.length≤4398046511104) (hou:ok B32 us) (hov:ok B32 l1) (hq:0≤q∧q < 4294967296) (hcp:l1.length+1≤cp) :
  Calls Tryz.prog 183 #[.slice (some ⟨g,j,none⟩) (l1.length+1) cp,.slice A1 l1.length c1,.int .u64 q] w (TakePost w g cap j us l1 q):=by
 have HU:=Aside0.mk hU
 have HV:=Aside0.mk hV
 have HOU:=Aside0.mk hou
 have HOV:=Aside0.mk hov
 have HQ:=Aside0.mk hq
 have hn:(l1.length:Int)≤4398046511104:=by omega
 have hj2:(j:Int)≤4398046511104:=by omega
 clear hU hV hou hov
 go_enter Tryz.func183,Tryz.ntmps183
 go_wp2
 go_loopw [7,8,14] (fun cv bv iv wr=>∃ (k:Nat) (c b:Int),iv=.int .i64 k∧cv=.int .u64 c∧bv=.int .u32 b∧Aside0 (TI w g cap j us l1 q k c b wr)) (fun _ _ iv _=>l1.length-(intOf iv).toNat)
 case atStart =>
  exact⟨0,0,0,rfl,rfl,rfl,⟨⟨by omega,by omega,by omega,World.grownBy.refl _ _,us,rfl,HOU.out,HU.out,fun _ _=>rfl,by simp [zb0]⟩⟩⟩
 case round =>
  obtain⟨k,c,b,rfl,rfl,rfl,HI⟩:=hrel
  obtain⟨us',hl',hok',hU',hsame,hsum⟩:=HI.out.r
  have hc0:=HI.out.c0
  have hb0:=HI.out.b0
  have HU':=Aside0.mk hU'
  have HS:=Aside0.mk (And.intro hl' (And.intro hok' (And.intro hsame hsum)))
  have HVc:=Aside0.mk (HV.out.grown HI.out.gr)
  by_cases hk:k < l1.length
  ·
   obtain⟨ad,e,hx⟩:=Kd.at_int HVc.out.c (k:Int) (by omega) (by omega)
   subst e
   have hx0:=zbG HOV.out k
   rw [rd_lmb,Int.toNat_natCast] at hx
   have hu:=hU'.at_ (j+k) (by omega)
   have hu0:=zbG hok' (j+k)
   have hpr:=prod_range hq.1 hq.2 hx0.1 hx0.2
   clear hU' hok' hsame hsum
   generalize hlx:lmb l1 k=x at *
   generalize hlu:lmb us' (j+k)=u at *
   have HLX:=Aside0.mk hlx
   have HLU:=Aside0.mk hlu
   clear hlx hlu
   go_wp2_with fail
   refine(sub32_calls u ((q*x+c) % 4294967296) b wr hu0 (by omega) hb0).mono ?_
   rintro e w1 ⟨rfl,rfl⟩
   have HT:=Aside0.mk (take_step (u':=dif u ((q*x+c) % 4294967296) b) hu0 hx0 hq hc0 hb0 rfl rfl)
   have HR1:=Aside0.mk (bor_range u ((q*x+c) % 4294967296) b)
   have HR2:=Aside0.mk (dif_range u ((q*x+c) % 4294967296) b)
   have HP:=Aside0.mk (show 0≤(q*x+c) / 4294967296∧(q*x+c) / 4294967296 < 4294967296 by omega)
   generalize dif u ((q*x+c) % 4294967296) b=d at HT HR2 ⊢
   generalize bor u ((q*x+c) % 4294967296) b=bo at HT HR1 ⊢
   generalize (q*x+c) / 4294967296=cc at HT HP ⊢
   clear hpr
   go_wp2
   go_roundw
   case rel =>
    refine⟨k+1,cc,bo,by go_num,rfl,rfl,⟨⟨by omega,HP.out,HR1.out,HI.out.gr.trans (grown_set _ _ _ _),us'.set (j+k) d,by rw [List.length_set]; exact HS.out.1,ok_set HS.out.2.1 _ HR2.out,HU'.out.set_ _ _,?_,?_⟩⟩⟩
    ·
     intro i hi
     rw [zcd _ _ _ _ (by rw [HS.out.1]; omega),if_neg (by omega)]
     exact HS.out.2.2.1 i (by omega)
    ·
     have e1:zb0 B32 (fun i=>lmb (us'.set (j+k) d) (j+i)) k=zb0 B32 (fun i=>lmb us' (j+i)) k:=zcc (fun y hy=>by rw [zcd _ _ _ _ (by rw [HS.out.1]; omega),if_neg (by omega)])
     have e2:lmb (us'.set (j+k) d) (j+k)=d:=by rw [zcd _ _ _ _ (by rw [HS.out.1]; omega),if_pos rfl]
     have e3:lmb us (j+k)=u:=by rw [← HS.out.2.2.1 (j+k) (by omega)]; exact HLU.out
     rw [zb0,zb0,zb0,e1,e2,e3,HLX.out,Nat.pow_succ]
     have h1:=HS.out.2.2.2
     have h2:=congrArg (·*B32 ^ k) HT.out
     simp only [Nat.add_mul] at h2
     have h3:(cc+bo).toNat*(B32 ^ k*B32)=B32*(cc+bo).toNat*B32 ^ k:=by simp only [Nat.mul_comm,Nat.mul_left_comm,Nat.mul_assoc]
     rw [h3,Nat.mul_add,← Nat.mul_assoc]
     omega
   case measure=>simp [intOf]; omega
  ·
   have hkn:k=l1.length:=by have:=HI.out.le; omega
   subst hkn
   have hu:=hU'.at_ (j+l1.length) (by omega)
   have hu0:=zbG hok' (j+l1.length)
   clear hU' hok' hsame hsum
   generalize hlu:lmb us' (j+l1.length)=u at *
   have HLU:=Aside0.mk hlu
   clear hlu
   go_wp2_with fail
   refine(sub32_calls u c b wr hu0 hc0 hb0).mono ?_
   rintro e w1 ⟨rfl,rfl⟩
   have HT:=Aside0.mk (dif_bor hu0 hc0 hb0)
   have HR1:=Aside0.mk (bor_range u c b)
   have HR2:=Aside0.mk (dif_range u c b)
   generalize dif u c b=d at HT HR2 ⊢
   generalize bor u c b=bo at HT HR1 ⊢
   go_wp2
   go_ret
   refine⟨us'.set (j+l1.length) d,bo == 1,rfl,by rw [List.length_set]; exact HS.out.1,ok_set HS.out.2.1 _ HR2.out,HU'.out.set_ _ _,HI.out.gr.trans (grown_set _ _ _ _),?_,?_⟩
   ·
    intro i hi
    rw [zcd _ _ _ _ (by rw [HS.out.1]; omega),if_neg (by omega)]
    exact HS.out.2.2.1 i (by omega)
   ·
    have e1:zb0 B32 (fun i=>lmb (us'.set (j+l1.length) d) (j+i)) l1.length=zb0 B32 (fun i=>lmb us' (j+i)) l1.length:=zcc (fun y hy=>by rw [zcd _ _ _ _ (by rw [HS.out.1]; omega),if_neg (by omega)])
    have e2:lmb (us'.set (j+l1.length) d) (j+l1.length)=d:=by rw [zcd _ _ _ _ (by rw [HS.out.1]; omega),if_pos rfl]
    have e3:lmb us (j+l1.length)=u:=by rw [← HS.out.2.2.1 (j+l1.length) (by omega)]; exact HLU.out
    have e4:(if (bo == 1)=true then B32 ^ (l1.length+1) else 0)=bo.toNat*(B32 ^ l1.length*B32):=by
     rcases (show bo=0∨bo=1 by have:=HR1.out; omega) with h | h<;>subst h<;>simp [Nat.pow_succ]
    rw [zb0,zb0,e1,e2,e3,e4]
    have h1:=HS.out.2.2.2
    rw [zcg (Nat.le_refl _)] at h1
    have h5:u.toNat+B32*bo.toNat=d.toNat+(c+b).toNat:=by have:=HT.out; have:=HR1.out; have:=HR2.out; unfold B32; omega
    have h2:=congrArg (·*B32 ^ l1.length) h5
    simp only [Nat.add_mul] at h2
    have h3:bo.toNat*(B32 ^ l1.length*B32)=B32*bo.toNat*B32 ^ l1.length:=by simp only [Nat.mul_comm,Nat.mul_left_comm,Nat.mul_assoc]
    rw [h3]
    omega
end Go.Proofs.YtehghijlchpeaaaGreat.Nat1
end
section
namespace Go.Proofs.YtehghijlchpeaaaGreat.Nat1
open Go.RowKit YtehghijlchpeaaaGreatW.PrintWords YtehghijlchpeaaaGreatW.PrintLast YtehghijlchpeaaaGreatW.PrintMore L Nt
theorem add32_calls (x y b:Int) (w:World) (hx:0≤x∧x < 4294967296) (hy:0≤y∧y < 4294967296) (hb:0≤b∧b≤1) :
  Calls Tryz.prog 190 #[.int .u32 x,.int .u32 y,.int .u32 b] w fun e w'=>e=.returned (.tuple #[.int .u32 ((x+y+b) % 4294967296),.int .u32 ((x+y+b) / 4294967296)])∧w=w':=by
 go_enter Tryz.func190,Tryz.ntmps190
 go_wp2
 go_ret2
 have e:(x+y+b) / 4294967296 % 4294967296=(x+y+b) / 4294967296:=by omega
 refine⟨?_,rfl⟩
 first | rfl | (rw [← e]; rfl)
structure BI (w:World) (g cap j:Nat) (us:List Int) (l:List Int) (k:Nat) (b:Int) (wr:World):Prop where
 le:k≤l.length
 b0:0≤b∧b≤1
 gr:w.grownBy wr (some g)
 r:∃ us',us'.length=us.length∧ok B32 us'∧UR wr g cap us'∧(∀ i,¬ (j≤i∧i < j+k)→lmb us' i=lmb us i) ∧
  zb0 B32 (fun i=>lmb us (j+i)) k+zb0 B32 (lmb l) k=zb0 B32 (fun i=>lmb us' (j+i)) k+b.toNat*B32 ^ k
def BackPost (w:World) (g cap j:Nat) (us l1:List Int) (e:Ending) (w':World):Prop :=
 ∃ (us':List Int) (t:Nat),e=.returned (.tuple #[])∧us'.length=us.length∧ok B32 us'∧UR w' g cap us'∧w.grownBy w' (some g)∧(∀ i,¬ (j≤i∧i < j+(l1.length+1))→lmb us' i=lmb us i) ∧
    zb0 B32 (fun i=>lmb us (j+i)) (l1.length+1)+val B32 l1=zb0 B32 (fun i=>lmb us' (j+i)) (l1.length+1)+t*B32 ^ (l1.length+1)
theorem back_calls (g cap j cp:Nat) (us:List Int) (A1:Option Addr) (c1:Nat) (l1:List Int) (w:World) (hU:UR w g cap us) (hV:VR w g A1 l1) (hc1:l1.length≤c1) (hj:j+l1.length < us.length) (hL:us.length≤4398046511104) (hou:ok B32 us) (hov:ok B32 l1) (hcp:l1.length+1≤cp) :
  Calls Tryz.prog 184 #[.slice (some ⟨g,j,none⟩) (l1.length+1) cp,.slice A1 l1.length c1] w (BackPost w g cap j us l1):=by
 have HU:=Aside0.mk hU
 have HV:=Aside0.mk hV
 have HOU:=Aside0.mk hou
 have HOV:=Aside0.mk hov
 have hn:(l1.length:Int)≤4398046511104:=by omega
 have hj2:(j:Int)≤4398046511104:=by omega
 clear hU hV hou hov
 go_enter Tryz.func184,Tryz.ntmps184
 go_wp2
 go_loopw [4,9] (fun bv iv wr=>∃ (k:Nat) (b:Int),iv=.int .i64 k∧bv=.int .u32 b∧Aside0 (BI w g cap j us l1 k b wr)) (fun _ iv _=>l1.length-(intOf iv).toNat)
 case atStart =>
  exact⟨0,0,rfl,rfl,⟨⟨by omega,by omega,World.grownBy.refl _ _,us,rfl,HOU.out,HU.out,fun _ _=>rfl,by simp [zb0]⟩⟩⟩
 case round =>
  obtain⟨k,b,rfl,rfl,HI⟩:=hrel
  obtain⟨us',hl',hok',hU',hsame,hsum⟩:=HI.out.r
  have hb0:=HI.out.b0
  have HU':=Aside0.mk hU'
  have HS:=Aside0.mk (And.intro hl' (And.intro hok' (And.intro hsame hsum)))
  have HVc:=Aside0.mk (HV.out.grown HI.out.gr)
  by_cases hk:k < l1.length
  ·
   obtain⟨ad,e,hx⟩:=Kd.at_int HVc.out.c (k:Int) (by omega) (by omega)
   subst e
   have hx0:=zbG HOV.out k
   rw [rd_lmb,Int.toNat_natCast] at hx
   have hu:=hU'.at_ (j+k) (by omega)
   have hu0:=zbG hok' (j+k)
   clear hU' hok' hsame hsum
   generalize hlx:lmb l1 k=x at *
   generalize hlu:lmb us' (j+k)=u at *
   have HLX:=Aside0.mk hlx
   have HLU:=Aside0.mk hlu
   clear hlx hlu
   go_wp2_with fail
   refine(add32_calls u x b wr hu0 hx0 hb0).mono ?_
   rintro e w1 ⟨rfl,rfl⟩
   have HT:=Aside0.mk (show u.toNat+x.toNat+b.toNat=((u+x+b) % 4294967296).toNat+B32*((u+x+b) / 4294967296).toNat by unfold B32; omega)
   have HR1:=Aside0.mk (show 0≤(u+x+b) / 4294967296∧(u+x+b) / 4294967296≤1 by omega)
   have HR2:=Aside0.mk (show 0≤(u+x+b) % 4294967296∧(u+x+b) % 4294967296 < 4294967296 by omega)
   generalize (u+x+b) % 4294967296=d at HT HR2 ⊢
   generalize (u+x+b) / 4294967296=bo at HT HR1 ⊢
   go_wp2
   go_roundw
   case rel =>
    refine⟨k+1,bo,by go_num,rfl,⟨⟨by omega,HR1.out,HI.out.gr.trans (grown_set _ _ _ _),us'.set (j+k) d,by rw [List.length_set]; exact HS.out.1,ok_set HS.out.2.1 _ HR2.out,HU'.out.set_ _ _,?_,?_⟩⟩⟩
    ·
     intro i hi
     rw [zcd _ _ _ _ (by rw [HS.out.1]; omega),if_neg (by omega)]
     exact HS.out.2.2.1 i (by omega)
    ·
     have e1:zb0 B32 (fun i=>lmb (us'.set (j+k) d) (j+i)) k=zb0 B32 (fun i=>lmb us' (j+i)) k:=zcc (fun y hy=>by rw [zcd _ _ _ _ (by rw [HS.out.1]; omega),if_neg (by omega)])
     have e2:lmb (us'.set (j+k) d) (j+k)=d:=by rw [zcd _ _ _ _ (by rw [HS.out.1]; omega),if_pos rfl]
     have e3:lmb us (j+k)=u:=by rw [← HS.out.2.2.1 (j+k) (by omega)]; exact HLU.out
     rw [zb0,zb0,zb0,e1,e2,e3,HLX.out,Nat.pow_succ]
     have h1:=HS.out.2.2.2
     have h2:=congrArg (·*B32 ^ k) HT.out
     simp only [Nat.add_mul] at h2
     have h3:bo.toNat*(B32 ^ k*B32)=B32*bo.toNat*B32 ^ k:=by simp only [Nat.mul_comm,Nat.mul_left_comm,Nat.mul_assoc]
     rw [h3]
     omega
   case measure=>simp [intOf]; omega
  ·
   have hkn:k=l1.length:=by have:=HI.out.le; omega
   subst hkn
   have hu:=hU'.at_ (j+l1.length) (by omega)
   have hu0:=zbG hok' (j+l1.length)
   clear hU' hok' hsame hsum
   generalize hlu:lmb us' (j+l1.length)=u at *
   have HLU:=Aside0.mk hlu
   clear hlu
   go_wp2
   go_end0
   refine⟨us'.set (j+l1.length) ((u+b) % 4294967296),((u+b) / 4294967296).toNat,rfl,by rw [List.length_set]; exact HS.out.1,ok_set HS.out.2.1 _ (by omega),HU'.out.set_ _ _,HI.out.gr.trans (grown_set _ _ _ _),?_,?_⟩
   ·
    intro i hi
    rw [zcd _ _ _ _ (by rw [HS.out.1]; omega),if_neg (by omega)]
    exact HS.out.2.2.1 i (by omega)
   ·
    have e1:zb0 B32 (fun i=>lmb (us'.set (j+l1.length) ((u+b) % 4294967296)) (j+i)) l1.length=zb0 B32 (fun i=>lmb us' (j+i)) l1.length:=zcc (fun y hy=>by rw [zcd _ _ _ _ (by rw [HS.out.1]; omega),if_neg (by omega)])
    have e2:lmb (us'.set (j+l1.length) ((u+b) % 4294967296)) (j+l1.length)=(u+b) % 4294967296:=by rw [zcd _ _ _ _ (by rw [HS.out.1]; omega),if_pos rfl]
    have e3:lmb us (j+l1.length)=u:=by rw [← HS.out.2.2.1 (j+l1.length) (by omega)]; exact HLU.out
    rw [zb0,zb0,e1,e2,e3,Nat.pow_succ]
    have h1:=HS.out.2.2.2
    rw [zcg (Nat.le_refl _)] at h1
    have h5:u.toNat+b.toNat=((u+b) % 4294967296).toNat+B32*((u+b) / 4294967296).toNat:=by unfold B32; omega
    have h2:=congrArg (·*B32 ^ l1.length) h5
    simp only [Nat.add_mul] at h2
    have h3:((u+b) / 4294967296).toNat*(B32 ^ l1.length*B32)=B32*((u+b) / 4294967296).toNat*B32 ^ l1.length:=by simp only [Nat.mul_comm,Nat.mul_left_comm,Nat.mul_assoc]
    rw [h3]
    omega
end Go.Proofs.YtehghijlchpeaaaGreat.Nat1
end
