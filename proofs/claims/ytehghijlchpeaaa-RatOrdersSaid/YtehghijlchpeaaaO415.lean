/- Part 16 of the proof of ratOrders_holds: what it uses, in build order. -/
import Derived.Test.YtehghijlchpeaaaO414
section
noncomputable section
namespace Go.Proofs.Ytehghijlchpeaaa.J
open Go.RowKit Ytehghijlchpeaaa.H Ytehghijlchpeaaa.L Ytehghijlchpeaaa.Nat1 Go.Proofs.YtehghijlchpeaaaW.PrintWords Go.Proofs.YtehghijlchpeaaaW.PrintLast Go.Proofs.YtehghijlchpeaaaW.PrintMore
attribute [local go_sem] zcm zcl zcx zcz zcc zcd zck zcj   -- for this text's walks alone
set_option linter.unusedVariables false
set_option linter.unusedSimpArgs false
def rat_product.l0:Nat→List (S25)→Int→Int→Bool→List Int→List Int→Option (Bool×List Int×List Int)
 | 0,_,_,_,_,_,_=>none
 | k+1,x7,x8,x9,x150000,x150001,x150002=>if x9 < x8 then (if 0≤x9 then (if x9 < (x7.length:Int) then ((rat_Norm.f ((rd_T25 x7 x9).f0) ((rd_T25 x7 x9).f1) ((rd_T25 x7 x9).f2)).bind fun bt152=>((nat_Mul.f k x150001 bt152.2.1).bind fun t159=>((nat_Mul.f k x150002 bt152.2.2).bind fun t162=>((rat_Make.f (x150000 != bt152.1) t159 t162).bind fun bt165=>(rat_product.l0 k x7 x8 (wrap64 (x9+1)) bt165.1 bt165.2.1 bt165.2.2.1))))) else (none)) else (none)) else (some (x150000,x150001,x150002))
def rat_product.f (k:Nat) (l0:List (S25)):Option (Bool×List Int×List Int):=(rat_Int.f 1).bind fun bt142=>(rat_product.l0 k l0 (l0.length:Int) 0 bt142.1 bt142.2.1 bt142.2.2)
theorem rat_product.mono_l:∀ k,(∀ y0 y1 y2 y3 y4 y5,LeO (rat_product.l0 k y0 y1 y2 y3 y4 y5) (rat_product.l0 (k+1) y0 y1 y2 y3 y4 y5))
 | 0=>fun _ _ _ _ _ _ r h=>by simp [rat_product.l0] at h
 | k+1=>by
  have ih0:=rat_product.mono_l k
  ·
   intro y0 y1 y2 y3 y4 y5
   unfold rat_product.l0
   repeat' first
   | (with_reducible exact ih0 _ _ _ _ _ _)
   | (with_reducible exact nat_Mul.mono _ _ _)
   | (with_reducible exact LeO.refl _)
   | (with_reducible exact LeO.none _)
   | (with_reducible refine LeO.ite ?_ ?_)
   | (with_reducible refine LeO.bind ?_ (fun _=>?_))
   | exact ih0 _ _ _ _ _ _
   | exact nat_Mul.mono _ _ _
   | exact LeO.none _
   | refine LeO.ite ?_ ?_
   | refine LeO.bind ?_ (fun _=>?_)
theorem rat_product.mono:∀ a0 k,LeO (rat_product.f k a0) (rat_product.f (k+1) a0):=by
 intro a0 k
 have ih0:=rat_product.mono_l k
 unfold rat_product.f
 repeat' first
   | (with_reducible exact ih0 _ _ _ _ _ _)
   | (with_reducible exact nat_Mul.mono _ _ _)
   | (with_reducible exact LeO.refl _)
   | (with_reducible exact LeO.none _)
   | (with_reducible refine LeO.ite ?_ ?_)
   | (with_reducible refine LeO.bind ?_ (fun _=>?_))
   | exact ih0 _ _ _ _ _ _
   | exact nat_Mul.mono _ _ _
   | exact LeO.none _
   | refine LeO.ite ?_ ?_
   | refine LeO.bind ?_ (fun _=>?_)
def rat_product.T6:Bool×List (List Nat×List Nat):=(true,[([],[]),([0],[0]),([],[]),([2],[2]),([1,3],[1,3]),([],[]),([5],[5]),([],[]),([7],[7]),([6,8],[6,8]),([],[]),([10],[10]),([],[]),([12],[12]),([11,13,9],[11,13]),([4,9,14,14],[4,9,14]),([15],[15]),([16],[16]),([16],[16]),([17,15,0,1,2,3,4,5,6,7,8,9,10,11,12,13,14,15,16,17],[17])])
def rat_product.B6:List Nat:=[0,1,0,4,15,0,32,0,128,480,0,1024,0,4096,16352,32767,65535,131071,131071,262143]
theorem rat_product.tab6:rtab .any (opsOf Try.f78 6)=rat_product.T6:=by kernel_rfl
theorem rat_product.bits6:zcI rat_product.T6.2 rat_product.B6=true:=by kernel_rfl
set_option maxHeartbeats 8000000 in
set_option maxRecDepth 100000 in
theorem rat_product.calls (k:Nat) (A0:Option Addr) (c0:Nat) (l0:List (S25)) (r1:Bool) (r2:List Int) (r3:List Int) (w:World) (hr0:Kd.C k25 w A0 l0.length l0) (hc0:l0.length≤c0) (h:rat_product.f k l0=some (r1,r2,r3)) :
  Calls Try.prog 78 #[.slice A0 l0.length c0] w fun e w'=>∃ v1_ v2_:Value,e=.returned (.agg #[.bool r1,v1_,v2_])∧Kd.R (Kd.int .u32) 63 w' w.heap.size (fun k_=>some k_≠(v2_:Value).ownBlock) v1_ r2∧Kd.R (Kd.int .u32) 63 w' w.heap.size (fun k_=>some k_≠(v1_:Value).ownBlock) v2_ r3∧Below w.heap.size w w':=by
 have hu25:=Try.underlying25
 have HR0:=Aside0.mk hr0
 have HC0:=Aside0.mk hc0
 clear hr0 hc0
 have HB:=Aside0.mk (Below.refl w.heap.size w)
 have H:((rat_Int.f 1).bind fun bt142=>(rat_product.l0 k l0 (l0.length:Int) 0 bt142.1 bt142.2.1 bt142.2.2))=some (r1,r2,r3):=h
 clear h
 replace H:=Option.bind_eq_some_iff.mp H
 obtain⟨⟨t142,t143,t146⟩,A20,H⟩:=H
 replace H:(rat_product.l0 k l0 (l0.length:Int) 0 t142 t143 t146)=some (r1,r2,r3):=H
 have A2:=Aside0.mk A20
 clear A20
 have H':=Aside0.mk H
 clear H
 go_enter Try.func78,Try.ntmps78
 go_wp2_with (first | ((with_reducible refine zbO (N:=2) rfl ?_); refine zbM ?hg (N:=2) ?hd (cs:=#[.bool false,.slice none 0 0,.slice none 0 0]) (t:=25) ?hr ?_; (case hd=>rfl); (case hg=>rfl); (case hr=>first | (go_simp; done) | (go_simp; rfl)); intro gb141 hg w3 hbox hb; have n0_:=Aside0.mk (zbx (by repeat (first | (with_reducible first | exact HB.out | apply zbt | apply zbs | apply zbu) | exact HB.out)) hb); have n1_:=Aside0.mk (hbox); have n2_:=Aside0.mk ((by rw [hg]; exact(zbD (by repeat (first | (with_reducible first | exact HB.out | apply zbt | apply zbs | apply zbu) | exact HB.out))):w.heap.size≤gb141)); have n3_:=Aside0.mk ((by rw [hg]; exact(zbD (by repeat (first | (with_reducible first | exact HB.out | apply zbt | apply zbs | apply zbu) | exact HB.out))):w.heap.size≤gb141)); clear HB; have HB:=n0_; have BK141:=n1_; have GW141:=n2_; have GE141:=n3_; clear n0_ n1_ n2_ n3_; clear hb hbox hg) | ((with_reducible refine zbH (f:=28) rfl ?_); refine zbW (some 6) rfl rfl Try.func28 (by kernel_rfl) rfl #[.int .i64 1] rfl (by (try simp only [List.map_toArray,List.map_cons,List.map_nil]); first | done | rfl | (simp only [List.length_drop,List.length_take]; rfl)) ?_; (with_reducible refine(rat_Int.calls 1 t142 t143 t146 _ A2.out).mono ?_); rintro e w4 ⟨v144,v147,rfl,ho0,ho1,hb⟩; refine⟨_,rfl,?_⟩; have n0_:=Aside0.mk (Kd.R_lower ho0 (zbD (by repeat (first | (with_reducible first | exact HB.out | apply zbt | apply zbs | apply zbu | refine zbw ?_ GE141.out) | exact HB.out)))); have n1_:=Aside0.mk (Kd.R_lower ho1 (zbD (by repeat (first | (with_reducible first | exact HB.out | apply zbt | apply zbs | apply zbu | refine zbw ?_ GE141.out) | exact HB.out)))); have n2_:=Aside0.mk (zbC (g:=gb141) (o:=.cells #[.bool false,.slice none 0 0,.slice none 0 0] 25 (0,0)) (by (with_reducible repeat (first | refine zbz ?_ _ | refine zbA ?_ | refine zby ?_ _)); exact BK141.out) hb); have n3_:=Aside0.mk (zbx (by repeat (first | (with_reducible first | exact HB.out | apply zbt | apply zbs | apply zbu | refine zbw ?_ GE141.out) | exact HB.out)) hb); clear BK141; clear HB; have HO145:=n0_; have HO148:=n1_; have BK141:=n2_; have HB:=n3_; clear n0_ n1_ n2_ n3_; (try clear hb); (try clear hb2); (try clear hk); (try clear hi); (try clear ho0); (try clear ho1)) | ((with_reducible refine zbO (N:=3) rfl ?_); refine zbM ?hg (N:=3) ?hd (cs:=#[.bool false,.slice none 0 0,.slice none 0 0]) (t:=25) ?hr ?_; (case hd=>rfl); (case hg=>rfl); (case hr=>first | (go_simp; done) | (go_simp; rfl)); intro gb149 hg w5 hbox hb; have n0_:=Aside0.mk (Kd.R_below (by (with_reducible repeat (first | apply Kd.R_alloc | apply Kd.R_drewN | apply Kd.R_drew)); exact HO145.out) hb); have n1_:=Aside0.mk (Kd.R_below (by (with_reducible repeat (first | apply Kd.R_alloc | apply Kd.R_drewN | apply Kd.R_drew)); exact HO148.out) hb); have n2_:=Aside0.mk (zbC (g:=gb141) (o:=.cells #[.bool false,.slice none 0 0,.slice none 0 0] 25 (0,0)) (by (with_reducible repeat (first | refine zbz ?_ _ | refine zbA ?_ | refine zby ?_ _)); exact BK141.out) hb); have n3_:=Aside0.mk (zbx (by repeat (first | (with_reducible first | exact HB.out | apply zbt | apply zbs | apply zbu | refine zbw ?_ GE141.out) | exact HB.out)) hb); have n4_:=Aside0.mk (hbox); have n5_:=Aside0.mk ((by rw [hg]; exact(zbD (by repeat (first | (with_reducible first | exact HB.out | apply zbt | apply zbs | apply zbu | refine zbw ?_ GE141.out) | exact HB.out))):w.heap.size≤gb149)); have n6_:=Aside0.mk ((by rw [hg]; exact(zbD (by repeat (first | (with_reducible first | exact HB.out | apply zbt | apply zbs | apply zbu | refine zbw ?_ GE141.out) | exact HB.out))):w.heap.size≤gb149)); have n7_:=Aside0.mk ((by rw [hg]; exact Nat.ne_of_lt (zbV (g:=gb141) (o:=.cells #[.bool false,.slice none 0 0,.slice none 0 0] 25 (0,0)) (by (with_reducible repeat (first | refine zbz ?_ _ | refine zbA ?_ | refine zby ?_ _)); exact BK141.out)):gb141≠gb149)); have n8_:=Aside0.mk ((by rw [hg]; exact Nat.ne_of_gt (zbV (g:=gb141) (o:=.cells #[.bool false,.slice none 0 0,.slice none 0 0] 25 (0,0)) (by (with_reducible repeat (first | refine zbz ?_ _ | refine zbA ?_ | refine zby ?_ _)); exact BK141.out)):gb149≠gb141)); clear HO145; clear HO148; clear BK141; clear HB; have HO145:=n0_; have HO148:=n1_; have BK141:=n2_; have HB:=n3_; have BK149:=n4_; have GW149:=n5_; have GE149:=n6_; have NB141_149:=n7_; have NB149_141:=n8_; clear n0_ n1_ n2_ n3_ n4_ n5_ n6_ n7_ n8_; clear hb hbox hg; have hnb6:=NB149_141.out; have hnc6:=NB141_149.out; have hcz7_0:w5.cell? ⟨gb149,0,none⟩=some (.bool false):=(zbv BK149.out 0).trans rfl; have hcz7_1:w5.cell? ⟨gb149,1,none⟩=some (.slice none 0 0):=(zbv BK149.out 1).trans rfl; have hcz7_2:w5.cell? ⟨gb149,2,none⟩=some (.slice none 0 0):=(zbv BK149.out 2).trans rfl; have hfz7_0:=zbB BK149.out 0; have hfz7_1:=zbB BK149.out 1; have hfz7_2:=zbB BK149.out 2; obtain⟨Ao8,co8,eo8⟩:=Kd.R_slice HO145.out; subst eo8; obtain⟨Ao9,co9,eo9⟩:=Kd.R_slice HO148.out; subst eo9))
 go_loopg [9] k (fun kq v9 w'=>∃ (x9_1:Int) (x150000_1:Bool) (x150001_1:List Int) (x150002_1:List Int) (u150001:Value) (u150002:Value),v9=.int .i64 x9_1∧Aside0 (rat_product.l0 kq l0 (l0.length:Int) x9_1 x150000_1 x150001_1 x150002_1=some (r1,r2,r3))∧Aside0 (kq≤k)∧Aside0 (Kd.R (Kd.int .u32) 63 w' w.heap.size (fun k_=>some k_≠(u150002:Value).ownBlock) u150001 x150001_1)∧Aside0 (Kd.R (Kd.int .u32) 63 w' w.heap.size (fun k_=>some k_≠(u150001:Value).ownBlock) u150002 x150002_1)∧Aside0 (w'.heap[gb141]? = some (.cells #[.bool false,(.slice none 0 0),(.slice none 0 0)] 25 (0,0)))∧Aside0 (w'.heap[gb149]? = some (.cells #[.bool x150000_1,u150001,u150002] 25 (0,0)))∧Aside0 (Below w.heap.size w w'))
 case atStart=>exact⟨(0),(t142),(t143),(t146),(.slice Ao8 t143.length co8),(.slice Ao9 t146.length co9),(by first | rfl | (simp; done) | (simp [*]; done)),H',⟨Nat.le_refl _⟩,⟨by (with_reducible repeat (first | apply Kd.R_alloc | apply Kd.R_drewN | apply Kd.R_drew)); exact Kd.R_mono (Kd.R_far (p:=⟨gb149,2,none⟩) (Kd.R_far (p:=⟨gb149,1,none⟩) (Kd.R_far (p:=⟨gb149,0,none⟩) (Kd.R_types HO145.out BK149.out (by decide)) (fun _ hk=>hk.2) (.bool t142)) (fun _ hk=>hk.2) (.slice Ao8 t143.length co8)) (fun _ hk=>hk.2) (.slice Ao9 t146.length co9)) (fun _ hk=>hk.1)⟩,⟨by (with_reducible repeat (first | apply Kd.R_alloc | apply Kd.R_drewN | apply Kd.R_drew)); exact Kd.R_mono (Kd.R_far (p:=⟨gb149,2,none⟩) (Kd.R_far (p:=⟨gb149,1,none⟩) (Kd.R_far (p:=⟨gb149,0,none⟩) (Kd.R_types HO148.out BK149.out (by decide)) (fun _ hk=>hk.2) (.bool t142)) (fun _ hk=>hk.2) (.slice Ao8 t143.length co8)) (fun _ hk=>hk.2) (.slice Ao9 t146.length co9)) (fun _ hk=>hk.1)⟩,⟨by (with_reducible repeat (first | refine zbz ?_ _ | refine zbA ?_ | refine zby ?_ _)); refine zbT ?_ NB141_149.out _; (with_reducible repeat (first | refine zbz ?_ _ | refine zbA ?_ | refine zby ?_ _)); refine zbT ?_ NB141_149.out _; (with_reducible repeat (first | refine zbz ?_ _ | refine zbA ?_ | refine zby ?_ _)); refine zbT ?_ NB141_149.out _; (with_reducible repeat (first | refine zbz ?_ _ | refine zbA ?_ | refine zby ?_ _)); exact BK141.out⟩,⟨by (with_reducible repeat (first | refine zbz ?_ _ | refine zbA ?_ | refine zby ?_ _)); refine zbN (cs:=#[.bool t142,.slice Ao8 t143.length co8,.slice none 0 0]) ?_ 2 _ rfl; (with_reducible repeat (first | refine zbz ?_ _ | refine zbA ?_ | refine zby ?_ _)); refine zbN (cs:=#[.bool t142,.slice none 0 0,.slice none 0 0]) ?_ 1 _ rfl; (with_reducible repeat (first | refine zbz ?_ _ | refine zbA ?_ | refine zby ?_ _)); refine zbN (cs:=#[.bool false,.slice none 0 0,.slice none 0 0]) ?_ 0 _ rfl; (with_reducible repeat (first | refine zbz ?_ _ | refine zbA ?_ | refine zby ?_ _)); exact BK149.out⟩,⟨by repeat (first | (with_reducible first | exact HB.out | apply zbt | apply zbs | apply zbu | refine zbw ?_ GE141.out | refine zbw ?_ GE149.out) | exact HB.out)⟩⟩
 case round =>
  clear H'
  try clear c2
  try clear p2
  try clear c6
  try clear c7
  try clear hcz7_0
  try clear hcz7_1
  try clear hcz7_2
  try clear hfz7_0
  try clear hfz7_1
  try clear hfz7_2
  obtain⟨x9_1,x150000_1,x150001_1,x150002_1,u150001,u150002,rfl,HA,HK1,HO_150001,HO_150002,BK141,BK149,HB⟩:=hrel
  cases gk with
  | zero=>exact absurd HA.out (by simp [rat_product.l0])
  | succ k1 =>
   have H:=HA.out
   clear HA
   simp only [rat_product.l0] at H
   by_cases c10:x9_1 < (l0.length:Int)
   ·
    rw [if_pos c10] at H
    have c10b0:decide (x9_1 < (l0.length:Int))=true:=decide_eq_true c10
    clear c10
    by_cases c11:0≤x9_1
    ·
     rw [if_pos c11] at H
     have c11b0:decide (0≤x9_1)=true:=decide_eq_true c11
     clear c11
     by_cases c12:x9_1 < (l0.length:Int)
     ·
      rw [if_pos c12] at H
      have c12b0:decide (x9_1 < (l0.length:Int))=true:=decide_eq_true c12
      clear c12
      replace H:=Option.bind_eq_some_iff.mp H
      obtain⟨⟨t152,t153,t156⟩,A130,H⟩:=H
      replace H:((nat_Mul.f k1 x150001_1 t153).bind fun t159=>((nat_Mul.f k1 x150002_1 t156).bind fun t162=>((rat_Make.f (x150000_1 != t152) t159 t162).bind fun bt165=>(rat_product.l0 k1 l0 (l0.length:Int) (wrap64 (x9_1+1)) bt165.1 bt165.2.1 bt165.2.2.1))))=some (r1,r2,r3):=H
      have A13:=Aside0.mk A130
      clear A130
      replace H:=Option.bind_eq_some_iff.mp H
      obtain⟨t159,A140,H⟩:=H
      replace H:((nat_Mul.f k1 x150002_1 t156).bind fun t162=>((rat_Make.f (x150000_1 != t152) t159 t162).bind fun bt165=>(rat_product.l0 k1 l0 (l0.length:Int) (wrap64 (x9_1+1)) bt165.1 bt165.2.1 bt165.2.2.1)))=some (r1,r2,r3):=H
      have A14:=Aside0.mk A140
      clear A140
      replace H:=Option.bind_eq_some_iff.mp H
      obtain⟨t162,A150,H⟩:=H
      replace H:((rat_Make.f (x150000_1 != t152) t159 t162).bind fun bt165=>(rat_product.l0 k1 l0 (l0.length:Int) (wrap64 (x9_1+1)) bt165.1 bt165.2.1 bt165.2.2.1))=some (r1,r2,r3):=H
      have A15:=Aside0.mk A150
      clear A150
      replace H:=Option.bind_eq_some_iff.mp H
      obtain⟨⟨t165,t166,t169,t172⟩,A160,H⟩:=H
      replace H:(rat_product.l0 k1 l0 (l0.length:Int) (wrap64 (x9_1+1)) t165 t166 t169)=some (r1,r2,r3):=H
      have A16:=Aside0.mk A160
      clear A160
      have H':=Aside0.mk H
      clear H
      have p150:0≤(x9_1:Int):=of_decide_eq_true (by first | (with_reducible assumption) | assumption)
      have q150:x9_1 < (l0.length:Int):=of_decide_eq_true (by first | (with_reducible assumption) | assumption)
      obtain⟨ad150,A150_1,c150_1,A150_2,c150_2,e150,hx150_0,hx150_1,hx150_2,hl150_1,hi150_1,hl150_2,hi150_2⟩:=at_T25 HR0.out x9_1 p150 q150
      cases e150
      replace hx150_0:=(HB.out.cell (World.block_lt_of_cell? w _ hx150_0)).trans hx150_0
      replace hx150_1:=(HB.out.cell (World.block_lt_of_cell? w _ hx150_1)).trans hx150_1
      replace hx150_2:=(HB.out.cell (World.block_lt_of_cell? w _ hx150_2)).trans hx150_2
      have HR150_1:=Aside0.mk hi150_1
      have HC150_1:=Aside0.mk hl150_1
      clear hi150_1 hl150_1
      have HR150_2:=Aside0.mk hi150_2
      have HC150_2:=Aside0.mk hl150_2
      clear hi150_2 hl150_2
      replace p150:=eq_true p150
      replace q150:=eq_true q150
      try go_wp2_with (first | ((with_reducible refine zbO (N:=5) rfl ?_); refine zbM ?hg (N:=5) ?hd (cs:=#[.bool false,.slice none 0 0,.slice none 0 0]) (t:=25) ?hr ?_; (case hd=>rfl); (case hg=>rfl); (case hr=>first | (go_simp; done) | (go_simp; rfl)); intro gb151 hg w17 hbox hb; have n0_:=Aside0.mk (Kd.R_below (by (with_reducible repeat (first | apply Kd.R_alloc | apply Kd.R_drewN | apply Kd.R_drew)); exact HO_150001.out) hb); have n1_:=Aside0.mk (Kd.R_below (by (with_reducible repeat (first | apply Kd.R_alloc | apply Kd.R_drewN | apply Kd.R_drew)); exact HO_150002.out) hb); have n2_:=Aside0.mk (zbC (g:=gb141) (o:=.cells #[.bool false,.slice none 0 0,.slice none 0 0] 25 (0,0)) (by (with_reducible repeat (first | refine zbz ?_ _ | refine zbA ?_ | refine zby ?_ _)); exact BK141.out) hb); have n3_:=Aside0.mk (zbC (g:=gb149) (o:=.cells #[.bool x150000_1,u150001,u150002] 25 (0,0)) (by (with_reducible repeat (first | refine zbz ?_ _ | refine zbA ?_ | refine zby ?_ _)); exact BK149.out) hb); have n4_:=Aside0.mk (zbx (by repeat (first | (with_reducible first | exact HB.out | apply zbt | apply zbs | apply zbu | refine zbw ?_ GE141.out | refine zbw ?_ GE149.out) | exact HB.out)) hb); have n5_:=Aside0.mk (hbox); have n6_:=Aside0.mk ((by rw [hg]; exact(zbD (by repeat (first | (with_reducible first | exact HB.out | apply zbt | apply zbs | apply zbu | refine zbw ?_ GE141.out | refine zbw ?_ GE149.out) | exact HB.out))):w.heap.size≤gb151)); have n7_:=Aside0.mk ((by rw [hg]; exact(zbD (by repeat (first | (with_reducible first | exact HB.out | apply zbt | apply zbs | apply zbu | refine zbw ?_ GE141.out | refine zbw ?_ GE149.out) | exact HB.out))):w.heap.size≤gb151)); have n8_:=Aside0.mk ((by rw [hg]; exact Nat.ne_of_lt (zbV (g:=gb141) (o:=.cells #[.bool false,.slice none 0 0,.slice none 0 0] 25 (0,0)) (by (with_reducible repeat (first | refine zbz ?_ _ | refine zbA ?_ | refine zby ?_ _)); exact BK141.out)):gb141≠gb151)); have n9_:=Aside0.mk ((by rw [hg]; exact Nat.ne_of_gt (zbV (g:=gb141) (o:=.cells #[.bool false,.slice none 0 0,.slice none 0 0] 25 (0,0)) (by (with_reducible repeat (first | refine zbz ?_ _ | refine zbA ?_ | refine zby ?_ _)); exact BK141.out)):gb151≠gb141)); have n10_:=Aside0.mk ((by rw [hg]; exact Nat.ne_of_lt (zbV (g:=gb149) (o:=.cells #[.bool x150000_1,u150001,u150002] 25 (0,0)) (by (with_reducible repeat (first | refine zbz ?_ _ | refine zbA ?_ | refine zby ?_ _)); exact BK149.out)):gb149≠gb151)); have n11_:=Aside0.mk ((by rw [hg]; exact Nat.ne_of_gt (zbV (g:=gb149) (o:=.cells #[.bool x150000_1,u150001,u150002] 25 (0,0)) (by (with_reducible repeat (first | refine zbz ?_ _ | refine zbA ?_ | refine zby ?_ _)); exact BK149.out)):gb151≠gb149)); clear HO_150001; clear HO_150002; clear BK141; clear BK149; clear HB; have HO_150001:=n0_; have HO_150002:=n1_; have BK141:=n2_; have BK149:=n3_; have HB:=n4_; have BK151:=n5_; have GW151:=n6_; have GE151:=n7_; have NB141_151:=n8_; have NB151_141:=n9_; have NB149_151:=n10_; have NB151_149:=n11_; clear n0_ n1_ n2_ n3_ n4_ n5_ n6_ n7_ n8_ n9_ n10_ n11_; clear hb hbox hg; have hnb18:=NB151_141.out; have hnc18:=NB141_151.out; have hnb19:=NB151_149.out; have hnc19:=NB149_151.out; have hcz20_0:w17.cell? ⟨gb151,0,none⟩=some (.bool false):=(zbv BK151.out 0).trans rfl; have hcz20_1:w17.cell? ⟨gb151,1,none⟩=some (.slice none 0 0):=(zbv BK151.out 1).trans rfl; have hcz20_2:w17.cell? ⟨gb151,2,none⟩=some (.slice none 0 0):=(zbv BK151.out 2).trans rfl; have hfz20_0:=zbB BK151.out 0; have hfz20_1:=zbB BK151.out 1; have hfz20_2:=zbB BK151.out 2) | ((with_reducible refine zbH (f:=16) rfl ?_); refine zbW (some 14) rfl rfl Try.func16 (by kernel_rfl) rfl #[.agg #[.bool ((rd_T25 l0 x9_1).f0),.slice A150_1 ((rd_T25 l0 x9_1).f1).length c150_1,.slice A150_2 ((rd_T25 l0 x9_1).f2).length c150_2]] rfl (by (try simp only [List.map_toArray,List.map_cons,List.map_nil]); first | done | rfl | (simp only [List.length_drop,List.length_take]; rfl)) ?_; (with_reducible refine(rat_Norm.calls ((rd_T25 l0 x9_1).f0) _ _ ((rd_T25 l0 x9_1).f1) _ _ ((rd_T25 l0 x9_1).f2) t152 t153 t156 _ ?side1 ?side2 ?side3 ?side4 A13.out).mono ?_); (case side1=>exact Kd.C_below HR150_1.out (by repeat (first | (with_reducible first | exact HB.out | apply zbt | apply zbs | apply zbu | refine zbw ?_ GE141.out | refine zbw ?_ GE149.out | refine zbw ?_ GE151.out) | exact HB.out))); (case side2=>exact HC150_1.out); (case side3=>exact Kd.C_below HR150_2.out (by repeat (first | (with_reducible first | exact HB.out | apply zbt | apply zbs | apply zbu | refine zbw ?_ GE141.out | refine zbw ?_ GE149.out | refine zbw ?_ GE151.out) | exact HB.out))); (case side4=>exact HC150_2.out); rintro e w21 ⟨v154,v157,rfl,ho0,ho1,hb⟩; refine⟨_,rfl,?_⟩; have n0_:=Aside0.mk (Kd.R_mono (Kd.R_told (Kd.R_told (Kd.R_old (by (with_reducible repeat (first | apply Kd.R_alloc | apply Kd.R_drewN | apply Kd.R_drew)); exact(Kd.R_mono (Kd.R_far (p:=⟨gb151,2,none⟩) (Kd.R_far (p:=⟨gb151,1,none⟩) (Kd.R_far (p:=⟨gb151,0,none⟩) (Kd.R_types HO_150001.out BK151.out (by decide)) (fun _ hk=>hk.2) (.bool ((rd_T25 l0 x9_1).f0))) (fun _ hk=>hk.2) (.slice A150_1 ((rd_T25 l0 x9_1).f1).length c150_1)) (fun _ hk=>hk.2) (.slice A150_2 ((rd_T25 l0 x9_1).f2).length c150_2)) (fun _ h_=>h_.1))) hb) (Kd.R_base ho0)) (Kd.R_base ho1)) (fun _ h_=>h_.1)); have n1_:=Aside0.mk (Kd.R_mono (Kd.R_told (Kd.R_told (Kd.R_old (by (with_reducible repeat (first | apply Kd.R_alloc | apply Kd.R_drewN | apply Kd.R_drew)); exact(Kd.R_mono (Kd.R_far (p:=⟨gb151,2,none⟩) (Kd.R_far (p:=⟨gb151,1,none⟩) (Kd.R_far (p:=⟨gb151,0,none⟩) (Kd.R_types HO_150002.out BK151.out (by decide)) (fun _ hk=>hk.2) (.bool ((rd_T25 l0 x9_1).f0))) (fun _ hk=>hk.2) (.slice A150_1 ((rd_T25 l0 x9_1).f1).length c150_1)) (fun _ hk=>hk.2) (.slice A150_2 ((rd_T25 l0 x9_1).f2).length c150_2)) (fun _ h_=>h_.1))) hb) (Kd.R_base ho0)) (Kd.R_base ho1)) (fun _ h_=>h_.1)); have n2_:=Aside0.mk (Kd.R_lower (Kd.R_new' (Kd.R_new' ho0 (Kd.R_lt (by (with_reducible repeat (first | apply Kd.R_alloc | apply Kd.R_drewN | apply Kd.R_drew)); exact(Kd.R_mono (Kd.R_far (p:=⟨gb151,2,none⟩) (Kd.R_far (p:=⟨gb151,1,none⟩) (Kd.R_far (p:=⟨gb151,0,none⟩) (Kd.R_types HO_150001.out BK151.out (by decide)) (fun _ hk=>hk.2) (.bool ((rd_T25 l0 x9_1).f0))) (fun _ hk=>hk.2) (.slice A150_1 ((rd_T25 l0 x9_1).f1).length c150_1)) (fun _ hk=>hk.2) (.slice A150_2 ((rd_T25 l0 x9_1).f2).length c150_2)) (fun _ h_=>h_.1))))) (Kd.R_lt (by (with_reducible repeat (first | apply Kd.R_alloc | apply Kd.R_drewN | apply Kd.R_drew)); exact(Kd.R_mono (Kd.R_far (p:=⟨gb151,2,none⟩) (Kd.R_far (p:=⟨gb151,1,none⟩) (Kd.R_far (p:=⟨gb151,0,none⟩) (Kd.R_types HO_150002.out BK151.out (by decide)) (fun _ hk=>hk.2) (.bool ((rd_T25 l0 x9_1).f0))) (fun _ hk=>hk.2) (.slice A150_1 ((rd_T25 l0 x9_1).f1).length c150_1)) (fun _ hk=>hk.2) (.slice A150_2 ((rd_T25 l0 x9_1).f2).length c150_2)) (fun _ h_=>h_.1))))) (zbD (by repeat (first | (with_reducible first | exact HB.out | apply zbt | apply zbs | apply zbu | refine zbw ?_ GE141.out | refine zbw ?_ GE149.out | refine zbw ?_ GE151.out) | exact HB.out)))); have n3_:=Aside0.mk (Kd.R_lower (Kd.R_new' (Kd.R_new' ho1 (Kd.R_lt (by (with_reducible repeat (first | apply Kd.R_alloc | apply Kd.R_drewN | apply Kd.R_drew)); exact(Kd.R_mono (Kd.R_far (p:=⟨gb151,2,none⟩) (Kd.R_far (p:=⟨gb151,1,none⟩) (Kd.R_far (p:=⟨gb151,0,none⟩) (Kd.R_types HO_150001.out BK151.out (by decide)) (fun _ hk=>hk.2) (.bool ((rd_T25 l0 x9_1).f0))) (fun _ hk=>hk.2) (.slice A150_1 ((rd_T25 l0 x9_1).f1).length c150_1)) (fun _ hk=>hk.2) (.slice A150_2 ((rd_T25 l0 x9_1).f2).length c150_2)) (fun _ h_=>h_.1))))) (Kd.R_lt (by (with_reducible repeat (first | apply Kd.R_alloc | apply Kd.R_drewN | apply Kd.R_drew)); exact(Kd.R_mono (Kd.R_far (p:=⟨gb151,2,none⟩) (Kd.R_far (p:=⟨gb151,1,none⟩) (Kd.R_far (p:=⟨gb151,0,none⟩) (Kd.R_types HO_150002.out BK151.out (by decide)) (fun _ hk=>hk.2) (.bool ((rd_T25 l0 x9_1).f0))) (fun _ hk=>hk.2) (.slice A150_1 ((rd_T25 l0 x9_1).f1).length c150_1)) (fun _ hk=>hk.2) (.slice A150_2 ((rd_T25 l0 x9_1).f2).length c150_2)) (fun _ h_=>h_.1))))) (zbD (by repeat (first | (with_reducible first | exact HB.out | apply zbt | apply zbs | apply zbu | refine zbw ?_ GE141.out | refine zbw ?_ GE149.out | refine zbw ?_ GE151.out) | exact HB.out)))); have n4_:=Aside0.mk (zbC (g:=gb141) (o:=.cells #[.bool false,.slice none 0 0,.slice none 0 0] 25 (0,0)) (by (with_reducible repeat (first | refine zbz ?_ _ | refine zbA ?_ | refine zby ?_ _)); refine zbT ?_ NB141_151.out _; (with_reducible repeat (first | refine zbz ?_ _ | refine zbA ?_ | refine zby ?_ _)); refine zbT ?_ NB141_151.out _; (with_reducible repeat (first | refine zbz ?_ _ | refine zbA ?_ | refine zby ?_ _)); refine zbT ?_ NB141_151.out _; (with_reducible repeat (first | refine zbz ?_ _ | refine zbA ?_ | refine zby ?_ _)); exact BK141.out) hb); have n5_:=Aside0.mk (zbC (g:=gb149) (o:=.cells #[.bool x150000_1,u150001,u150002] 25 (0,0)) (by (with_reducible repeat (first | refine zbz ?_ _ | refine zbA ?_ | refine zby ?_ _)); refine zbT ?_ NB149_151.out _; (with_reducible repeat (first | refine zbz ?_ _ | refine zbA ?_ | refine zby ?_ _)); refine zbT ?_ NB149_151.out _; (with_reducible repeat (first | refine zbz ?_ _ | refine zbA ?_ | refine zby ?_ _)); refine zbT ?_ NB149_151.out _; (with_reducible repeat (first | refine zbz ?_ _ | refine zbA ?_ | refine zby ?_ _)); exact BK149.out) hb); have n6_:=Aside0.mk (zbC (g:=gb151) (o:=.cells #[.bool ((rd_T25 l0 x9_1).f0),.slice A150_1 ((rd_T25 l0 x9_1).f1).length c150_1,.slice A150_2 ((rd_T25 l0 x9_1).f2).length c150_2] 25 (0,0)) (by (with_reducible repeat (first | refine zbz ?_ _ | refine zbA ?_ | refine zby ?_ _)); refine zbN (cs:=#[.bool ((rd_T25 l0 x9_1).f0),.slice A150_1 ((rd_T25 l0 x9_1).f1).length c150_1,.slice none 0 0]) ?_ 2 _ rfl; (with_reducible repeat (first | refine zbz ?_ _ | refine zbA ?_ | refine zby ?_ _)); refine zbN (cs:=#[.bool ((rd_T25 l0 x9_1).f0),.slice none 0 0,.slice none 0 0]) ?_ 1 _ rfl; (with_reducible repeat (first | refine zbz ?_ _ | refine zbA ?_ | refine zby ?_ _)); refine zbN (cs:=#[.bool false,.slice none 0 0,.slice none 0 0]) ?_ 0 _ rfl; (with_reducible repeat (first | refine zbz ?_ _ | refine zbA ?_ | refine zby ?_ _)); exact BK151.out) hb); have n7_:=Aside0.mk (zbx (by repeat (first | (with_reducible first | exact HB.out | apply zbt | apply zbs | apply zbu | refine zbw ?_ GE141.out | refine zbw ?_ GE149.out | refine zbw ?_ GE151.out) | exact HB.out)) hb); clear HO_150001; clear HO_150002; clear BK141; clear BK149; clear BK151; clear HB; have HO_150001:=n0_; have HO_150002:=n1_; have HO155:=n2_; have HO158:=n3_; have BK141:=n4_; have BK149:=n5_; have BK151:=n6_; have HB:=n7_; clear n0_ n1_ n2_ n3_ n4_ n5_ n6_ n7_; (try clear hb); (try clear hb2); (try clear hk); (try clear hi); (try clear ho0); (try clear ho1); have hcz22_0:w21.cell? ⟨gb151,0,none⟩=some (.bool ((rd_T25 l0 x9_1).f0)):=(zbv BK151.out 0).trans rfl; have hcz22_1:w21.cell? ⟨gb151,1,none⟩=some (.slice A150_1 ((rd_T25 l0 x9_1).f1).length c150_1):=(zbv BK151.out 1).trans rfl; have hcz22_2:w21.cell? ⟨gb151,2,none⟩=some (.slice A150_2 ((rd_T25 l0 x9_1).f2).length c150_2):=(zbv BK151.out 2).trans rfl; have hfz22_0:=zbB BK151.out 0; have hfz22_1:=zbB BK151.out 1; have hfz22_2:=zbB BK151.out 2; obtain⟨Ao23,co23,eo23⟩:=Kd.R_slice HO155.out; subst eo23; obtain⟨Ao24,co24,eo24⟩:=Kd.R_slice HO158.out; subst eo24))
      have n0_:Aside0 (Kd.R (Kd.int .u32) 63 (((w21.setCell ⟨gb151,0,none⟩ (.bool t152)).setCell ⟨gb151,1,none⟩ (.slice Ao23 t153.length co23)).setCell ⟨gb151,2,none⟩ (.slice Ao24 t156.length co24)) w.heap.size (fun k_=>some k_≠(u150002:Value).ownBlock∧some k_≠(.slice Ao23 t153.length co23:Value).ownBlock∧some k_≠(.slice Ao24 t156.length co24:Value).ownBlock) u150001 x150001_1):=⟨by (with_reducible repeat (first | apply Kd.R_alloc | apply Kd.R_drewN | apply Kd.R_drew)); exact Kd.R_mono (Kd.R_far (p:=⟨gb151,2,none⟩) (Kd.R_far (p:=⟨gb151,1,none⟩) (Kd.R_far (p:=⟨gb151,0,none⟩) (Kd.R_types HO_150001.out BK151.out (by decide)) (fun _ hk=>hk.2) (.bool t152)) (fun _ hk=>hk.2) (.slice Ao23 t153.length co23)) (fun _ hk=>hk.2) (.slice Ao24 t156.length co24)) (fun _ hk=>⟨hk.1.1.1,⟨hk.1.1.2,hk.1.2⟩⟩)⟩
      have n1_:Aside0 (Kd.R (Kd.int .u32) 63 (((w21.setCell ⟨gb151,0,none⟩ (.bool t152)).setCell ⟨gb151,1,none⟩ (.slice Ao23 t153.length co23)).setCell ⟨gb151,2,none⟩ (.slice Ao24 t156.length co24)) w.heap.size (fun k_=>some k_≠(u150001:Value).ownBlock∧some k_≠(.slice Ao23 t153.length co23:Value).ownBlock∧some k_≠(.slice Ao24 t156.length co24:Value).ownBlock) u150002 x150002_1):=⟨by (with_reducible repeat (first | apply Kd.R_alloc | apply Kd.R_drewN | apply Kd.R_drew)); exact Kd.R_mono (Kd.R_far (p:=⟨gb151,2,none⟩) (Kd.R_far (p:=⟨gb151,1,none⟩) (Kd.R_far (p:=⟨gb151,0,none⟩) (Kd.R_types HO_150002.out BK151.out (by decide)) (fun _ hk=>hk.2) (.bool t152)) (fun _ hk=>hk.2) (.slice Ao23 t153.length co23)) (fun _ hk=>hk.2) (.slice Ao24 t156.length co24)) (fun _ hk=>⟨hk.1.1.1,⟨hk.1.1.2,hk.1.2⟩⟩)⟩
      have n2_:Aside0 (Kd.R (Kd.int .u32) 63 (((w21.setCell ⟨gb151,0,none⟩ (.bool t152)).setCell ⟨gb151,1,none⟩ (.slice Ao23 t153.length co23)).setCell ⟨gb151,2,none⟩ (.slice Ao24 t156.length co24)) w.heap.size (fun k_=>some k_≠(u150001:Value).ownBlock∧some k_≠(u150002:Value).ownBlock∧some k_≠(.slice Ao24 t156.length co24:Value).ownBlock) (.slice Ao23 t153.length co23) t153):=⟨by (with_reducible repeat (first | apply Kd.R_alloc | apply Kd.R_drewN | apply Kd.R_drew)); exact Kd.R_mono (Kd.R_far (p:=⟨gb151,2,none⟩) (Kd.R_far (p:=⟨gb151,1,none⟩) (Kd.R_far (p:=⟨gb151,0,none⟩) (Kd.R_types HO155.out BK151.out (by decide)) (fun _ hk=>hk.2) (.bool t152)) (fun _ hk=>hk.2) (.slice Ao23 t153.length co23)) (fun _ hk=>hk.2) (.slice Ao24 t156.length co24)) (fun _ hk=>⟨hk.1.1.2,⟨hk.1.2,hk.1.1.1⟩⟩)⟩
      have n3_:Aside0 (Kd.R (Kd.int .u32) 63 (((w21.setCell ⟨gb151,0,none⟩ (.bool t152)).setCell ⟨gb151,1,none⟩ (.slice Ao23 t153.length co23)).setCell ⟨gb151,2,none⟩ (.slice Ao24 t156.length co24)) w.heap.size (fun k_=>some k_≠(u150001:Value).ownBlock∧some k_≠(u150002:Value).ownBlock∧some k_≠(.slice Ao23 t153.length co23:Value).ownBlock) (.slice Ao24 t156.length co24) t156):=⟨by (with_reducible repeat (first | apply Kd.R_alloc | apply Kd.R_drewN | apply Kd.R_drew)); exact Kd.R_mono (Kd.R_far (p:=⟨gb151,2,none⟩) (Kd.R_far (p:=⟨gb151,1,none⟩) (Kd.R_far (p:=⟨gb151,0,none⟩) (Kd.R_types HO158.out BK151.out (by decide)) (fun _ hk=>hk.2) (.bool t152)) (fun _ hk=>hk.2) (.slice Ao23 t153.length co23)) (fun _ hk=>hk.2) (.slice Ao24 t156.length co24)) (fun _ hk=>⟨hk.1.1.2,⟨hk.1.2,hk.1.1.1⟩⟩)⟩
      have n4_:Aside0 ((((w21.setCell ⟨gb151,0,none⟩ (.bool t152)).setCell ⟨gb151,1,none⟩ (.slice Ao23 t153.length co23)).setCell ⟨gb151,2,none⟩ (.slice Ao24 t156.length co24)).heap[gb141]? = some (.cells #[.bool false,.slice none 0 0,.slice none 0 0] 25 (0,0))):=⟨by (with_reducible repeat (first | refine zbz ?_ _ | refine zbA ?_ | refine zby ?_ _)); refine zbT ?_ NB141_151.out _; (with_reducible repeat (first | refine zbz ?_ _ | refine zbA ?_ | refine zby ?_ _)); refine zbT ?_ NB141_151.out _; (with_reducible repeat (first | refine zbz ?_ _ | refine zbA ?_ | refine zby ?_ _)); refine zbT ?_ NB141_151.out _; (with_reducible repeat (first | refine zbz ?_ _ | refine zbA ?_ | refine zby ?_ _)); exact BK141.out⟩
      have n5_:Aside0 ((((w21.setCell ⟨gb151,0,none⟩ (.bool t152)).setCell ⟨gb151,1,none⟩ (.slice Ao23 t153.length co23)).setCell ⟨gb151,2,none⟩ (.slice Ao24 t156.length co24)).heap[gb149]? = some (.cells #[.bool x150000_1,u150001,u150002] 25 (0,0))):=⟨by (with_reducible repeat (first | refine zbz ?_ _ | refine zbA ?_ | refine zby ?_ _)); refine zbT ?_ NB149_151.out _; (with_reducible repeat (first | refine zbz ?_ _ | refine zbA ?_ | refine zby ?_ _)); refine zbT ?_ NB149_151.out _; (with_reducible repeat (first | refine zbz ?_ _ | refine zbA ?_ | refine zby ?_ _)); refine zbT ?_ NB149_151.out _; (with_reducible repeat (first | refine zbz ?_ _ | refine zbA ?_ | refine zby ?_ _)); exact BK149.out⟩
      have n6_:Aside0 ((((w21.setCell ⟨gb151,0,none⟩ (.bool t152)).setCell ⟨gb151,1,none⟩ (.slice Ao23 t153.length co23)).setCell ⟨gb151,2,none⟩ (.slice Ao24 t156.length co24)).heap[gb151]? = some (.cells #[.bool t152,.slice Ao23 t153.length co23,.slice Ao24 t156.length co24] 25 (0,0))):=⟨by (with_reducible repeat (first | refine zbz ?_ _ | refine zbA ?_ | refine zby ?_ _)); refine zbN (cs:=#[.bool t152,.slice Ao23 t153.length co23,.slice A150_2 ((rd_T25 l0 x9_1).f2).length c150_2]) ?_ 2 _ rfl; (with_reducible repeat (first | refine zbz ?_ _ | refine zbA ?_ | refine zby ?_ _)); refine zbN (cs:=#[.bool t152,.slice A150_1 ((rd_T25 l0 x9_1).f1).length c150_1,.slice A150_2 ((rd_T25 l0 x9_1).f2).length c150_2]) ?_ 1 _ rfl; (with_reducible repeat (first | refine zbz ?_ _ | refine zbA ?_ | refine zby ?_ _)); refine zbN (cs:=#[.bool ((rd_T25 l0 x9_1).f0),.slice A150_1 ((rd_T25 l0 x9_1).f1).length c150_1,.slice A150_2 ((rd_T25 l0 x9_1).f2).length c150_2]) ?_ 0 _ rfl; (with_reducible repeat (first | refine zbz ?_ _ | refine zbA ?_ | refine zby ?_ _)); exact BK151.out⟩
      have n7_:Aside0 (Below w.heap.size w (((w21.setCell ⟨gb151,0,none⟩ (.bool t152)).setCell ⟨gb151,1,none⟩ (.slice Ao23 t153.length co23)).setCell ⟨gb151,2,none⟩ (.slice Ao24 t156.length co24))):=⟨by repeat (first | (with_reducible first | exact HB.out | apply zbt | apply zbs | apply zbu | refine zbw ?_ GE141.out | refine zbw ?_ GE149.out | refine zbw ?_ GE151.out) | exact HB.out)⟩
      (try clear HO_150001)
      (try clear HO_150002)
      (try clear HO155)
      (try clear HO158)
      (try clear BK141)
      (try clear BK149)
      (try clear BK151)
      (try clear HB)
      generalize (((w21.setCell ⟨gb151,0,none⟩ (.bool t152)).setCell ⟨gb151,1,none⟩ (.slice Ao23 t153.length co23)).setCell ⟨gb151,2,none⟩ (.slice Ao24 t156.length co24))=w25 at n0_ n1_ n2_ n3_ n4_ n5_ n6_ n7_ ⊢
      have HO_150001:=n0_
      have HO_150002:=n1_
      have HO155:=n2_
      have HO158:=n3_
      have BK141:=n4_
      have BK149:=n5_
      have BK151:=n6_
      have HB:=n7_
      clear n0_ n1_ n2_ n3_ n4_ n5_ n6_ n7_
      have n0_:=Aside0.mk (Kd.R_drew HO_150001.out)
      have n1_:=Aside0.mk (Kd.R_drew HO_150002.out)
      have n2_:=Aside0.mk (Kd.R_drew HO155.out)
      have n3_:=Aside0.mk (Kd.R_drew HO158.out)
      have n4_:=Aside0.mk (zbA BK141.out)
      have n5_:=Aside0.mk (zbA BK149.out)
      have n6_:=Aside0.mk (zbA BK151.out)
      have n7_:=Aside0.mk (zbu HB.out)
      clear HO_150001
      clear HO_150002
      clear HO155
      clear HO158
      clear BK141
      clear BK149
      clear BK151
      clear HB
      have HO_150001:=n0_
      have HO_150002:=n1_
      have HO155:=n2_
      have HO158:=n3_
      have BK141:=n4_
      have BK149:=n5_
      have BK151:=n6_
      have HB:=n7_
      clear n0_ n1_ n2_ n3_ n4_ n5_ n6_ n7_
      obtain⟨Ao27,co27,eo27⟩:=Kd.R_slice HO_150001.out
      (first | subst eo27 | (injection eo27 with f1_ f2_ f3_; have f4_:=f1_.symm; have f5_:=f3_.symm; clear f1_ f2_ f3_; subst f4_; subst f5_))
      refine zcM (n:=20) (S:=fun w'=>w'.cell? ⟨gb149,0,none⟩=some (.bool x150000_1)∧w'.cell? ⟨gb149,1,none⟩=some (.slice Ao27 x150001_1.length co27)∧w'.cell? ⟨gb149,2,none⟩=some (u150002)∧w'.cell? ⟨gb151,0,none⟩=some (.bool t152)∧w'.cell? ⟨gb151,1,none⟩=some (.slice Ao23 t153.length co23)∧w'.cell? ⟨gb151,2,none⟩=some (.slice Ao24 t156.length co24)) (ds:=[19]) #[zf,zf,zf,zf,zf,zf,zf,zf,zf,zf,zf,zf,zf,zf,zf,zf,zf,zf,zf,zf] (by kernel_rfl) rfl rfl ⟨(zbv BK149.out 0).trans rfl,(zbv BK149.out 1).trans rfl,(zbv BK149.out 2).trans rfl,(zbv BK151.out 0).trans rfl,(zbv BK151.out 1).trans rfl,(zbv BK151.out 2).trans rfl⟩ (fun hHeld=>?_); refine zcA rat_product.tab6 rat_product.bits6 (fun HT_ HW_=>?_)
      generalize w25.drew=w26 at HO_150001 HO_150002 HO155 HO158 BK141 BK149 BK151 HB hHeld ⊢
      refine zbS (i:=0) (N:=some 16) (v:=?_) (a':=?_) #[zt,zf,zf,zf,zf,zf,zf,zf,zf,zf,zf,zf,zf,zf,zf,zf,zf,zf,zf,zf] rfl rfl (zbP HT_.out (by kernel_rfl)) (fun _ _ _ h=>h) (Or.inl ⟨by rfl,?_⟩) ?_ ?_
      rotate_left
      ·
       intro w'
       go_simp
       with_reducible rfl
      rotate_left
      ·
       simp only [Act.put,zA1,zA2,zA3,zbI,zbJ]
       rfl
      refine zbS (i:=2) (N:=some 18) (v:=?_) (a':=?_) #[zt,zf,zt,zf,zf,zf,zf,zf,zf,zf,zf,zf,zf,zf,zf,zf,zf,zf,zf,zf] rfl rfl (zbP HT_.out (by kernel_rfl)) (fun _ _ _ h=>h) (Or.inl ⟨by rfl,?_⟩) ?_ ?_
      rotate_left
      ·
       intro w'
       go_simp
       with_reducible rfl
      rotate_left
      ·
       simp only [Act.put,zA1,zA2,zA3,zbI,zbJ]
       rfl
      refine zbS (i:=5) (N:=some 21) (v:=?_) (a':=?_) #[zt,zf,zt,zf,zf,zt,zf,zf,zf,zf,zf,zf,zf,zf,zf,zf,zf,zf,zf,zf] rfl rfl (zbP HT_.out (by kernel_rfl)) (fun _ _ _ h=>h) (Or.inl ⟨by rfl,?_⟩) ?_ ?_
      rotate_left
      ·
       intro w'
       go_simp
       with_reducible rfl
      rotate_left
      ·
       simp only [Act.put,zA1,zA2,zA3,zbI,zbJ]
       rfl
      refine zbS (i:=7) (N:=some 23) (v:=?_) (a':=?_) #[zt,zf,zt,zf,zf,zt,zf,zt,zf,zf,zf,zf,zf,zf,zf,zf,zf,zf,zf,zf] rfl rfl (zbP HT_.out (by kernel_rfl)) (fun _ _ _ h=>h) (Or.inl ⟨by rfl,?_⟩) ?_ ?_
      rotate_left
      ·
       intro w'
       go_simp
       with_reducible rfl
      rotate_left
      ·
       simp only [Act.put,zA1,zA2,zA3,zbI,zbJ]
       rfl
      refine zbS (i:=10) (N:=some 26) (v:=?_) (a':=?_) #[zt,zf,zt,zf,zf,zt,zf,zt,zf,zf,zt,zf,zf,zf,zf,zf,zf,zf,zf,zf] rfl rfl (zbP HT_.out (by kernel_rfl)) (fun _ _ _ h=>h) (Or.inl ⟨by rfl,?_⟩) ?_ ?_
      rotate_left
      ·
       intro w'
       go_simp
       with_reducible rfl
      rotate_left
      ·
       simp only [Act.put,zA1,zA2,zA3,zbI,zbJ]
       rfl
      refine zbS (i:=12) (N:=some 28) (v:=?_) (a':=?_) #[zt,zf,zt,zf,zf,zt,zf,zt,zf,zf,zt,zf,zt,zf,zf,zf,zf,zf,zf,zf] rfl rfl (zbP HT_.out (by kernel_rfl)) (fun _ _ _ h=>h) (Or.inl ⟨by rfl,?_⟩) ?_ ?_
      rotate_left
      ·
       intro w'
       go_simp
       with_reducible rfl
      rotate_left
      ·
       simp only [Act.put,zA1,zA2,zA3,zbI,zbJ]
       rfl
      refine take_ (i:=1) (N:=some 17) (v:=?_) (a':=?_) #[zt,zt,zt,zf,zf,zt,zf,zt,zf,zf,zt,zf,zt,zf,zf,zf,zf,zf,zf,zf] rfl rfl (zbY HT_.out HW_.out (by kernel_rfl)) (fun _ _ _ h=>h) (Or.inl ⟨by rfl,?_⟩) hHeld ?_ ?_
      rotate_left
      ·
       rintro w' ⟨s0,s1,s2,s3,s4,s5⟩
       go_simp
       with_reducible rfl
      rotate_left
      ·
       simp only [Act.put,zA1,zA2,zA3,zbI,zbJ]
       rfl
      refine take_ (i:=3) (N:=some 19) (v:=?_) (a':=?_) #[zt,zt,zt,zt,zf,zt,zf,zt,zf,zf,zt,zf,zt,zf,zf,zf,zf,zf,zf,zf] rfl rfl (zbY HT_.out HW_.out (by kernel_rfl)) (fun _ _ _ h=>h) (Or.inl ⟨by rfl,?_⟩) hHeld ?_ ?_
      rotate_left
      ·
       rintro w' ⟨s0,s1,s2,s3,s4,s5⟩
       go_simp
       with_reducible rfl
      rotate_left
      ·
       simp only [Act.put,zA1,zA2,zA3,zbI,zbJ]
       rfl
      refine zbS (i:=4) (N:=some 20) (v:=?_) (a':=?_) #[zt,zt,zt,zt,zt,zt,zf,zt,zf,zf,zt,zf,zt,zf,zf,zf,zf,zf,zf,zf] rfl rfl (zbP HT_.out (by kernel_rfl)) (fun _ _ _ h=>h) (Or.inl ⟨by rfl,?_⟩) ?_ ?_
      rotate_left
      ·
       intro w'
       go_simp
       with_reducible rfl
      rotate_left
      ·
       simp only [Act.put,zA1,zA2,zA3,zbI,zbJ]
       rfl
      refine take_ (i:=6) (N:=some 22) (v:=?_) (a':=?_) #[zt,zt,zt,zt,zt,zt,zt,zt,zf,zf,zt,zf,zt,zf,zf,zf,zf,zf,zf,zf] rfl rfl (zbY HT_.out HW_.out (by kernel_rfl)) (fun _ _ _ h=>h) (Or.inl ⟨by rfl,?_⟩) hHeld ?_ ?_
      rotate_left
      ·
       rintro w' ⟨s0,s1,s2,s3,s4,s5⟩
       go_simp
       with_reducible rfl
      rotate_left
      ·
       simp only [Act.put,zA1,zA2,zA3,zbI,zbJ]
       rfl
      refine take_ (i:=8) (N:=some 24) (v:=?_) (a':=?_) #[zt,zt,zt,zt,zt,zt,zt,zt,zt,zf,zt,zf,zt,zf,zf,zf,zf,zf,zf,zf] rfl rfl (zbY HT_.out HW_.out (by kernel_rfl)) (fun _ _ _ h=>h) (Or.inl ⟨by rfl,?_⟩) hHeld ?_ ?_
      rotate_left
      ·
       rintro w' ⟨s0,s1,s2,s3,s4,s5⟩
       go_simp
       with_reducible rfl
      rotate_left
      ·
       simp only [Act.put,zA1,zA2,zA3,zbI,zbJ]
       rfl
      refine take_ (i:=11) (N:=some 27) (v:=?_) (a':=?_) #[zt,zt,zt,zt,zt,zt,zt,zt,zt,zf,zt,zt,zt,zf,zf,zf,zf,zf,zf,zf] rfl rfl (zbY HT_.out HW_.out (by kernel_rfl)) (fun _ _ _ h=>h) (Or.inl ⟨by rfl,?_⟩) hHeld ?_ ?_
      rotate_left
      ·
       rintro w' ⟨s0,s1,s2,s3,s4,s5⟩
       go_simp
       with_reducible rfl
      rotate_left
      ·
       simp only [Act.put,zA1,zA2,zA3,zbI,zbJ]
       rfl
      refine take_ (i:=13) (N:=some 29) (v:=?_) (a':=?_) #[zt,zt,zt,zt,zt,zt,zt,zt,zt,zf,zt,zt,zt,zt,zf,zf,zf,zf,zf,zf] rfl rfl (zbY HT_.out HW_.out (by kernel_rfl)) (fun _ _ _ h=>h) (Or.inl ⟨by rfl,?_⟩) hHeld ?_ ?_
      rotate_left
      ·
       rintro w' ⟨s0,s1,s2,s3,s4,s5⟩
       go_simp
       with_reducible rfl
      rotate_left
      ·
       simp only [Act.put,zA1,zA2,zA3,zbI,zbJ]
       rfl
      refine zct (i:=9) (N:=some 25) #[zt,zt,zt,zt,zt,zt,zt,zt,zt,zt,zt,zt,zt,zt,zf,zf,zf,zf,zf,zf] rfl rfl (zbZ HT_.out (by kernel_rfl)) (by decide) (fun K hK=>?_)
      refine zb8 Try.func103 (by kernel_rfl) rfl #[.slice Ao27 x150001_1.length co27,.slice Ao23 t153.length co23] (by rfl) rfl rfl (by (try simp only [List.map_toArray,List.map_cons,List.map_nil]); first | done | rfl | (simp only [List.length_drop,List.length_take]; rfl)) ?_
      with_reducible refine(nat_Mul.calls k1 _ _ x150001_1 _ _ t153 t159 _ ?side1 ?side2 ?side3 ?side4 A14.out).mono ?_
      (case side1=>repeat (first | exact(Kd.R_reads' HO_150001.out).2.2 | (with_reducible refine Kd.C_alloc ?_ _) | (with_reducible refine Kd.C_drewN ?_ _) | (with_reducible refine Kd.C_drew ?_)))
      (case side2=>exact(Kd.R_reads' HO_150001.out).2.1)
      (case side3=>repeat (first | exact(Kd.R_reads' HO155.out).2.2 | (with_reducible refine Kd.C_alloc ?_ _) | (with_reducible refine Kd.C_drewN ?_ _) | (with_reducible refine Kd.C_drew ?_)))
      (case side4=>exact(Kd.R_reads' HO155.out).2.1)
      rintro e w28 ⟨v160,rfl,ho0,hb⟩
      refine⟨_,rfl,?_⟩
      have n0_:=Aside0.mk (Kd.R_elder' (by (with_reducible repeat (first | apply Kd.R_alloc | apply Kd.R_drewN | apply Kd.R_drew)); exact HO_150001.out) (Kd.R_base ho0) hb)
      have n1_:=Aside0.mk (Kd.R_elder' (by (with_reducible repeat (first | apply Kd.R_alloc | apply Kd.R_drewN | apply Kd.R_drew)); exact HO_150002.out) (Kd.R_base ho0) hb)
      have n2_:=Aside0.mk (Kd.R_elder' (by (with_reducible repeat (first | apply Kd.R_alloc | apply Kd.R_drewN | apply Kd.R_drew)); exact HO155.out) (Kd.R_base ho0) hb)
      have n3_:=Aside0.mk (Kd.R_elder' (by (with_reducible repeat (first | apply Kd.R_alloc | apply Kd.R_drewN | apply Kd.R_drew)); exact HO158.out) (Kd.R_base ho0) hb)
      have n4_:=Aside0.mk (Kd.R_lower (Kd.R_new' (Kd.R_new' (Kd.R_new' (Kd.R_new' ho0 (Kd.R_lt (by (with_reducible repeat (first | apply Kd.R_alloc | apply Kd.R_drewN | apply Kd.R_drew)); exact HO_150001.out))) (Kd.R_lt (by (with_reducible repeat (first | apply Kd.R_alloc | apply Kd.R_drewN | apply Kd.R_drew)); exact HO_150002.out))) (Kd.R_lt (by (with_reducible repeat (first | apply Kd.R_alloc | apply Kd.R_drewN | apply Kd.R_drew)); exact HO155.out))) (Kd.R_lt (by (with_reducible repeat (first | apply Kd.R_alloc | apply Kd.R_drewN | apply Kd.R_drew)); exact HO158.out))) (zbD (by repeat (first | (with_reducible first | exact HB.out | apply zbt | apply zbs | apply zbu | refine zbw ?_ GE141.out | refine zbw ?_ GE149.out | refine zbw ?_ GE151.out) | exact HB.out))))
      have n5_:=Aside0.mk (zbC (g:=gb141) (o:=.cells #[.bool false,.slice none 0 0,.slice none 0 0] 25 (0,0)) (by (with_reducible repeat (first | refine zbz ?_ _ | refine zbA ?_ | refine zby ?_ _)); exact BK141.out) hb)
      have n6_:=Aside0.mk (zbC (g:=gb149) (o:=.cells #[.bool x150000_1,.slice Ao27 x150001_1.length co27,u150002] 25 (0,0)) (by (with_reducible repeat (first | refine zbz ?_ _ | refine zbA ?_ | refine zby ?_ _)); exact BK149.out) hb)
      have n7_:=Aside0.mk (zbC (g:=gb151) (o:=.cells #[.bool t152,.slice Ao23 t153.length co23,.slice Ao24 t156.length co24] 25 (0,0)) (by (with_reducible repeat (first | refine zbz ?_ _ | refine zbA ?_ | refine zby ?_ _)); exact BK151.out) hb)
      have n8_:=Aside0.mk (zbx (by repeat (first | (with_reducible first | exact HB.out | apply zbt | apply zbs | apply zbu | refine zbw ?_ GE141.out | refine zbw ?_ GE149.out | refine zbw ?_ GE151.out) | exact HB.out)) hb)
      clear HO_150001
      clear HO_150002
      clear HO155
      clear HO158
      clear BK141
      clear BK149
      clear BK151
      clear HB
      have HO_150001:=n0_
      have HO_150002:=n1_
      have HO155:=n2_
      have HO158:=n3_
      have HO161:=n4_
      have BK141:=n5_
      have BK149:=n6_
      have BK151:=n7_
      have HB:=n8_
      clear n0_ n1_ n2_ n3_ n4_ n5_ n6_ n7_ n8_
      (try clear hb)
      (try clear hb2)
      (try clear hk)
      (try clear hi)
      (try clear ho0)
      obtain⟨Ao29,co29,eo29⟩:=Kd.R_slice HO_150002.out
      (first | subst eo29 | (injection eo29 with f1_ f2_ f3_; have f4_:=f1_.symm; have f5_:=f3_.symm; clear f1_ f2_ f3_; subst f4_; subst f5_))
      refine hK.out _ _ ⟨(zbv BK149.out 0).trans rfl,(zbv BK149.out 1).trans rfl,(zbv BK149.out 2).trans rfl,(zbv BK151.out 0).trans rfl,(zbv BK151.out 1).trans rfl,(zbv BK151.out 2).trans rfl⟩ (fun hHeld=>?_)
      clear hK K
      refine zbR (a':=?_) ?_ ?_
      rotate_left
      ·
       show Act.put _ (some 25) _=_
       simp only [Act.put,zA1,zA2,zA3,zbI,zbJ]
       rfl
      refine zct (i:=14) (N:=some 30) #[zt,zt,zt,zt,zt,zt,zt,zt,zt,zt,zt,zt,zt,zt,zt,zf,zf,zf,zf,zf] rfl rfl (zbZ HT_.out (by kernel_rfl)) (by decide) (fun K hK=>?_)
      refine zb8 Try.func103 (by kernel_rfl) rfl #[.slice Ao29 x150002_1.length co29,.slice Ao24 t156.length co24] (by rfl) rfl rfl (by (try simp only [List.map_toArray,List.map_cons,List.map_nil]); first | done | rfl | (simp only [List.length_drop,List.length_take]; rfl)) ?_
      with_reducible refine(nat_Mul.calls k1 _ _ x150002_1 _ _ t156 t162 _ ?side1 ?side2 ?side3 ?side4 A15.out).mono ?_
      (case side1=>repeat (first | exact(Kd.R_reads' HO_150002.out).2.2 | (with_reducible refine Kd.C_alloc ?_ _) | (with_reducible refine Kd.C_drewN ?_ _) | (with_reducible refine Kd.C_drew ?_)))
      (case side2=>exact(Kd.R_reads' HO_150002.out).2.1)
      (case side3=>repeat (first | exact(Kd.R_reads' HO158.out).2.2 | (with_reducible refine Kd.C_alloc ?_ _) | (with_reducible refine Kd.C_drewN ?_ _) | (with_reducible refine Kd.C_drew ?_)))
      (case side4=>exact(Kd.R_reads' HO158.out).2.1)
      rintro e w30 ⟨v163,rfl,ho0,hb⟩
      refine⟨_,rfl,?_⟩
      have n0_:=Aside0.mk (Kd.R_elder' (by (with_reducible repeat (first | apply Kd.R_alloc | apply Kd.R_drewN | apply Kd.R_drew)); exact HO_150001.out) (Kd.R_base ho0) hb)
      have n1_:=Aside0.mk (Kd.R_elder' (by (with_reducible repeat (first | apply Kd.R_alloc | apply Kd.R_drewN | apply Kd.R_drew)); exact HO_150002.out) (Kd.R_base ho0) hb)
      have n2_:=Aside0.mk (Kd.R_elder' (by (with_reducible repeat (first | apply Kd.R_alloc | apply Kd.R_drewN | apply Kd.R_drew)); exact HO155.out) (Kd.R_base ho0) hb)
      have n3_:=Aside0.mk (Kd.R_elder' (by (with_reducible repeat (first | apply Kd.R_alloc | apply Kd.R_drewN | apply Kd.R_drew)); exact HO158.out) (Kd.R_base ho0) hb)
      have n4_:=Aside0.mk (Kd.R_elder' (by (with_reducible repeat (first | apply Kd.R_alloc | apply Kd.R_drewN | apply Kd.R_drew)); exact HO161.out) (Kd.R_base ho0) hb)
      have n5_:=Aside0.mk (Kd.R_lower (Kd.R_new' (Kd.R_new' (Kd.R_new' (Kd.R_new' (Kd.R_new' ho0 (Kd.R_lt (by (with_reducible repeat (first | apply Kd.R_alloc | apply Kd.R_drewN | apply Kd.R_drew)); exact HO_150001.out))) (Kd.R_lt (by (with_reducible repeat (first | apply Kd.R_alloc | apply Kd.R_drewN | apply Kd.R_drew)); exact HO_150002.out))) (Kd.R_lt (by (with_reducible repeat (first | apply Kd.R_alloc | apply Kd.R_drewN | apply Kd.R_drew)); exact HO155.out))) (Kd.R_lt (by (with_reducible repeat (first | apply Kd.R_alloc | apply Kd.R_drewN | apply Kd.R_drew)); exact HO158.out))) (Kd.R_lt (by (with_reducible repeat (first | apply Kd.R_alloc | apply Kd.R_drewN | apply Kd.R_drew)); exact HO161.out))) (zbD (by repeat (first | (with_reducible first | exact HB.out | apply zbt | apply zbs | apply zbu | refine zbw ?_ GE141.out | refine zbw ?_ GE149.out | refine zbw ?_ GE151.out) | exact HB.out))))
      have n6_:=Aside0.mk (zbC (g:=gb141) (o:=.cells #[.bool false,.slice none 0 0,.slice none 0 0] 25 (0,0)) (by (with_reducible repeat (first | refine zbz ?_ _ | refine zbA ?_ | refine zby ?_ _)); exact BK141.out) hb)
      have n7_:=Aside0.mk (zbC (g:=gb149) (o:=.cells #[.bool x150000_1,.slice Ao27 x150001_1.length co27,.slice Ao29 x150002_1.length co29] 25 (0,0)) (by (with_reducible repeat (first | refine zbz ?_ _ | refine zbA ?_ | refine zby ?_ _)); exact BK149.out) hb)
      have n8_:=Aside0.mk (zbC (g:=gb151) (o:=.cells #[.bool t152,.slice Ao23 t153.length co23,.slice Ao24 t156.length co24] 25 (0,0)) (by (with_reducible repeat (first | refine zbz ?_ _ | refine zbA ?_ | refine zby ?_ _)); exact BK151.out) hb)
      have n9_:=Aside0.mk (zbx (by repeat (first | (with_reducible first | exact HB.out | apply zbt | apply zbs | apply zbu | refine zbw ?_ GE141.out | refine zbw ?_ GE149.out | refine zbw ?_ GE151.out) | exact HB.out)) hb)
      clear HO_150001
      clear HO_150002
      clear HO155
      clear HO158
      clear HO161
      clear BK141
      clear BK149
      clear BK151
      clear HB
      have HO_150001:=n0_
      have HO_150002:=n1_
      have HO155:=n2_
      have HO158:=n3_
      have HO161:=n4_
      have HO164:=n5_
      have BK141:=n6_
      have BK149:=n7_
      have BK151:=n8_
      have HB:=n9_
      clear n0_ n1_ n2_ n3_ n4_ n5_ n6_ n7_ n8_ n9_
      (try clear hb)
      (try clear hb2)
      (try clear hk)
      (try clear hi)
      (try clear ho0)
      obtain⟨Ao31,co31,eo31⟩:=Kd.R_slice HO161.out
      (first | subst eo31 | (injection eo31 with f1_ f2_ f3_; have f4_:=f1_.symm; have f5_:=f3_.symm; clear f1_ f2_ f3_; subst f4_; subst f5_))
      obtain⟨Ao32,co32,eo32⟩:=Kd.R_slice HO164.out
      (first | subst eo32 | (injection eo32 with f1_ f2_ f3_; have f4_:=f1_.symm; have f5_:=f3_.symm; clear f1_ f2_ f3_; subst f4_; subst f5_))
      refine hK.out _ _ ⟨(zbv BK149.out 0).trans rfl,(zbv BK149.out 1).trans rfl,(zbv BK149.out 2).trans rfl,(zbv BK151.out 0).trans rfl,(zbv BK151.out 1).trans rfl,(zbv BK151.out 2).trans rfl⟩ (fun hHeld=>?_)
      clear hK K
      refine zbR (a':=?_) ?_ ?_
      rotate_left
      ·
       show Act.put _ (some 30) _=_
       simp only [Act.put,zA1,zA2,zA3,zbI,zbJ]
       rfl
      refine zct (i:=15) (N:=some 31) #[zt,zt,zt,zt,zt,zt,zt,zt,zt,zt,zt,zt,zt,zt,zt,zt,zf,zf,zf,zf] rfl rfl (zbZ HT_.out (by kernel_rfl)) (by decide) (fun K hK=>?_)
      refine zb8 Try.func22 (by kernel_rfl) rfl #[.bool (x150000_1 != t152),.slice Ao31 t159.length co31,.slice Ao32 t162.length co32] (by rfl) rfl rfl (by (try simp only [List.map_toArray,List.map_cons,List.map_nil]); first | done | rfl | (simp only [List.length_drop,List.length_take]; rfl)) ?_
      with_reducible refine(rat_Make.calls (x150000_1 != t152) _ _ t159 _ _ t162 t165 t166 t169 t172 _ ?side1 ?side2 ?side3 ?side4 A16.out).mono ?_
      (case side1=>repeat (first | exact(Kd.R_reads' HO161.out).2.2 | (with_reducible refine Kd.C_alloc ?_ _) | (with_reducible refine Kd.C_drewN ?_ _) | (with_reducible refine Kd.C_drew ?_)))
      (case side2=>exact(Kd.R_reads' HO161.out).2.1)
      (case side3=>repeat (first | exact(Kd.R_reads' HO164.out).2.2 | (with_reducible refine Kd.C_alloc ?_ _) | (with_reducible refine Kd.C_drewN ?_ _) | (with_reducible refine Kd.C_drew ?_)))
      (case side4=>exact(Kd.R_reads' HO164.out).2.1)
      rintro e w33 ⟨v167,v170,rfl,ho0,ho1,hb⟩
      refine⟨_,rfl,?_⟩
      have n0_:=Aside0.mk (Kd.R_mono (Kd.R_told (Kd.R_told (Kd.R_old (by (with_reducible repeat (first | apply Kd.R_alloc | apply Kd.R_drewN | apply Kd.R_drew)); exact HO_150001.out) hb) (Kd.R_base ho0)) (Kd.R_base ho1)) (fun _ h_=>h_.1))
      have n1_:=Aside0.mk (Kd.R_mono (Kd.R_told (Kd.R_told (Kd.R_old (by (with_reducible repeat (first | apply Kd.R_alloc | apply Kd.R_drewN | apply Kd.R_drew)); exact HO_150002.out) hb) (Kd.R_base ho0)) (Kd.R_base ho1)) (fun _ h_=>h_.1))
      have n2_:=Aside0.mk (Kd.R_mono (Kd.R_told (Kd.R_told (Kd.R_old (by (with_reducible repeat (first | apply Kd.R_alloc | apply Kd.R_drewN | apply Kd.R_drew)); exact HO155.out) hb) (Kd.R_base ho0)) (Kd.R_base ho1)) (fun _ h_=>h_.1))
      have n3_:=Aside0.mk (Kd.R_mono (Kd.R_told (Kd.R_told (Kd.R_old (by (with_reducible repeat (first | apply Kd.R_alloc | apply Kd.R_drewN | apply Kd.R_drew)); exact HO158.out) hb) (Kd.R_base ho0)) (Kd.R_base ho1)) (fun _ h_=>h_.1))
      have n4_:=Aside0.mk (Kd.R_mono (Kd.R_told (Kd.R_told (Kd.R_old (by (with_reducible repeat (first | apply Kd.R_alloc | apply Kd.R_drewN | apply Kd.R_drew)); exact HO161.out) hb) (Kd.R_base ho0)) (Kd.R_base ho1)) (fun _ h_=>h_.1))
      have n5_:=Aside0.mk (Kd.R_mono (Kd.R_told (Kd.R_told (Kd.R_old (by (with_reducible repeat (first | apply Kd.R_alloc | apply Kd.R_drewN | apply Kd.R_drew)); exact HO164.out) hb) (Kd.R_base ho0)) (Kd.R_base ho1)) (fun _ h_=>h_.1))
      have n6_:=Aside0.mk (Kd.R_lower (Kd.R_new' (Kd.R_new' (Kd.R_new' (Kd.R_new' (Kd.R_new' (Kd.R_new' ho0 (Kd.R_lt (by (with_reducible repeat (first | apply Kd.R_alloc | apply Kd.R_drewN | apply Kd.R_drew)); exact HO_150001.out))) (Kd.R_lt (by (with_reducible repeat (first | apply Kd.R_alloc | apply Kd.R_drewN | apply Kd.R_drew)); exact HO_150002.out))) (Kd.R_lt (by (with_reducible repeat (first | apply Kd.R_alloc | apply Kd.R_drewN | apply Kd.R_drew)); exact HO155.out))) (Kd.R_lt (by (with_reducible repeat (first | apply Kd.R_alloc | apply Kd.R_drewN | apply Kd.R_drew)); exact HO158.out))) (Kd.R_lt (by (with_reducible repeat (first | apply Kd.R_alloc | apply Kd.R_drewN | apply Kd.R_drew)); exact HO161.out))) (Kd.R_lt (by (with_reducible repeat (first | apply Kd.R_alloc | apply Kd.R_drewN | apply Kd.R_drew)); exact HO164.out))) (zbD (by repeat (first | (with_reducible first | exact HB.out | apply zbt | apply zbs | apply zbu | refine zbw ?_ GE141.out | refine zbw ?_ GE149.out | refine zbw ?_ GE151.out) | exact HB.out))))
      have n7_:=Aside0.mk (Kd.R_lower (Kd.R_new' (Kd.R_new' (Kd.R_new' (Kd.R_new' (Kd.R_new' (Kd.R_new' ho1 (Kd.R_lt (by (with_reducible repeat (first | apply Kd.R_alloc | apply Kd.R_drewN | apply Kd.R_drew)); exact HO_150001.out))) (Kd.R_lt (by (with_reducible repeat (first | apply Kd.R_alloc | apply Kd.R_drewN | apply Kd.R_drew)); exact HO_150002.out))) (Kd.R_lt (by (with_reducible repeat (first | apply Kd.R_alloc | apply Kd.R_drewN | apply Kd.R_drew)); exact HO155.out))) (Kd.R_lt (by (with_reducible repeat (first | apply Kd.R_alloc | apply Kd.R_drewN | apply Kd.R_drew)); exact HO158.out))) (Kd.R_lt (by (with_reducible repeat (first | apply Kd.R_alloc | apply Kd.R_drewN | apply Kd.R_drew)); exact HO161.out))) (Kd.R_lt (by (with_reducible repeat (first | apply Kd.R_alloc | apply Kd.R_drewN | apply Kd.R_drew)); exact HO164.out))) (zbD (by repeat (first | (with_reducible first | exact HB.out | apply zbt | apply zbs | apply zbu | refine zbw ?_ GE141.out | refine zbw ?_ GE149.out | refine zbw ?_ GE151.out) | exact HB.out))))
      have n8_:=Aside0.mk (zbC (g:=gb141) (o:=.cells #[.bool false,.slice none 0 0,.slice none 0 0] 25 (0,0)) (by (with_reducible repeat (first | refine zbz ?_ _ | refine zbA ?_ | refine zby ?_ _)); exact BK141.out) hb)
      have n9_:=Aside0.mk (zbC (g:=gb149) (o:=.cells #[.bool x150000_1,.slice Ao27 x150001_1.length co27,.slice Ao29 x150002_1.length co29] 25 (0,0)) (by (with_reducible repeat (first | refine zbz ?_ _ | refine zbA ?_ | refine zby ?_ _)); exact BK149.out) hb)
      have n10_:=Aside0.mk (zbC (g:=gb151) (o:=.cells #[.bool t152,.slice Ao23 t153.length co23,.slice Ao24 t156.length co24] 25 (0,0)) (by (with_reducible repeat (first | refine zbz ?_ _ | refine zbA ?_ | refine zby ?_ _)); exact BK151.out) hb)
      have n11_:=Aside0.mk (zbx (by repeat (first | (with_reducible first | exact HB.out | apply zbt | apply zbs | apply zbu | refine zbw ?_ GE141.out | refine zbw ?_ GE149.out | refine zbw ?_ GE151.out) | exact HB.out)) hb)
      clear HO_150001
      clear HO_150002
      clear HO155
      clear HO158
      clear HO161
      clear HO164
      clear BK141
      clear BK149
      clear BK151
      clear HB
      have HO_150001:=n0_
      have HO_150002:=n1_
      have HO155:=n2_
      have HO158:=n3_
      have HO161:=n4_
      have HO164:=n5_
      have HO168:=n6_
      have HO171:=n7_
      have BK141:=n8_
      have BK149:=n9_
      have BK151:=n10_
      have HB:=n11_
      clear n0_ n1_ n2_ n3_ n4_ n5_ n6_ n7_ n8_ n9_ n10_ n11_
      (try clear hb)
      (try clear hb2)
      (try clear hk)
      (try clear hi)
      (try clear ho0)
      (try clear ho1)
      obtain⟨Ao35,co35,eo35⟩:=Kd.R_slice HO168.out
      (first | subst eo35 | (injection eo35 with f1_ f2_ f3_; have f4_:=f1_.symm; have f5_:=f3_.symm; clear f1_ f2_ f3_; subst f4_; subst f5_))
      obtain⟨Ao37,co37,eo37⟩:=Kd.R_slice HO171.out
      (first | subst eo37 | (injection eo37 with f1_ f2_ f3_; have f4_:=f1_.symm; have f5_:=f3_.symm; clear f1_ f2_ f3_; subst f4_; subst f5_))
      refine hK.out _ _ ⟨(zbv BK149.out 0).trans rfl,(zbv BK149.out 1).trans rfl,(zbv BK149.out 2).trans rfl,(zbv BK151.out 0).trans rfl,(zbv BK151.out 1).trans rfl,(zbv BK151.out 2).trans rfl⟩ (fun hHeld=>?_)
      clear hK K
      refine zbR (a':=?_) ?_ ?_
      rotate_left
      ·
       show Act.put _ (some 31) _=_
       simp only [Act.put,zA1,zA2,zA3,zbI,zbJ]
       rfl
      refine zbS (i:=16) (N:=some 15) (v:=?_) (a':=?_) #[zt,zt,zt,zt,zt,zt,zt,zt,zt,zt,zt,zt,zt,zt,zt,zt,zt,zf,zf,zf] rfl rfl (zbP HT_.out (by kernel_rfl)) (fun _ _ _ h=>h) (Or.inl ⟨by rfl,?_⟩) ?_ ?_
      rotate_left
      ·
       intro w'
       go_simp
       with_reducible rfl
      rotate_left
      ·
       simp only [Act.put,zA1,zA2,zA3,zbI,zbJ]
       rfl
      refine zbS (i:=17) (N:=some 32) (v:=?_) (a':=?_) #[zt,zt,zt,zt,zt,zt,zt,zt,zt,zt,zt,zt,zt,zt,zt,zt,zt,zt,zf,zf] rfl rfl (zbP HT_.out (by kernel_rfl)) (fun _ _ _ h=>h) (Or.inl ⟨by rfl,?_⟩) ?_ ?_
      rotate_left
      ·
       intro w'
       go_simp
       with_reducible rfl
      rotate_left
      ·
       simp only [Act.put,zA1,zA2,zA3,zbI,zbJ]
       rfl
      refine zbS (i:=18) (N:=some 33) (v:=?_) (a':=?_) #[zt,zt,zt,zt,zt,zt,zt,zt,zt,zt,zt,zt,zt,zt,zt,zt,zt,zt,zt,zf] rfl rfl (zbP HT_.out (by kernel_rfl)) (fun _ _ _ h=>h) (Or.inl ⟨by rfl,?_⟩) ?_ ?_
      rotate_left
      ·
       intro w'
       go_simp
       with_reducible rfl
      rotate_left
      ·
       simp only [Act.put,zA1,zA2,zA3,zbI,zbJ]
       rfl
      refine last_ (i:=19) (N:=none) #[zt,zt,zt,zt,zt,zt,zt,zt,zt,zt,zt,zt,zt,zt,zt,zt,zt,zt,zt,zt] rfl rfl (zbZ HT_.out (by kernel_rfl)) (by decide) (fun K hK=>?_)
      have hs34:w33.cell? ⟨gb149,0,none⟩=some (.bool x150000_1):=(zbv BK149.out 0).trans rfl
      have hfs34:=zbB BK149.out 0
      have hns34_0:=NB141_149.out
      have hns34_2:=NB151_149.out
      have hms34_0:=NB149_141.out
      have hms34_2:=NB149_151.out
      have hs36:w33.cell? ⟨gb149,1,none⟩=some (.slice Ao27 x150001_1.length co27):=(zbv BK149.out 1).trans rfl
      have hfs36:=zbB BK149.out 1
      have hns36_0:=NB141_149.out
      have hns36_2:=NB151_149.out
      have hms36_0:=NB149_141.out
      have hms36_2:=NB149_151.out
      have hs38:w33.cell? ⟨gb149,2,none⟩=some (.slice Ao29 x150002_1.length co29):=(zbv BK149.out 2).trans rfl
      have hfs38:=zbB BK149.out 2
      have hns38_0:=NB141_149.out
      have hns38_2:=NB151_149.out
      have hms38_0:=NB149_141.out
      have hms38_2:=NB149_151.out
      refine skip_ (w1:=?_) (by rfl) rfl ?_ ?_
      rotate_left
      ·
       go_simp
       rfl
      refine hK.out _ _ ?_
      clear hK K
      refine done_ (done_of HT_.out (by kernel_rfl)) ?_
      try go_wp2
      go_roundg k1
      case measure=>have:=HK1.out; omega
      case rel=>exact⟨(wrap64 (x9_1+1)),(t165),(t166),(t169),(.slice Ao35 t166.length co35),(.slice Ao37 t169.length co37),(by first | rfl | (simp; done) | (simp [*]; done)),H',⟨by have:=HK1.out; omega⟩,⟨by (with_reducible repeat (first | apply Kd.R_alloc | apply Kd.R_drewN | apply Kd.R_drew)); exact Kd.R_mono (Kd.R_far (p:=⟨gb149,2,none⟩) (Kd.R_far (p:=⟨gb149,1,none⟩) (Kd.R_far (p:=⟨gb149,0,none⟩) (Kd.R_types HO168.out BK149.out (by decide)) (fun _ hk=>hk.2) (.bool t165)) (fun _ hk=>hk.2) (.slice Ao35 t166.length co35)) (fun _ hk=>hk.2) (.slice Ao37 t169.length co37)) (fun _ hk=>hk.1.1.1.1.1.1.1)⟩,⟨by (with_reducible repeat (first | apply Kd.R_alloc | apply Kd.R_drewN | apply Kd.R_drew)); exact Kd.R_mono (Kd.R_far (p:=⟨gb149,2,none⟩) (Kd.R_far (p:=⟨gb149,1,none⟩) (Kd.R_far (p:=⟨gb149,0,none⟩) (Kd.R_types HO171.out BK149.out (by decide)) (fun _ hk=>hk.2) (.bool t165)) (fun _ hk=>hk.2) (.slice Ao35 t166.length co35)) (fun _ hk=>hk.2) (.slice Ao37 t169.length co37)) (fun _ hk=>hk.1.1.1.1.1.1.1)⟩,⟨by (with_reducible repeat (first | refine zbz ?_ _ | refine zbA ?_ | refine zby ?_ _)); refine zbT ?_ NB141_149.out _; (with_reducible repeat (first | refine zbz ?_ _ | refine zbA ?_ | refine zby ?_ _)); refine zbT ?_ NB141_149.out _; (with_reducible repeat (first | refine zbz ?_ _ | refine zbA ?_ | refine zby ?_ _)); refine zbT ?_ NB141_149.out _; (with_reducible repeat (first | refine zbz ?_ _ | refine zbA ?_ | refine zby ?_ _)); exact BK141.out⟩,⟨by (with_reducible repeat (first | refine zbz ?_ _ | refine zbA ?_ | refine zby ?_ _)); refine zbN (cs:=#[.bool t165,.slice Ao35 t166.length co35,.slice Ao29 x150002_1.length co29]) ?_ 2 _ rfl; (with_reducible repeat (first | refine zbz ?_ _ | refine zbA ?_ | refine zby ?_ _)); refine zbN (cs:=#[.bool t165,.slice Ao27 x150001_1.length co27,.slice Ao29 x150002_1.length co29]) ?_ 1 _ rfl; (with_reducible repeat (first | refine zbz ?_ _ | refine zbA ?_ | refine zby ?_ _)); refine zbN (cs:=#[.bool x150000_1,.slice Ao27 x150001_1.length co27,.slice Ao29 x150002_1.length co29]) ?_ 0 _ rfl; (with_reducible repeat (first | refine zbz ?_ _ | refine zbA ?_ | refine zby ?_ _)); exact BK149.out⟩,⟨by repeat (first | (with_reducible first | exact HB.out | apply zbt | apply zbs | apply zbu | refine zbw ?_ GE141.out | refine zbw ?_ GE149.out | refine zbw ?_ GE151.out) | exact HB.out)⟩⟩
     ·
      rw [if_neg c12] at H
      exact absurd H (by simp)
    ·
     rw [if_neg c11] at H
     exact absurd H (by simp)
   ·
    rw [if_neg c10] at H
    have c10b0:decide (x9_1 < (l0.length:Int))=false:=decide_eq_false c10
    clear c10
    simp only [Option.some.injEq,Prod.mk.injEq] at H
    obtain⟨rfl,rfl,rfl⟩:=H
    have hnb39:=NB149_141.out
    have hnc39:=NB141_149.out
    have hcz40_0:wr.cell? ⟨gb149,0,none⟩=some (.bool x150000_1):=(zbv BK149.out 0).trans rfl
    have hcz40_1:wr.cell? ⟨gb149,1,none⟩=some (u150001):=(zbv BK149.out 1).trans rfl
    have hcz40_2:wr.cell? ⟨gb149,2,none⟩=some (u150002):=(zbv BK149.out 2).trans rfl
    have hfz40_0:=zbB BK149.out 0
    have hfz40_1:=zbB BK149.out 1
    have hfz40_2:=zbB BK149.out 2
    have hcz41_0:wr.cell? ⟨gb141,0,none⟩=some (.bool false):=(zbv BK141.out 0).trans rfl
    have hcz41_1:wr.cell? ⟨gb141,1,none⟩=some (.slice none 0 0):=(zbv BK141.out 1).trans rfl
    have hcz41_2:wr.cell? ⟨gb141,2,none⟩=some (.slice none 0 0):=(zbv BK141.out 2).trans rfl
    have hfz41_0:=zbB BK141.out 0
    have hfz41_1:=zbB BK141.out 1
    have hfz41_2:=zbB BK141.out 2
    obtain⟨Ao42,co42,eo42⟩:=Kd.R_slice HO_150001.out
    subst eo42
    obtain⟨Ao43,co43,eo43⟩:=Kd.R_slice HO_150002.out
    subst eo43
    go_wp2
    refine bodyPost_ret (results_cell_row rfl _ _ gb141 25 #[.bool x150000_1,.slice Ao42 x150001_1.length co42,.slice Ao43 x150002_1.length co43] (0,0) _ rfl (by (with_reducible repeat (first | refine zbz ?_ _ | refine zbA ?_ | refine zby ?_ _)); refine zbN (cs:=#[.bool x150000_1,.slice Ao42 x150001_1.length co42,.slice none 0 0]) ?_ 2 _ rfl; (with_reducible repeat (first | refine zbz ?_ _ | refine zbA ?_ | refine zby ?_ _)); refine zbN (cs:=#[.bool x150000_1,.slice none 0 0,.slice none 0 0]) ?_ 1 _ rfl; (with_reducible repeat (first | refine zbz ?_ _ | refine zbA ?_ | refine zby ?_ _)); refine zbN (cs:=#[.bool false,.slice none 0 0,.slice none 0 0]) ?_ 0 _ rfl; (with_reducible repeat (first | refine zbz ?_ _ | refine zbA ?_ | refine zby ?_ _)); exact BK141.out) Try.underlying25 rfl (by kernel_rfl)) rfl ?_
    exact⟨_,_,by first | rfl | (simp [zbG,zbF]<;>rfl) | (simp [*,zbG,zbF]<;>rfl),by (with_reducible repeat (first | apply Kd.R_alloc | apply Kd.R_drewN | apply Kd.R_drew)); exact Kd.R_mono (Kd.R_far (p:=⟨gb141,2,none⟩) (Kd.R_far (p:=⟨gb141,1,none⟩) (Kd.R_far (p:=⟨gb141,0,none⟩) (Kd.R_types HO_150001.out BK141.out (by decide)) (fun _ hk=>hk.2) (.bool x150000_1)) (fun _ hk=>hk.2) (.slice Ao42 x150001_1.length co42)) (fun _ hk=>hk.2) (.slice Ao43 x150002_1.length co43)) (fun _ hk=>hk.1),by (with_reducible repeat (first | apply Kd.R_alloc | apply Kd.R_drewN | apply Kd.R_drew)); exact Kd.R_mono (Kd.R_far (p:=⟨gb141,2,none⟩) (Kd.R_far (p:=⟨gb141,1,none⟩) (Kd.R_far (p:=⟨gb141,0,none⟩) (Kd.R_types HO_150002.out BK141.out (by decide)) (fun _ hk=>hk.2) (.bool x150000_1)) (fun _ hk=>hk.2) (.slice Ao42 x150001_1.length co42)) (fun _ hk=>hk.2) (.slice Ao43 x150002_1.length co43)) (fun _ hk=>hk.1),by repeat (first | (with_reducible first | exact HB.out | apply zbt | apply zbs | apply zbu | refine zbw ?_ GE141.out | refine zbw ?_ GE149.out) | exact HB.out)⟩
def rat_Mul.f (k:Nat) (a0_0:Bool) (l0_1:List Int) (l0_2:List Int) (a1_0:Bool) (l1_1:List Int) (l1_2:List Int):Option (Bool×List Int×List Int):=(rat_product.f k (([(⟨a0_0,l0_1,l0_2⟩:S25),(⟨a1_0,l1_1,l1_2⟩:S25)]:List (S25)))).bind fun bt179=>(some (bt179.1,bt179.2.1,bt179.2.2))
theorem rat_Mul.mono:∀ a0 a1 a2 a3 a4 a5 k,LeO (rat_Mul.f k a0 a1 a2 a3 a4 a5) (rat_Mul.f (k+1) a0 a1 a2 a3 a4 a5):=by
 intro a0 a1 a2 a3 a4 a5 k
 unfold rat_Mul.f
 repeat' first
   | (with_reducible exact rat_product.mono _ _)
   | (with_reducible exact LeO.refl _)
   | (with_reducible exact LeO.none _)
   | (with_reducible refine LeO.ite ?_ ?_)
   | (with_reducible refine LeO.bind ?_ (fun _=>?_))
   | exact rat_product.mono _ _
   | exact LeO.none _
   | refine LeO.ite ?_ ?_
   | refine LeO.bind ?_ (fun _=>?_)
def rat_Neg.f (a0_0:Bool) (l0_1:List Int) (l0_2:List Int):Option (Bool×List Int×List Int):=(rat_Norm.f a0_0 l0_1 l0_2).bind fun bt188=>(if (bt188.2.1.length:Int) > 0 then (some (!bt188.1,bt188.2.1,bt188.2.2)) else (some (false,bt188.2.1,bt188.2.2)))
set_option maxHeartbeats 8000000 in
set_option maxRecDepth 100000 in
theorem rat_Neg.calls (a0_0:Bool) (A0_1:Option Addr) (c0_1:Nat) (l0_1:List Int) (A0_2:Option Addr) (c0_2:Nat) (l0_2:List Int) (r1:Bool) (r2:List Int) (r3:List Int) (w:World) (hr0_1:Kd.C (Kd.int .u32) w A0_1 l0_1.length l0_1) (hc0_1:l0_1.length≤c0_1) (hr0_2:Kd.C (Kd.int .u32) w A0_2 l0_2.length l0_2) (hc0_2:l0_2.length≤c0_2) (h:rat_Neg.f a0_0 l0_1 l0_2=some (r1,r2,r3)) :
  Calls Try.prog 37 #[.agg #[.bool a0_0,.slice A0_1 l0_1.length c0_1,.slice A0_2 l0_2.length c0_2]] w fun e w'=>∃ v1_ v2_:Value,e=.returned (.agg #[.bool r1,v1_,v2_])∧Kd.R (Kd.int .u32) 63 w' w.heap.size (fun k_=>some k_≠(v2_:Value).ownBlock) v1_ r2∧Kd.R (Kd.int .u32) 63 w' w.heap.size (fun k_=>some k_≠(v1_:Value).ownBlock) v2_ r3∧Below w.heap.size w w':=by
 have hu25:=Try.underlying25
 have HR0_1:=Aside0.mk hr0_1
 have HC0_1:=Aside0.mk hc0_1
 clear hr0_1 hc0_1
 have HR0_2:=Aside0.mk hr0_2
 have HC0_2:=Aside0.mk hc0_2
 clear hr0_2 hc0_2
 have HB:=Aside0.mk (Below.refl w.heap.size w)
 have H:((rat_Norm.f a0_0 l0_1 l0_2).bind fun bt188=>(if (bt188.2.1.length:Int) > 0 then (some (!bt188.1,bt188.2.1,bt188.2.2)) else (some (false,bt188.2.1,bt188.2.2))))=some (r1,r2,r3):=h
 clear h
 replace H:=Option.bind_eq_some_iff.mp H
 obtain⟨⟨t188,t189,t192⟩,A20,H⟩:=H
 replace H:(if (t189.length:Int) > 0 then (some (!t188,t189,t192)) else (some (false,t189,t192)))=some (r1,r2,r3):=H
 have A2:=Aside0.mk A20
 clear A20
 by_cases c3:(t189.length:Int) > 0
 ·
  rw [if_pos c3] at H
  have c3b0:decide (0 < (t189.length:Int))=true:=decide_eq_true c3
  have c3b1:decide (0 < t189.length)=true:=decide_eq_true (by omega)
  clear c3
  simp only [Option.some.injEq,Prod.mk.injEq] at H
  obtain⟨rfl,rfl,rfl⟩:=H
  go_enter Try.func37,Try.ntmps37
  go_wp2_with (first | ((with_reducible refine zbO (N:=1) rfl ?_); refine zbM ?hg (N:=1) ?hd (cs:=#[.bool a0_0,.slice A0_1 l0_1.length c0_1,.slice A0_2 l0_2.length c0_2]) (t:=25) ?hr ?_; (case hd=>rfl); (case hg=>rfl); (case hr=>first | (go_simp; done) | (go_simp; rfl)); intro gb186 hg w4 hbox hb; have n0_:=Aside0.mk (zbx (by repeat (first | (with_reducible first | exact HB.out | apply zbt | apply zbs | apply zbu) | exact HB.out)) hb); have n1_:=Aside0.mk (hbox); have n2_:=Aside0.mk ((by rw [hg]; exact(zbD (by repeat (first | (with_reducible first | exact HB.out | apply zbt | apply zbs | apply zbu) | exact HB.out))):w.heap.size≤gb186)); have n3_:=Aside0.mk ((by rw [hg]; exact(zbD (by repeat (first | (with_reducible first | exact HB.out | apply zbt | apply zbs | apply zbu) | exact HB.out))):w.heap.size≤gb186)); clear HB; have HB:=n0_; have BK186:=n1_; have GW186:=n2_; have GE186:=n3_; clear n0_ n1_ n2_ n3_; clear hb hbox hg) | ((with_reducible refine zbO (N:=2) rfl ?_); refine zbM ?hg (N:=2) ?hd (cs:=#[.bool false,.slice none 0 0,.slice none 0 0]) (t:=25) ?hr ?_; (case hd=>rfl); (case hg=>rfl); (case hr=>first | (go_simp; done) | (go_simp; rfl)); intro gb187 hg w5 hbox hb; have n0_:=Aside0.mk (zbC (g:=gb186) (o:=.cells #[.bool a0_0,.slice A0_1 l0_1.length c0_1,.slice A0_2 l0_2.length c0_2] 25 (0,0)) (by (with_reducible repeat (first | refine zbz ?_ _ | refine zbA ?_ | refine zby ?_ _)); exact BK186.out) hb); have n1_:=Aside0.mk (zbx (by repeat (first | (with_reducible first | exact HB.out | apply zbt | apply zbs | apply zbu | refine zbw ?_ GE186.out) | exact HB.out)) hb); have n2_:=Aside0.mk (hbox); have n3_:=Aside0.mk ((by rw [hg]; exact(zbD (by repeat (first | (with_reducible first | exact HB.out | apply zbt | apply zbs | apply zbu | refine zbw ?_ GE186.out) | exact HB.out))):w.heap.size≤gb187)); have n4_:=Aside0.mk ((by rw [hg]; exact(zbD (by repeat (first | (with_reducible first | exact HB.out | apply zbt | apply zbs | apply zbu | refine zbw ?_ GE186.out) | exact HB.out))):w.heap.size≤gb187)); have n5_:=Aside0.mk ((by rw [hg]; exact Nat.ne_of_lt (zbV (g:=gb186) (o:=.cells #[.bool a0_0,.slice A0_1 l0_1.length c0_1,.slice A0_2 l0_2.length c0_2] 25 (0,0)) (by (with_reducible repeat (first | refine zbz ?_ _ | refine zbA ?_ | refine zby ?_ _)); exact BK186.out)):gb186≠gb187)); have n6_:=Aside0.mk ((by rw [hg]; exact Nat.ne_of_gt (zbV (g:=gb186) (o:=.cells #[.bool a0_0,.slice A0_1 l0_1.length c0_1,.slice A0_2 l0_2.length c0_2] 25 (0,0)) (by (with_reducible repeat (first | refine zbz ?_ _ | refine zbA ?_ | refine zby ?_ _)); exact BK186.out)):gb187≠gb186)); clear BK186; clear HB; have BK186:=n0_; have HB:=n1_; have BK187:=n2_; have GW187:=n3_; have GE187:=n4_; have NB186_187:=n5_; have NB187_186:=n6_; clear n0_ n1_ n2_ n3_ n4_ n5_ n6_; clear hb hbox hg; have hnb6:=NB186_187.out; have hnc6:=NB187_186.out; have hcz7_0:w5.cell? ⟨gb186,0,none⟩=some (.bool a0_0):=(zbv BK186.out 0).trans rfl; have hcz7_1:w5.cell? ⟨gb186,1,none⟩=some (.slice A0_1 l0_1.length c0_1):=(zbv BK186.out 1).trans rfl; have hcz7_2:w5.cell? ⟨gb186,2,none⟩=some (.slice A0_2 l0_2.length c0_2):=(zbv BK186.out 2).trans rfl; have hfz7_0:=zbB BK186.out 0; have hfz7_1:=zbB BK186.out 1; have hfz7_2:=zbB BK186.out 2) | ((with_reducible refine zbH (f:=16) rfl ?_); refine zbW (some 4) rfl rfl Try.func16 (by kernel_rfl) rfl #[.agg #[.bool a0_0,.slice A0_1 l0_1.length c0_1,.slice A0_2 l0_2.length c0_2]] rfl (by (try simp only [List.map_toArray,List.map_cons,List.map_nil]); first | done | rfl | (simp only [List.length_drop,List.length_take]; rfl)) ?_; (with_reducible refine(rat_Norm.calls a0_0 _ _ l0_1 _ _ l0_2 t188 t189 t192 _ ?side1 ?side2 ?side3 ?side4 A2.out).mono ?_); (case side1=>repeat (first | exact(Kd.C_below HR0_1.out HB.out) | (with_reducible refine Kd.C_alloc ?_ _) | (with_reducible refine Kd.C_drewN ?_ _) | (with_reducible refine Kd.C_drew ?_))); (case side2=>exact HC0_1.out); (case side3=>repeat (first | exact(Kd.C_below HR0_2.out HB.out) | (with_reducible refine Kd.C_alloc ?_ _) | (with_reducible refine Kd.C_drewN ?_ _) | (with_reducible refine Kd.C_drew ?_))); (case side4=>exact HC0_2.out); rintro e w8 ⟨v190,v193,rfl,ho0,ho1,hb⟩; refine⟨_,rfl,?_⟩; have n0_:=Aside0.mk (Kd.R_lower ho0 (zbD (by repeat (first | (with_reducible first | exact HB.out | apply zbt | apply zbs | apply zbu | refine zbw ?_ GE186.out | refine zbw ?_ GE187.out) | exact HB.out)))); have n1_:=Aside0.mk (Kd.R_lower ho1 (zbD (by repeat (first | (with_reducible first | exact HB.out | apply zbt | apply zbs | apply zbu | refine zbw ?_ GE186.out | refine zbw ?_ GE187.out) | exact HB.out)))); have n2_:=Aside0.mk (zbC (g:=gb186) (o:=.cells #[.bool a0_0,.slice A0_1 l0_1.length c0_1,.slice A0_2 l0_2.length c0_2] 25 (0,0)) (by (with_reducible repeat (first | refine zbz ?_ _ | refine zbA ?_ | refine zby ?_ _)); exact BK186.out) hb); have n3_:=Aside0.mk (zbC (g:=gb187) (o:=.cells #[.bool false,.slice none 0 0,.slice none 0 0] 25 (0,0)) (by (with_reducible repeat (first | refine zbz ?_ _ | refine zbA ?_ | refine zby ?_ _)); exact BK187.out) hb); have n4_:=Aside0.mk (zbx (by repeat (first | (with_reducible first | exact HB.out | apply zbt | apply zbs | apply zbu | refine zbw ?_ GE186.out | refine zbw ?_ GE187.out) | exact HB.out)) hb); clear BK186; clear BK187; clear HB; have HO191:=n0_; have HO194:=n1_; have BK186:=n2_; have BK187:=n3_; have HB:=n4_; clear n0_ n1_ n2_ n3_ n4_; (try clear hb); (try clear hb2); (try clear hk); (try clear hi); (try clear ho0); (try clear ho1); have hcz9_0:w8.cell? ⟨gb186,0,none⟩=some (.bool a0_0):=(zbv BK186.out 0).trans rfl; have hcz9_1:w8.cell? ⟨gb186,1,none⟩=some (.slice A0_1 l0_1.length c0_1):=(zbv BK186.out 1).trans rfl; have hcz9_2:w8.cell? ⟨gb186,2,none⟩=some (.slice A0_2 l0_2.length c0_2):=(zbv BK186.out 2).trans rfl; have hfz9_0:=zbB BK186.out 0; have hfz9_1:=zbB BK186.out 1; have hfz9_2:=zbB BK186.out 2; obtain⟨Ao10,co10,eo10⟩:=Kd.R_slice HO191.out; subst eo10; obtain⟨Ao11,co11,eo11⟩:=Kd.R_slice HO194.out; subst eo11; have hcz12_0:w8.cell? ⟨gb187,0,none⟩=some (.bool false):=(zbv BK187.out 0).trans rfl; have hcz12_1:w8.cell? ⟨gb187,1,none⟩=some (.slice none 0 0):=(zbv BK187.out 1).trans rfl; have hcz12_2:w8.cell? ⟨gb187,2,none⟩=some (.slice none 0 0):=(zbv BK187.out 2).trans rfl; have hfz12_0:=zbB BK187.out 0; have hfz12_1:=zbB BK187.out 1; have hfz12_2:=zbB BK187.out 2))
  refine bodyPost_ret (results_cell_row rfl _ _ gb187 25 #[.bool (!t188),.slice Ao10 t189.length co10,.slice Ao11 t192.length co11] (0,0) _ rfl (by (with_reducible repeat (first | refine zbz ?_ _ | refine zbA ?_ | refine zby ?_ _)); refine zbN (cs:=#[.bool (!t188),.slice Ao10 t189.length co10,.slice none 0 0]) ?_ 2 _ rfl; (with_reducible repeat (first | refine zbz ?_ _ | refine zbA ?_ | refine zby ?_ _)); refine zbN (cs:=#[.bool (!t188),.slice none 0 0,.slice none 0 0]) ?_ 1 _ rfl; (with_reducible repeat (first | refine zbz ?_ _ | refine zbA ?_ | refine zby ?_ _)); refine zbN (cs:=#[.bool false,.slice none 0 0,.slice none 0 0]) ?_ 0 _ rfl; (with_reducible repeat (first | refine zbz ?_ _ | refine zbA ?_ | refine zby ?_ _)); refine zbT ?_ NB187_186.out _; (with_reducible repeat (first | refine zbz ?_ _ | refine zbA ?_ | refine zby ?_ _)); refine zbT ?_ NB187_186.out _; (with_reducible repeat (first | refine zbz ?_ _ | refine zbA ?_ | refine zby ?_ _)); refine zbT ?_ NB187_186.out _; (with_reducible repeat (first | refine zbz ?_ _ | refine zbA ?_ | refine zby ?_ _)); refine zbT ?_ NB187_186.out _; (with_reducible repeat (first | refine zbz ?_ _ | refine zbA ?_ | refine zby ?_ _)); exact BK187.out) Try.underlying25 rfl (by kernel_rfl)) rfl ?_
  exact⟨_,_,by first | rfl | (simp [zbG,zbF]<;>rfl) | (simp [*,zbG,zbF]<;>rfl),by (with_reducible repeat (first | apply Kd.R_alloc | apply Kd.R_drewN | apply Kd.R_drew)); exact Kd.R_mono (Kd.R_far (p:=⟨gb187,2,none⟩) (Kd.R_far (p:=⟨gb187,1,none⟩) (Kd.R_far (p:=⟨gb187,0,none⟩) (Kd.R_far (p:=⟨gb186,0,none⟩) (Kd.R_far (p:=⟨gb186,2,none⟩) (Kd.R_far (p:=⟨gb186,1,none⟩) (Kd.R_far (p:=⟨gb186,0,none⟩) (Kd.R_types (Kd.R_types HO191.out BK186.out (by decide)) BK187.out (by decide)) (fun _ hk=>hk.1.2) (.bool t188)) (fun _ hk=>hk.1.2) (.slice Ao10 t189.length co10)) (fun _ hk=>hk.1.2) (.slice Ao11 t192.length co11)) (fun _ hk=>hk.1.2) (.bool (!t188))) (fun _ hk=>hk.2) (.bool (!t188))) (fun _ hk=>hk.2) (.slice Ao10 t189.length co10)) (fun _ hk=>hk.2) (.slice Ao11 t192.length co11)) (fun _ hk=>hk.1.1),by (with_reducible repeat (first | apply Kd.R_alloc | apply Kd.R_drewN | apply Kd.R_drew)); exact Kd.R_mono (Kd.R_far (p:=⟨gb187,2,none⟩) (Kd.R_far (p:=⟨gb187,1,none⟩) (Kd.R_far (p:=⟨gb187,0,none⟩) (Kd.R_far (p:=⟨gb186,0,none⟩) (Kd.R_far (p:=⟨gb186,2,none⟩) (Kd.R_far (p:=⟨gb186,1,none⟩) (Kd.R_far (p:=⟨gb186,0,none⟩) (Kd.R_types (Kd.R_types HO194.out BK186.out (by decide)) BK187.out (by decide)) (fun _ hk=>hk.1.2) (.bool t188)) (fun _ hk=>hk.1.2) (.slice Ao10 t189.length co10)) (fun _ hk=>hk.1.2) (.slice Ao11 t192.length co11)) (fun _ hk=>hk.1.2) (.bool (!t188))) (fun _ hk=>hk.2) (.bool (!t188))) (fun _ hk=>hk.2) (.slice Ao10 t189.length co10)) (fun _ hk=>hk.2) (.slice Ao11 t192.length co11)) (fun _ hk=>hk.1.1),by repeat (first | (with_reducible first | exact HB.out | apply zbt | apply zbs | apply zbu | refine zbw ?_ GE186.out | refine zbw ?_ GE187.out) | exact HB.out)⟩
 ·
  rw [if_neg c3] at H
  have c3b0:decide (0 < (t189.length:Int))=false:=decide_eq_false c3
  have c3b1:decide (0 < t189.length)=false:=decide_eq_false (by omega)
  clear c3
  simp only [Option.some.injEq,Prod.mk.injEq] at H
  obtain⟨rfl,rfl,rfl⟩:=H
  go_enter Try.func37,Try.ntmps37
  go_wp2_with (first | ((with_reducible refine zbO (N:=1) rfl ?_); refine zbM ?hg (N:=1) ?hd (cs:=#[.bool a0_0,.slice A0_1 l0_1.length c0_1,.slice A0_2 l0_2.length c0_2]) (t:=25) ?hr ?_; (case hd=>rfl); (case hg=>rfl); (case hr=>first | (go_simp; done) | (go_simp; rfl)); intro gb186 hg w13 hbox hb; have n0_:=Aside0.mk (zbx (by repeat (first | (with_reducible first | exact HB.out | apply zbt | apply zbs | apply zbu) | exact HB.out)) hb); have n1_:=Aside0.mk (hbox); have n2_:=Aside0.mk ((by rw [hg]; exact(zbD (by repeat (first | (with_reducible first | exact HB.out | apply zbt | apply zbs | apply zbu) | exact HB.out))):w.heap.size≤gb186)); have n3_:=Aside0.mk ((by rw [hg]; exact(zbD (by repeat (first | (with_reducible first | exact HB.out | apply zbt | apply zbs | apply zbu) | exact HB.out))):w.heap.size≤gb186)); clear HB; have HB:=n0_; have BK186:=n1_; have GW186:=n2_; have GE186:=n3_; clear n0_ n1_ n2_ n3_; clear hb hbox hg) | ((with_reducible refine zbO (N:=2) rfl ?_); refine zbM ?hg (N:=2) ?hd (cs:=#[.bool false,.slice none 0 0,.slice none 0 0]) (t:=25) ?hr ?_; (case hd=>rfl); (case hg=>rfl); (case hr=>first | (go_simp; done) | (go_simp; rfl)); intro gb187 hg w14 hbox hb; have n0_:=Aside0.mk (zbC (g:=gb186) (o:=.cells #[.bool a0_0,.slice A0_1 l0_1.length c0_1,.slice A0_2 l0_2.length c0_2] 25 (0,0)) (by (with_reducible repeat (first | refine zbz ?_ _ | refine zbA ?_ | refine zby ?_ _)); exact BK186.out) hb); have n1_:=Aside0.mk (zbx (by repeat (first | (with_reducible first | exact HB.out | apply zbt | apply zbs | apply zbu | refine zbw ?_ GE186.out) | exact HB.out)) hb); have n2_:=Aside0.mk (hbox); have n3_:=Aside0.mk ((by rw [hg]; exact(zbD (by repeat (first | (with_reducible first | exact HB.out | apply zbt | apply zbs | apply zbu | refine zbw ?_ GE186.out) | exact HB.out))):w.heap.size≤gb187)); have n4_:=Aside0.mk ((by rw [hg]; exact(zbD (by repeat (first | (with_reducible first | exact HB.out | apply zbt | apply zbs | apply zbu | refine zbw ?_ GE186.out) | exact HB.out))):w.heap.size≤gb187)); have n5_:=Aside0.mk ((by rw [hg]; exact Nat.ne_of_lt (zbV (g:=gb186) (o:=.cells #[.bool a0_0,.slice A0_1 l0_1.length c0_1,.slice A0_2 l0_2.length c0_2] 25 (0,0)) (by (with_reducible repeat (first | refine zbz ?_ _ | refine zbA ?_ | refine zby ?_ _)); exact BK186.out)):gb186≠gb187)); have n6_:=Aside0.mk ((by rw [hg]; exact Nat.ne_of_gt (zbV (g:=gb186) (o:=.cells #[.bool a0_0,.slice A0_1 l0_1.length c0_1,.slice A0_2 l0_2.length c0_2] 25 (0,0)) (by (with_reducible repeat (first | refine zbz ?_ _ | refine zbA ?_ | refine zby ?_ _)); exact BK186.out)):gb187≠gb186)); clear BK186; clear HB; have BK186:=n0_; have HB:=n1_; have BK187:=n2_; have GW187:=n3_; have GE187:=n4_; have NB186_187:=n5_; have NB187_186:=n6_; clear n0_ n1_ n2_ n3_ n4_ n5_ n6_; clear hb hbox hg; have hnb15:=NB186_187.out; have hnc15:=NB187_186.out; have hcz16_0:w14.cell? ⟨gb186,0,none⟩=some (.bool a0_0):=(zbv BK186.out 0).trans rfl; have hcz16_1:w14.cell? ⟨gb186,1,none⟩=some (.slice A0_1 l0_1.length c0_1):=(zbv BK186.out 1).trans rfl; have hcz16_2:w14.cell? ⟨gb186,2,none⟩=some (.slice A0_2 l0_2.length c0_2):=(zbv BK186.out 2).trans rfl; have hfz16_0:=zbB BK186.out 0; have hfz16_1:=zbB BK186.out 1; have hfz16_2:=zbB BK186.out 2) | ((with_reducible refine zbH (f:=16) rfl ?_); refine zbW (some 4) rfl rfl Try.func16 (by kernel_rfl) rfl #[.agg #[.bool a0_0,.slice A0_1 l0_1.length c0_1,.slice A0_2 l0_2.length c0_2]] rfl (by (try simp only [List.map_toArray,List.map_cons,List.map_nil]); first | done | rfl | (simp only [List.length_drop,List.length_take]; rfl)) ?_; (with_reducible refine(rat_Norm.calls a0_0 _ _ l0_1 _ _ l0_2 t188 t189 t192 _ ?side1 ?side2 ?side3 ?side4 A2.out).mono ?_); (case side1=>repeat (first | exact(Kd.C_below HR0_1.out HB.out) | (with_reducible refine Kd.C_alloc ?_ _) | (with_reducible refine Kd.C_drewN ?_ _) | (with_reducible refine Kd.C_drew ?_))); (case side2=>exact HC0_1.out); (case side3=>repeat (first | exact(Kd.C_below HR0_2.out HB.out) | (with_reducible refine Kd.C_alloc ?_ _) | (with_reducible refine Kd.C_drewN ?_ _) | (with_reducible refine Kd.C_drew ?_))); (case side4=>exact HC0_2.out); rintro e w17 ⟨v190,v193,rfl,ho0,ho1,hb⟩; refine⟨_,rfl,?_⟩; have n0_:=Aside0.mk (Kd.R_lower ho0 (zbD (by repeat (first | (with_reducible first | exact HB.out | apply zbt | apply zbs | apply zbu | refine zbw ?_ GE186.out | refine zbw ?_ GE187.out) | exact HB.out)))); have n1_:=Aside0.mk (Kd.R_lower ho1 (zbD (by repeat (first | (with_reducible first | exact HB.out | apply zbt | apply zbs | apply zbu | refine zbw ?_ GE186.out | refine zbw ?_ GE187.out) | exact HB.out)))); have n2_:=Aside0.mk (zbC (g:=gb186) (o:=.cells #[.bool a0_0,.slice A0_1 l0_1.length c0_1,.slice A0_2 l0_2.length c0_2] 25 (0,0)) (by (with_reducible repeat (first | refine zbz ?_ _ | refine zbA ?_ | refine zby ?_ _)); exact BK186.out) hb); have n3_:=Aside0.mk (zbC (g:=gb187) (o:=.cells #[.bool false,.slice none 0 0,.slice none 0 0] 25 (0,0)) (by (with_reducible repeat (first | refine zbz ?_ _ | refine zbA ?_ | refine zby ?_ _)); exact BK187.out) hb); have n4_:=Aside0.mk (zbx (by repeat (first | (with_reducible first | exact HB.out | apply zbt | apply zbs | apply zbu | refine zbw ?_ GE186.out | refine zbw ?_ GE187.out) | exact HB.out)) hb); clear BK186; clear BK187; clear HB; have HO191:=n0_; have HO194:=n1_; have BK186:=n2_; have BK187:=n3_; have HB:=n4_; clear n0_ n1_ n2_ n3_ n4_; (try clear hb); (try clear hb2); (try clear hk); (try clear hi); (try clear ho0); (try clear ho1); have hcz18_0:w17.cell? ⟨gb186,0,none⟩=some (.bool a0_0):=(zbv BK186.out 0).trans rfl; have hcz18_1:w17.cell? ⟨gb186,1,none⟩=some (.slice A0_1 l0_1.length c0_1):=(zbv BK186.out 1).trans rfl; have hcz18_2:w17.cell? ⟨gb186,2,none⟩=some (.slice A0_2 l0_2.length c0_2):=(zbv BK186.out 2).trans rfl; have hfz18_0:=zbB BK186.out 0; have hfz18_1:=zbB BK186.out 1; have hfz18_2:=zbB BK186.out 2; obtain⟨Ao19,co19,eo19⟩:=Kd.R_slice HO191.out; subst eo19; obtain⟨Ao20,co20,eo20⟩:=Kd.R_slice HO194.out; subst eo20; have hcz21_0:w17.cell? ⟨gb187,0,none⟩=some (.bool false):=(zbv BK187.out 0).trans rfl; have hcz21_1:w17.cell? ⟨gb187,1,none⟩=some (.slice none 0 0):=(zbv BK187.out 1).trans rfl; have hcz21_2:w17.cell? ⟨gb187,2,none⟩=some (.slice none 0 0):=(zbv BK187.out 2).trans rfl; have hfz21_0:=zbB BK187.out 0; have hfz21_1:=zbB BK187.out 1; have hfz21_2:=zbB BK187.out 2))
  refine bodyPost_ret (results_cell_row rfl _ _ gb187 25 #[.bool false,.slice Ao19 t189.length co19,.slice Ao20 t192.length co20] (0,0) _ rfl (by (with_reducible repeat (first | refine zbz ?_ _ | refine zbA ?_ | refine zby ?_ _)); refine zbN (cs:=#[.bool false,.slice Ao19 t189.length co19,.slice none 0 0]) ?_ 2 _ rfl; (with_reducible repeat (first | refine zbz ?_ _ | refine zbA ?_ | refine zby ?_ _)); refine zbN (cs:=#[.bool false,.slice none 0 0,.slice none 0 0]) ?_ 1 _ rfl; (with_reducible repeat (first | refine zbz ?_ _ | refine zbA ?_ | refine zby ?_ _)); refine zbN (cs:=#[.bool false,.slice none 0 0,.slice none 0 0]) ?_ 0 _ rfl; (with_reducible repeat (first | refine zbz ?_ _ | refine zbA ?_ | refine zby ?_ _)); refine zbT ?_ NB187_186.out _; (with_reducible repeat (first | refine zbz ?_ _ | refine zbA ?_ | refine zby ?_ _)); refine zbT ?_ NB187_186.out _; (with_reducible repeat (first | refine zbz ?_ _ | refine zbA ?_ | refine zby ?_ _)); refine zbT ?_ NB187_186.out _; (with_reducible repeat (first | refine zbz ?_ _ | refine zbA ?_ | refine zby ?_ _)); refine zbT ?_ NB187_186.out _; (with_reducible repeat (first | refine zbz ?_ _ | refine zbA ?_ | refine zby ?_ _)); exact BK187.out) Try.underlying25 rfl (by kernel_rfl)) rfl ?_
  exact⟨_,_,by first | rfl | (simp [zbG,zbF]<;>rfl) | (simp [*,zbG,zbF]<;>rfl),by (with_reducible repeat (first | apply Kd.R_alloc | apply Kd.R_drewN | apply Kd.R_drew)); exact Kd.R_mono (Kd.R_far (p:=⟨gb187,2,none⟩) (Kd.R_far (p:=⟨gb187,1,none⟩) (Kd.R_far (p:=⟨gb187,0,none⟩) (Kd.R_far (p:=⟨gb186,0,none⟩) (Kd.R_far (p:=⟨gb186,2,none⟩) (Kd.R_far (p:=⟨gb186,1,none⟩) (Kd.R_far (p:=⟨gb186,0,none⟩) (Kd.R_types (Kd.R_types HO191.out BK186.out (by decide)) BK187.out (by decide)) (fun _ hk=>hk.1.2) (.bool t188)) (fun _ hk=>hk.1.2) (.slice Ao19 t189.length co19)) (fun _ hk=>hk.1.2) (.slice Ao20 t192.length co20)) (fun _ hk=>hk.1.2) (.bool false)) (fun _ hk=>hk.2) (.bool false)) (fun _ hk=>hk.2) (.slice Ao19 t189.length co19)) (fun _ hk=>hk.2) (.slice Ao20 t192.length co20)) (fun _ hk=>hk.1.1),by (with_reducible repeat (first | apply Kd.R_alloc | apply Kd.R_drewN | apply Kd.R_drew)); exact Kd.R_mono (Kd.R_far (p:=⟨gb187,2,none⟩) (Kd.R_far (p:=⟨gb187,1,none⟩) (Kd.R_far (p:=⟨gb187,0,none⟩) (Kd.R_far (p:=⟨gb186,0,none⟩) (Kd.R_far (p:=⟨gb186,2,none⟩) (Kd.R_far (p:=⟨gb186,1,none⟩) (Kd.R_far (p:=⟨gb186,0,none⟩) (Kd.R_types (Kd.R_types HO194.out BK186.out (by decide)) BK187.out (by decide)) (fun _ hk=>hk.1.2) (.bool t188)) (fun _ hk=>hk.1.2) (.slice Ao19 t189.length co19)) (fun _ hk=>hk.1.2) (.slice Ao20 t192.length co20)) (fun _ hk=>hk.1.2) (.bool false)) (fun _ hk=>hk.2) (.bool false)) (fun _ hk=>hk.2) (.slice Ao19 t189.length co19)) (fun _ hk=>hk.2) (.slice Ao20 t192.length co20)) (fun _ hk=>hk.1.1),by repeat (first | (with_reducible first | exact HB.out | apply zbt | apply zbs | apply zbu | refine zbw ?_ GE186.out | refine zbw ?_ GE187.out) | exact HB.out)⟩
end Go.Proofs.Ytehghijlchpeaaa.J
end
end
section
namespace Go.Proofs.Ytehghijlchpeaaa.Nt
set_option linter.unusedVariables false
set_option linter.unusedSimpArgs false
set_option linter.unusedSectionVars false
abbrev QN:=Bool×Nat×Nat
def nrm (n:Bool) (a b:Nat):QN:=if b=0∨a=0 then (false,0,1) else (n,a / Nat.gcd a b,b / Nat.gcd a b)
def ngt (r:QN):QN:=if r.2.1=0 then (false,r.2.1,r.2.2) else (!r.1,r.2.1,r.2.2)
structure red (r:QN):Prop where
 den:0 < r.2.2
 cop:Nat.gcd r.2.1 r.2.2=1
 zero:r.2.1=0→r.1=false
theorem nrm_red (n:Bool) (a b:Nat):red (nrm n a b):=by
 unfold nrm
 split
 ·
  exact⟨Nat.one_pos,by simp,fun _=>rfl⟩
 ·
  rename_i h
  have hb:0 < b:=by omega
  have hg:0 < Nat.gcd a b:=Nat.gcd_pos_of_pos_right _ hb
  refine⟨Nat.div_pos (Nat.le_of_dvd hb (Nat.gcd_dvd_right a b)) hg,by rw [Nat.gcd_div (Nat.gcd_dvd_left a b) (Nat.gcd_dvd_right a b),Nat.div_self hg],fun h0=>?_⟩
  have:=Nat.div_pos (Nat.le_of_dvd (show 0 < a by omega) (Nat.gcd_dvd_left a b)) hg
  simp only [] at h0
  omega
theorem zci {r:QN} (h:red r):nrm r.1 r.2.1 r.2.2=r:=by
 obtain⟨n,a,b⟩:=r
 unfold nrm
 have h1:=h.den
 have h2:=h.cop
 have h3:=h.zero
 simp only [] at h1 h2 h3 ⊢
 by_cases ha:a=0
 ·
  rw [if_pos (Or.inr ha),h3 ha]
  subst ha
  rw [Nat.gcd_zero_left] at h2
  rw [h2]
 ·
  rw [if_neg (by omega),h2,Nat.div_one,Nat.div_one]
def addQ (x y:QN):QN :=
 if x.1=y.1 then nrm x.1 (x.2.1*y.2.2+y.2.1*x.2.2) (x.2.2*y.2.2)
 else if y.2.1*x.2.2≤x.2.1*y.2.2 then nrm x.1 (x.2.1*y.2.2-y.2.1*x.2.2) (x.2.2*y.2.2)
 else nrm y.1 (y.2.1*x.2.2-x.2.1*y.2.2) (x.2.2*y.2.2)
def mulQ (x y:QN):QN:=nrm (x.1 != y.1) (x.2.1*y.2.1) (x.2.2*y.2.2)
def divQ (x y:QN):QN:=mulQ x (y.1,y.2.2,y.2.1)
def sgnQ (x:QN):Int:=if x.2.1=0 then 0 else if x.1 then -1 else 1
end Go.Proofs.Ytehghijlchpeaaa.Nt
end
section
namespace Go.Proofs.Ytehghijlchpeaaa.Nat1
open Go.RowKit Go.Proofs.YtehghijlchpeaaaW.PrintWords Go.Proofs.YtehghijlchpeaaaW.PrintLast Go.Proofs.YtehghijlchpeaaaW.PrintMore Go.Proofs.Ytehghijlchpeaaa.L Go.Proofs.Ytehghijlchpeaaa.Nt
set_option linter.unusedVariables false
set_option linter.unusedSimpArgs false
set_option linter.unusedSectionVars false
def RT (w:World) (base:Nat) (v:Value) (r:QN):Prop :=
 ∃ v1 v2:Value,v=.agg #[.bool r.1,v1,v2]∧Kd.R (Kd.int .u32) 63 w base (fun _=>True) v1 (dg B32 r.2.1)∧Kd.R (Kd.int .u32) 63 w base (fun _=>True) v2 (dg B32 r.2.2)
def zcN (w:World) (r:QN) (e:Ending) (w':World):Prop :=
 ∃ v1_ v2_:Value,e=.returned (.agg #[.bool r.1,v1_,v2_])∧Kd.R (Kd.int .u32) 63 w' w.heap.size (fun k_=>some k_≠(v2_:Value).ownBlock) v1_ (dg B32 r.2.1)∧Kd.R (Kd.int .u32) 63 w' w.heap.size (fun k_=>some k_≠(v1_:Value).ownBlock) v2_ (dg B32 r.2.2)∧Below w.heap.size w w'
theorem zcN.rt {w w':World} {r:QN} {e:Ending} (h:zcN w r e w'):∃ v,e=.returned v∧RT w' w.heap.size v r∧Below w.heap.size w w':=by
 obtain⟨v1,v2,he,h1,h2,hb⟩:=h
 exact⟨_,he,⟨v1,v2,rfl,Kd.R_mono h1 (fun _ _=>trivial),Kd.R_mono h2 (fun _ _=>trivial)⟩,hb⟩
theorem mkR_eq (n:Bool) (a b:Nat):mkR n a b=if b=0 then (false,[],[],17) else ((nrm n a b).1,dg B32 (nrm n a b).2.1,dg B32 (nrm n a b).2.2,0):=by
 unfold mkR nrm
 by_cases hb:b=0
 ·
  rw [if_pos hb,if_pos hb]
 ·
  by_cases ha:a=0
  ·
   rw [if_neg hb,if_neg hb,if_pos ha,if_pos (Or.inr ha),zb5]
  ·
   rw [if_neg hb,if_neg hb,if_neg ha,if_neg (by omega)]
theorem norm_f {n:Bool} {p q:List Int} (hp:okD p) (hq:okD q):J.rat_Norm.f n p q=some ((nrm n (val B32 p) (val B32 q)).1,dg B32 (nrm n (val B32 p) (val B32 q)).2.1,dg B32 (nrm n (val B32 p) (val B32 q)).2.2):=by
 unfold J.rat_Norm.f
 rw [rat_Make.f,if_pos ⟨hp,hq⟩,Option.bind_some,mkR_eq]
 by_cases hb:val B32 q=0
 ·
  rw [if_pos hb,if_neg (by decide),H.rat_one.f,nat_Of.f,if_pos (by omega)]
  unfold nrm
  rw [if_pos (Or.inl hb),zb5]
  rfl
 ·
  rw [if_neg hb]
  simp only []
  rw [if_pos trivial]
section
variable (n:Bool) (A0:Option Addr) (c0:Nat) (l0:List Int) (A1:Option Addr) (c1:Nat) (l1:List Int) (w:World) (hr0:Kd.C (Kd.int .u32) w A0 l0.length l0) (hc0:l0.length≤c0) (hr1:Kd.C (Kd.int .u32) w A1 l1.length l1) (hc1:l1.length≤c1) (h0:okD l0) (h1:okD l1)
include hr0 hc0 hr1 hc1 h0 h1
theorem norm_q:Calls Try.prog 16 #[.agg #[.bool n,.slice A0 l0.length c0,.slice A1 l1.length c1]] w (zcN w (nrm n (val B32 l0) (val B32 l1))) :=
 J.rat_Norm.calls n A0 c0 l0 A1 c1 l1 _ _ _ w hr0 hc0 hr1 hc1 (norm_f h0 h1)
omit hr0 hc0 hr1 hc1 in
theorem neg_f:J.rat_Neg.f n l0 l1=some ((ngt (nrm n (val B32 l0) (val B32 l1))).1,dg B32 (ngt (nrm n (val B32 l0) (val B32 l1))).2.1,dg B32 (ngt (nrm n (val B32 l0) (val B32 l1))).2.2):=by
 unfold J.rat_Neg.f
 rw [norm_f h0 h1,Option.bind_some]
 simp only []
 unfold ngt
 by_cases hz:(nrm n (val B32 l0) (val B32 l1)).2.1=0
 ·
  rw [if_neg (by rw [hz,zb5]; simp),if_pos hz]
 ·
  have:dg B32 (nrm n (val B32 l0) (val B32 l1)).2.1≠[]:=fun e=>hz ((zcn zbE _).1 e)
  have:=List.length_pos_iff.2 this
  rw [if_pos (by omega),if_neg hz]
end
end Go.Proofs.Ytehghijlchpeaaa.Nat1
end
section
namespace Go.Proofs.Ytehghijlchpeaaa.Nat1
open Go.RowKit Go.Proofs.YtehghijlchpeaaaW.PrintWords Go.Proofs.YtehghijlchpeaaaW.PrintLast Go.Proofs.YtehghijlchpeaaaW.PrintMore Go.Proofs.Ytehghijlchpeaaa.L Go.Proofs.Ytehghijlchpeaaa.Nt
set_option linter.unusedVariables false
set_option linter.unusedSimpArgs false
set_option linter.unusedSectionVars false
theorem RT.below {w w':World} {base:Nat} {v:Value} {r:QN} (h:RT w base v r) (hb:Below w.heap.size w w'):RT w' base v r:=by
 obtain⟨v1,v2,he,h1,h2⟩:=h
 exact⟨v1,v2,he,Kd.R_below h1 hb,Kd.R_below h2 hb⟩
theorem RT.lower {w:World} {base base':Nat} {v:Value} {r:QN} (h:RT w base v r) (hb:base'≤base):RT w base' v r:=by
 obtain⟨v1,v2,he,h1,h2⟩:=h
 exact⟨v1,v2,he,Kd.R_lower h1 hb,Kd.R_lower h2 hb⟩
theorem RT.store3 {W:World} {base g:Nat} {v:Value} {r:QN} {cs:Array Value} (h:RT W base v r) (hg:W.heap[g]? = some (.cells cs 25 (0,0))) (a b c:Value):RT (store3 W g a b c) base v r:=by
 obtain⟨v1,v2,he,h1,h2⟩:=h
 exact⟨v1,v2,he,zcC h1 hg a b c,zcC h2 hg a b c⟩
theorem RT.args {w:World} {base:Nat} {v:Value} {r:QN} (h:RT w base v r):∃ A1 c1 A2 c2,v=.agg #[.bool r.1,.slice A1 (dg B32 r.2.1).length c1,.slice A2 (dg B32 r.2.2).length c2] ∧
  (Kd.R (Kd.int .u32) 63 w base (fun _=>True) (.slice A1 (dg B32 r.2.1).length c1) (dg B32 r.2.1)∧Kd.R (Kd.int .u32) 63 w base (fun _=>True) (.slice A2 (dg B32 r.2.2).length c2) (dg B32 r.2.2)):=by
 obtain⟨v1,v2,he,h1,h2⟩:=h
 obtain⟨A1,c1,rfl⟩:=Kd.R_slice h1
 obtain⟨A2,c2,rfl⟩:=Kd.R_slice h2
 exact⟨A1,c1,A2,c2,he,h1,h2⟩
theorem neg_q (n:Bool) (A0:Option Addr) (c0:Nat) (l0:List Int) (A1:Option Addr) (c1:Nat) (l1:List Int) (w:World) (hr0:Kd.C (Kd.int .u32) w A0 l0.length l0) (hc0:l0.length≤c0) (hr1:Kd.C (Kd.int .u32) w A1 l1.length l1) (hc1:l1.length≤c1) (h0:okD l0) (h1:okD l1) :
  Calls Try.prog 37 #[.agg #[.bool n,.slice A0 l0.length c0,.slice A1 l1.length c1]] w (zcN w (ngt (nrm n (val B32 l0) (val B32 l1)))) :=
 J.rat_Neg.calls n A0 c0 l0 A1 c1 l1 _ _ _ w hr0 hc0 hr1 hc1 (neg_f n l0 l1 h0 h1)
theorem alloc3_size (W:World) (a b c:Obj):(((W.alloc a).alloc b).alloc c).heap.size=W.heap.size+1+1+1:=by simp
theorem alloc3_new (W:World) (a b c:Obj):(((W.alloc a).alloc b).alloc c).heap[W.heap.size+1+1]? = some c:=by
 have:=zb6 ((W.alloc a).alloc b) c
 simpa using this
theorem alloc3_mid (W:World) (a b c:Obj):(((W.alloc a).alloc b).alloc c).heap[W.heap.size+1]? = some b:=by
 have:=zb6 (W.alloc a) b
 have h2:=((Below.refl ((W.alloc a).alloc b).heap.size ((W.alloc a).alloc b)).alloc (Nat.le_refl _) c).block (W.heap.size+1) (by simp)
 rw [h2]
 simpa using this
theorem alloc3_old (W:World) (a b c:Obj):(((W.alloc a).alloc b).alloc c).heap[W.heap.size]? = some a:=by
 have:=zb6 W a
 have h2:=(((Below.refl (W.alloc a).heap.size (W.alloc a)).alloc (Nat.le_refl _) b).alloc (by simp) c).block W.heap.size (by simp)
 rw [h2]
 exact this
theorem zco (W:World) (a b c:Obj):Below W.heap.size W (((W.alloc a).alloc b).alloc c):=zbt (zbt (zbt (Below.refl _ _) _) _) _
set_option maxHeartbeats 1000000 in
set_option maxRecDepth 100000 in
theorem take_q (b:Bool) (W:World) (base:Nat) (v:Value) (r:QN) (h:RT W base v r) (hr:red r) (hbase:base≤W.heap.size) (h1:okD (dg B32 r.2.1)) (h2:okD (dg B32 r.2.2)) :
  Calls Try.prog 77 #[.agg #[.bool b],v] W fun e w'=>∃ v',e=.returned v'∧RT w' base v' (if b then ngt r else r)∧Below W.heap.size W w':=by
 have hu25:=Try.underlying25
 have hu92:=Try.underlying92
 obtain⟨A1,c1,A2,c2,rfl,R1,R2⟩:=h.args
 have HN:=Aside0.mk (fun (W':World) (hb:Below W.heap.size W W')=>neg_q r.1 A1 c1 (dg B32 r.2.1) A2 c2 (dg B32 r.2.2) W' (Kd.C_below (Kd.R_reads' R1).2.2 hb) (Kd.R_reads' R1).2.1 (Kd.C_below (Kd.R_reads' R2).2.2 hb) (Kd.R_reads' R2).2.1 h1 h2)
 rw [zbX zbE,zbX zbE,zci hr] at HN
 have HR1:=Aside0.mk R1
 have HR2:=Aside0.mk R2
 clear h R1 R2 h1 h2
 go_enter Try.func77,Try.ntmps77
 cases b with
 | true =>
  go_wp2_with fail
  have hbox:=alloc3_new W (.cells #[.bool true] 92) (.cells #[.bool r.1,.slice A1 (dg B32 r.2.1).length c1,.slice A2 (dg B32 r.2.2).length c2] 25) (.cells #[.bool false,.slice none 0 0,.slice none 0 0] 25)
  have hbw:=zco W (.cells #[.bool true] 92) (.cells #[.bool r.1,.slice A1 (dg B32 r.2.1).length c1,.slice A2 (dg B32 r.2.2).length c2] 25) (.cells #[.bool false,.slice none 0 0,.slice none 0 0] 25)
  generalize (((W.alloc (.cells #[.bool true] 92)).alloc (.cells #[.bool r.1,.slice A1 (dg B32 r.2.1).length c1,.slice A2 (dg B32 r.2.2).length c2] 25)).alloc (.cells #[.bool false,.slice none 0 0,.slice none 0 0] 25))=W3 at hbox hbw ⊢
  refine(HN.out W3 hbw).mono ?_
  rintro e w4 hp
  obtain⟨v',rfl,hRT,hB⟩:=hp.rt
  obtain⟨B1,d1,B2,d2,rfl,S1,S2⟩:=hRT.args
  have HBX:=Aside0.mk (zbC hbox hB)
  have HB:=Aside0.mk (zbx hbw hB)
  have HRT:=Aside0.mk (hRT.lower (base':=base) (Nat.le_trans hbase hbw.size))
  obtain⟨⟨x0,x1,x2⟩,y0,y1,y2⟩:=zbK HBX.out
  clear hbox hbw hRT hB S1 S2 hp
  go_wp2
  refine bodyPost_ret (results_cell_row rfl _ _ (W.heap.size+1+1) 25 _ (0,0) _ rfl (zb1 HBX.out _ _ _) Try.underlying25 rfl (by kernel_rfl)) rfl ?_
  exact⟨_,rfl,HRT.out.store3 HBX.out _ _ _,zbU HB.out (by omega) _ _ _⟩
 | false =>
  go_wp2
  refine bodyPost_ret (results_cell_row rfl _ _ (W.heap.size+1+1) 25 _ (0,0) _ rfl (alloc3_new W _ _ _) Try.underlying25 rfl (by kernel_rfl)) rfl ?_
  exact⟨_,rfl,RT.below ⟨_,_,rfl,HR1.out,HR2.out⟩ (zco W _ _ _),zco W _ _ _⟩
end Go.Proofs.Ytehghijlchpeaaa.Nat1
end
section
namespace Go.Proofs.Ytehghijlchpeaaa.Nat1
open Go.RowKit Go.Proofs.YtehghijlchpeaaaW.PrintWords Go.Proofs.YtehghijlchpeaaaW.PrintLast Go.Proofs.YtehghijlchpeaaaW.PrintMore Go.Proofs.Ytehghijlchpeaaa.L Go.Proofs.Ytehghijlchpeaaa.Nt
set_option linter.unusedVariables false
set_option linter.unusedSimpArgs false
set_option linter.unusedSectionVars false
set_option maxHeartbeats 1000000 in
set_option maxRecDepth 100000 in
theorem made_q (n:Bool) (A0:Option Addr) (c0:Nat) (l0:List Int) (A1:Option Addr) (c1:Nat) (l1:List Int) (g:Nat) (W:World) (hg:W.heap[g]? = some (.cells #[.slice A1 l1.length c1] 23 (0,0))) (hr0:Kd.C (Kd.int .u32) W A0 l0.length l0) (hc0:l0.length≤c0) (hr1:Kd.C (Kd.int .u32) W A1 l1.length l1) (hc1:l1.length≤c1) (h0:okD l0) (h1:okD l1) (hz:val B32 l1≠0) :
  Calls Try.prog 104 #[.bool n,.slice A0 l0.length c0,.pointer (some ⟨g,0,none⟩)] W (zcN W (nrm n (val B32 l0) (val B32 l1))):=by
 have hu25:=Try.underlying25
 have HM:=Aside0.mk (fun (W':World) (hb:Below W.heap.size W W')=>make_q n A0 c0 l0 A1 c1 l1 W' (Kd.C_below hr0 hb) hc0 (Kd.C_below hr1 hb) hc1 h0 h1)
 rw [mkR_eq,if_neg hz] at HM
 have HG:=Aside0.mk hg
 have k0:=cell_of_one (zbC hg ((Below.refl _ W).alloc (Nat.le_refl _) (.cells #[.bool false,.slice none 0 0,.slice none 0 0] 25)))
 generalize nrm n (val B32 l0) (val B32 l1)=r at *
 clear hg hr0 hr1 h0 h1 hz
 go_enter Try.func104,Try.ntmps104
 go_wp2_with fail
 have hbox:=zb6 W (.cells #[.bool false,.slice none 0 0,.slice none 0 0] 25)
 have hbw:Below W.heap.size W (W.alloc (.cells #[.bool false,.slice none 0 0,.slice none 0 0] 25)):=zbt (Below.refl _ _) _
 generalize W.alloc (.cells #[.bool false,.slice none 0 0,.slice none 0 0] 25)=W1 at hbox hbw k0 ⊢
 refine(HM.out W1 hbw).mono ?_
 rintro e w2 ⟨v1,v2,rfl,R1,R2,hB⟩
 have HR2:=Aside0.mk (And.intro R1 R2)
 have HBX:=Aside0.mk (zbC hbox hB)
 have HB:=Aside0.mk (zbx hbw hB)
 have HS1:=Aside0.mk hbw.size
 obtain⟨B1,d1,rfl⟩:=Kd.R_slice R1
 obtain⟨B2,d2,rfl⟩:=Kd.R_slice R2
 have hlt:W.heap.size < w2.heap.size:=zbV HBX.out
 obtain⟨⟨x0,x1,x2⟩,y0,y1,y2⟩:=zbK HBX.out
 clear hbox hbw R1 R2 hB k0
 go_wp2
 refine bodyPost_ret (results_cell_row rfl _ _ W.heap.size 25 _ (0,0) _ rfl (zby (zb1 HBX.out _ _ _) _) Try.underlying25 rfl (by kernel_rfl)) rfl ?_
 exact⟨_,_,rfl,Kd.R_alloc (zcC (Kd.R_lower HR2.out.1 HS1.out) HBX.out _ _ _) _,Kd.R_alloc (zcC (Kd.R_lower HR2.out.2 HS1.out) HBX.out _ _ _) _,zbt (zbU HB.out (Nat.le_refl _) _ _ _) _⟩
end Go.Proofs.Ytehghijlchpeaaa.Nat1
end
section
namespace Go.Proofs.Ytehghijlchpeaaa.Nat1
open Go.RowKit Go.Proofs.YtehghijlchpeaaaW.PrintWords Go.Proofs.YtehghijlchpeaaaW.PrintLast Go.Proofs.YtehghijlchpeaaaW.PrintMore Go.Proofs.Ytehghijlchpeaaa.L Go.Proofs.Ytehghijlchpeaaa.Nt
set_option linter.unusedVariables false
set_option linter.unusedSimpArgs false
set_option linter.unusedSectionVars false
def okS (l:List Int):Prop:=ok B32 l∧l.length≤137438953472
theorem okS.okD {l:List Int} (h:okS l):okD l:=⟨h.1,Nat.le_trans h.2 (by decide)⟩
def okQ (x:QN):Prop:=(dg B32 x.2.1).length≤137438953472∧(dg B32 x.2.2).length≤137438953472
theorem okQ_nrm {n:Bool} {p q:List Int} (hp:okS p) (hq:okS q):okQ (nrm n (val B32 p) (val B32 q)):=by
 have h1:=zb4 zbE (val_lt hp.1)
 have h2:=zb4 zbE (val_lt hq.1)
 have h3:=hp.2
 have h4:=hq.2
 unfold nrm okQ
 split
 ·
  have:=zb4 zbE (show 1 < B32 ^ 1 by decide)
  simp only []
  rw [zb5]
  exact⟨by simp,by omega⟩
 ·
  exact⟨Nat.le_trans (zb0 zbE (Nat.div_le_self _ _)) (by omega),Nat.le_trans (zb0 zbE (Nat.div_le_self _ _)) (by omega)⟩
theorem okQ_ngt {x:QN} (h:okQ x):okQ (ngt x):=by
 unfold ngt
 split<;>exact h
theorem ngt_red {x:QN} (h:red x):red (ngt x):=by
 unfold ngt
 split
 ·
  rename_i h0
  exact⟨h.den,h.cop,fun _=>rfl⟩
 ·
  rename_i h0
  exact⟨h.den,h.cop,fun h1=>absurd h1 h0⟩
theorem zcJ {n k:Nat} (h:(dg B32 n).length≤k) (hk:k≤549755813888):okD (dg B32 n):=⟨dg_ok zbE _,Nat.le_trans h hk⟩
theorem mul_len {a b:Nat} (ha:(dg B32 a).length≤137438953472) (hb:(dg B32 b).length≤137438953472):(dg B32 (a*b)).length≤274877906944:=by
 have:=dg_length_mul zbE (m:=a) (n:=b)
 omega
theorem zcf {W:World} {g g':Nat} (hne:g'≠g) (a b c:Value):(store3 W g a b c).heap[g']? = W.heap[g']? :=
 (Below.heap_setCell _ _ _ _ hne).trans ((Below.heap_setCell _ _ _ _ hne).trans (Below.heap_setCell _ _ _ _ hne))
structure BX (w:World) (X Y:QN) (v1 v2 v3 v4:Value) (W:World):Prop where
 b3:W.heap[w.heap.size]? = some (.cells #[.bool X.1,v1,v2] 25 (0,0))
 b4:W.heap[w.heap.size+1]? = some (.cells #[.bool Y.1,v3,v4] 25 (0,0))
 b6:W.heap[w.heap.size+1+1]? = some (.cells #[.bool false,.slice none 0 0,.slice none 0 0] 25 (0,0))
 bw:Below w.heap.size w W
 x1:Kd.R (Kd.int .u32) 63 W w.heap.size (fun _=>True) v1 (dg B32 X.2.1)
 x2:Kd.R (Kd.int .u32) 63 W w.heap.size (fun _=>True) v2 (dg B32 X.2.2)
 y1:Kd.R (Kd.int .u32) 63 W w.heap.size (fun _=>True) v3 (dg B32 Y.2.1)
 y2:Kd.R (Kd.int .u32) 63 W w.heap.size (fun _=>True) v4 (dg B32 Y.2.2)
theorem BX.below {w W W':World} {X Y:QN} {v1 v2 v3 v4:Value} (h:BX w X Y v1 v2 v3 v4 W) (hb:Below W.heap.size W W'):BX w X Y v1 v2 v3 v4 W' :=
 ⟨zbC h.b3 hb,zbC h.b4 hb,zbC h.b6 hb,zbx h.bw hb,Kd.R_below h.x1 hb,Kd.R_below h.x2 hb,Kd.R_below h.y1 hb,Kd.R_below h.y2 hb⟩
theorem two_boxes {w W:World} {X Y:QN} {v1 v2 v3 v4:Value} {x0 x1 x2 y0 y1 y2:Value} (h3:W.heap[w.heap.size]? = some (.cells #[x0,x1,x2] 25 (0,0))) (h4:W.heap[w.heap.size+1]? = some (.cells #[y0,y1,y2] 25 (0,0)))
  (h6:W.heap[w.heap.size+1+1]? = some (.cells #[.bool false,.slice none 0 0,.slice none 0 0] 25 (0,0))) (hb:Below w.heap.size w W) (hx:RT W w.heap.size (.agg #[.bool X.1,v1,v2]) X) (hy:RT W w.heap.size (.agg #[.bool Y.1,v3,v4]) Y) :
  BX w X Y v1 v2 v3 v4 (store3 (store3 W w.heap.size (.bool X.1) v1 v2) (w.heap.size+1) (.bool Y.1) v3 v4):=by
 have h4':=(zcf (W:=W) (show w.heap.size+1≠w.heap.size by omega) (.bool X.1) v1 v2).trans h4
 obtain⟨u1,u2,e,r1,r2⟩:=(hx.store3 h3 (.bool X.1) v1 v2).store3 h4' (.bool Y.1) v3 v4
 obtain⟨u3,u4,e',r3,r4⟩:=(hy.store3 h3 (.bool X.1) v1 v2).store3 h4' (.bool Y.1) v3 v4
 cases e
 cases e'
 exact⟨(zcf (by omega) _ _ _).trans (zb1 h3 _ _ _),zb1 h4' _ _ _,(zcf (by omega) _ _ _).trans ((zcf (by omega) _ _ _).trans h6),zbU (zbU hb (Nat.le_refl _) _ _ _) (by omega) _ _ _,r1,r2,r3,r4⟩
theorem mul_d {W:World} {base:Nat} {ok0 ok1:Nat→Prop} {A0 A1:Option Addr} {c0 c1 a b:Nat} (h0:Kd.R (Kd.int .u32) 63 W base ok0 (.slice A0 (dg B32 a).length c0) (dg B32 a)) (h1:Kd.R (Kd.int .u32) 63 W base ok1 (.slice A1 (dg B32 b).length c1) (dg B32 b)) (k0:okD (dg B32 a)) (k1:okD (dg B32 b)) :
  Calls Try.prog 103 #[.slice A0 (dg B32 a).length c0,.slice A1 (dg B32 b).length c1] W fun e w'=>∃ v0_:Value,e=.returned (v0_)∧Kd.R (Kd.int .u32) 63 w' W.heap.size (fun _=>True) v0_ (dg B32 (a*b))∧Below W.heap.size W w':=by
 have:=mul_q A0 c0 (dg B32 a) A1 c1 (dg B32 b) W (Kd.R_reads' h0).2.2 (Kd.R_reads' h0).2.1 (Kd.R_reads' h1).2.2 (Kd.R_reads' h1).2.1 k0 k1
 rwa [zbX zbE,zbX zbE] at this
theorem add_d {W:World} {base:Nat} {ok0 ok1:Nat→Prop} {A0 A1:Option Addr} {c0 c1 a b:Nat} (h0:Kd.R (Kd.int .u32) 63 W base ok0 (.slice A0 (dg B32 a).length c0) (dg B32 a)) (h1:Kd.R (Kd.int .u32) 63 W base ok1 (.slice A1 (dg B32 b).length c1) (dg B32 b)) (k0:okD (dg B32 a)) (k1:okD (dg B32 b)) :
  Calls Try.prog 105 #[.slice A0 (dg B32 a).length c0,.slice A1 (dg B32 b).length c1] W fun e w'=>∃ v0_:Value,e=.returned (v0_)∧Kd.R (Kd.int .u32) 63 w' W.heap.size (fun _=>True) v0_ (dg B32 (a+b))∧Below W.heap.size W w' :=
 nat_Add.calls A0 c0 (dg B32 a) A1 c1 (dg B32 b) _ W (Kd.R_reads' h0).2.2 (Kd.R_reads' h0).2.1 (Kd.R_reads' h1).2.2 (Kd.R_reads' h1).2.1 (by rw [nat_Add.f,if_pos ⟨k0.okL,k1.okL⟩,zbX zbE,zbX zbE])
theorem sub_d {W:World} {base:Nat} {ok0 ok1:Nat→Prop} {A0 A1:Option Addr} {c0 c1 a b:Nat} (h0:Kd.R (Kd.int .u32) 63 W base ok0 (.slice A0 (dg B32 a).length c0) (dg B32 a)) (h1:Kd.R (Kd.int .u32) 63 W base ok1 (.slice A1 (dg B32 b).length c1) (dg B32 b)) (k0:okD (dg B32 a)) (k1:okD (dg B32 b)) :
  Calls Try.prog 106 #[.slice A0 (dg B32 a).length c0,.slice A1 (dg B32 b).length c1] W fun e w'=>∃ v0_:Value,e=.returned (.tuple #[v0_,.int .i64 (if a < b then 20 else 0)])∧Kd.R (Kd.int .u32) 63 w' W.heap.size (fun _=>True) v0_ (dg B32 (if a < b then 0 else a-b))∧Below W.heap.size W w':=by
 refine nat_Sub.calls A0 c0 (dg B32 a) A1 c1 (dg B32 b) _ _ W (Kd.R_reads' h0).2.2 (Kd.R_reads' h0).2.1 (Kd.R_reads' h1).2.2 (Kd.R_reads' h1).2.1 ?_
 rw [nat_Sub.f,if_pos ⟨k0.okL,k1.okL⟩,zbX zbE,zbX zbE]
 by_cases h:a < b
 ·
  rw [if_pos h,if_pos h,if_pos h,zb5]
 ·
  rw [if_neg h,if_neg h,if_neg h]
theorem made_d {W:World} {base g:Nat} {n:Bool} {ok0 ok1:Nat→Prop} {A0 A1:Option Addr} {c0 c1 a d:Nat} (hg:W.heap[g]? = some (.cells #[.slice A1 (dg B32 d).length c1] 23 (0,0))) (h0:Kd.R (Kd.int .u32) 63 W base ok0 (.slice A0 (dg B32 a).length c0) (dg B32 a)) (h1:Kd.R (Kd.int .u32) 63 W base ok1 (.slice A1 (dg B32 d).length c1) (dg B32 d)) (k0:okD (dg B32 a)) (k1:okD (dg B32 d)) (hz:d≠0) :
  Calls Try.prog 104 #[.bool n,.slice A0 (dg B32 a).length c0,.pointer (some ⟨g,0,none⟩)] W (zcN W (nrm n a d)):=by
 have:=made_q n A0 c0 (dg B32 a) A1 c1 (dg B32 d) g W hg (Kd.R_reads' h0).2.2 (Kd.R_reads' h0).2.1 (Kd.R_reads' h1).2.2 (Kd.R_reads' h1).2.1 k0 k1 (by rw [zbX zbE]; exact hz)
 rwa [zbX zbE,zbX zbE] at this
theorem fin_post {w W W':World} {g:Nat} {r:QN} {v1 v2:Value} {x y z:Value} (hbw:Below w.heap.size w W) (R1:Kd.R (Kd.int .u32) 63 W' W.heap.size (fun k_=>some k_≠v2.ownBlock) v1 (dg B32 r.2.1)) (R2:Kd.R (Kd.int .u32) 63 W' W.heap.size (fun k_=>some k_≠v1.ownBlock) v2 (dg B32 r.2.2)) (hB:Below W.heap.size W W')
  (hbox:W'.heap[g]? = some (.cells #[x,y,z] 25 (0,0))) (hg:w.heap.size≤g):zcN w r (.returned (.agg #[.bool r.1,v1,v2])) (store3 W' g (.bool r.1) v1 v2) :=
 ⟨v1,v2,rfl,zcC (Kd.R_lower R1 hbw.size) hbox _ _ _,zcC (Kd.R_lower R2 hbw.size) hbox _ _ _,zbU (zbx hbw hB) hg _ _ _⟩
theorem add_first {X Y:QN} (h:(X.1 == Y.1)=true):addQ X Y=nrm X.1 (X.2.1*Y.2.2+Y.2.1*X.2.2) (X.2.2*Y.2.2):=by
 unfold addQ
 rw [if_pos (by simpa using h)]
theorem add_second {X Y:QN} (h:(X.1 == Y.1)=false) (hlt:¬ X.2.1*Y.2.2 < Y.2.1*X.2.2):addQ X Y=nrm X.1 (X.2.1*Y.2.2-Y.2.1*X.2.2) (X.2.2*Y.2.2):=by
 unfold addQ
 rw [if_neg (by simpa using h),if_pos (by omega)]
theorem add_third {X Y:QN} (h:(X.1 == Y.1)=false) (hlt:X.2.1*Y.2.2 < Y.2.1*X.2.2):addQ X Y=nrm Y.1 (Y.2.1*X.2.2-X.2.1*Y.2.2) (X.2.2*Y.2.2):=by
 unfold addQ
 rw [if_neg (by simpa using h),if_neg (by omega)]
set_option maxHeartbeats 4000000 in
set_option maxRecDepth 100000 in
theorem sum_q (b:Bool) (n1:Bool) (A1:Option Addr) (c1:Nat) (p1:List Int) (A2:Option Addr) (c2:Nat) (q1:List Int) (n2:Bool) (A3:Option Addr) (c3:Nat) (p2:List Int) (A4:Option Addr) (c4:Nat) (q2:List Int) (w:World)
  (hr1:Kd.C (Kd.int .u32) w A1 p1.length p1) (hc1:p1.length≤c1) (hr2:Kd.C (Kd.int .u32) w A2 q1.length q1) (hc2:q1.length≤c2) (hr3:Kd.C (Kd.int .u32) w A3 p2.length p2) (hc3:p2.length≤c3) (hr4:Kd.C (Kd.int .u32) w A4 q2.length q2) (hc4:q2.length≤c4)
  (hp1:okS p1) (hq1:okS q1) (hp2:okS p2) (hq2:okS q2) :
  Calls Try.prog 76 #[.agg #[.bool n1,.slice A1 p1.length c1,.slice A2 q1.length c2],.agg #[.bool n2,.slice A3 p2.length c3,.slice A4 q2.length c4],.func (.func 77) #[.agg #[.bool b]] #[]] w
   (zcN w (addQ (nrm n1 (val B32 p1) (val B32 q1)) (if b then ngt (nrm n2 (val B32 p2) (val B32 q2)) else nrm n2 (val B32 p2) (val B32 q2)))):=by
 have hu25:=Try.underlying25
 have HNx:=Aside0.mk (fun (W:World) (hb:Below w.heap.size w W)=>norm_q n1 A1 c1 p1 A2 c2 q1 W (Kd.C_below hr1 hb) hc1 (Kd.C_below hr2 hb) hc2 hp1.okD hq1.okD)
 have HNy:=Aside0.mk (fun (W:World) (hb:Below w.heap.size w W)=>norm_q n2 A3 c3 p2 A4 c4 q2 W (Kd.C_below hr3 hb) hc3 (Kd.C_below hr4 hb) hc4 hp2.okD hq2.okD)
 have hXr:=nrm_red n1 (val B32 p1) (val B32 q1)
 have hXk:=okQ_nrm (n:=n1) hp1 hq1
 have hY0:=nrm_red n2 (val B32 p2) (val B32 q2)
 have hY0k:=okQ_nrm (n:=n2) hp2 hq2
 generalize nrm n1 (val B32 p1) (val B32 q1)=X at *
 generalize nrm n2 (val B32 p2) (val B32 q2)=Y0 at *
 have HYk:=Aside0.mk (And.intro (zcJ hY0k.1 (by decide)) (zcJ hY0k.2 (by decide)))
 have hYr:red (if b then ngt Y0 else Y0):=by split; exact ngt_red hY0; exact hY0
 have hYk:okQ (if b then ngt Y0 else Y0):=by split; exact okQ_ngt hY0k; exact hY0k
 obtain⟨Y,hY⟩:∃ Y,Y=(if b=true then ngt Y0 else Y0):=⟨_,rfl⟩
 have HY:=Aside0.mk hY
 rw [← hY] at hYr hYk ⊢
 have HL:=Aside0.mk (And.intro (zcJ hXk.1 (by decide)) (And.intro (zcJ hXk.2 (by decide)) (And.intro (zcJ hYk.1 (by decide)) (zcJ hYk.2 (by decide)))))
 have ma:=mul_len hXk.1 hYk.2
 have mb:=mul_len hYk.1 hXk.2
 have mdd:=mul_len hXk.2 hYk.2
 have hsub1:(dg B32 (X.2.1*Y.2.2-Y.2.1*X.2.2)).length≤274877906944:=Nat.le_trans (zb0 zbE (Nat.sub_le _ _)) ma
 have hsub2:(dg B32 (Y.2.1*X.2.2-X.2.1*Y.2.2)).length≤274877906944:=Nat.le_trans (zb0 zbE (Nat.sub_le _ _)) mb
 have hadd:(dg B32 (X.2.1*Y.2.2+Y.2.1*X.2.2)).length≤274877906945:=by
  have:=dg_length_add zbE (m:=X.2.1*Y.2.2) (n:=Y.2.1*X.2.2)
  omega
 have HM:=Aside0.mk (And.intro (zcJ ma (by decide)) (And.intro (zcJ mb (by decide)) (And.intro (zcJ mdd (by decide)) (And.intro (zcJ hsub1 (by decide)) (And.intro (zcJ hsub2 (by decide)) (Nat.ne_of_gt (Nat.mul_pos hXr.den hYr.den)))))))
 have HM6:=Aside0.mk (zcJ hadd (by decide))
 clear ma mb mdd hsub1 hsub2 hadd
 have HK:=Aside0.mk (And.intro hXr (And.intro hXk (And.intro hYr hYk)))
 clear hY hYr hYk hXr hXk hY0k hr1 hr2 hr3 hr4 hp1 hq1 hp2 hq2
 go_enter Try.func76,Try.ntmps76
 go_wp2_with fail
 have HA:=Aside0.mk (And.intro (alloc3_old w (.cells #[.bool n1,.slice A1 p1.length c1,.slice A2 q1.length c2] 25) (.cells #[.bool n2,.slice A3 p2.length c3,.slice A4 q2.length c4] 25) (.cells #[.bool false,.slice none 0 0,.slice none 0 0] 25)) (And.intro (alloc3_mid w (.cells #[.bool n1,.slice A1 p1.length c1,.slice A2 q1.length c2] 25) (.cells #[.bool n2,.slice A3 p2.length c3,.slice A4 q2.length c4] 25) (.cells #[.bool false,.slice none 0 0,.slice none 0 0] 25)) (And.intro (alloc3_new w (.cells #[.bool n1,.slice A1 p1.length c1,.slice A2 q1.length c2] 25) (.cells #[.bool n2,.slice A3 p2.length c3,.slice A4 q2.length c4] 25) (.cells #[.bool false,.slice none 0 0,.slice none 0 0] 25)) (zco w (.cells #[.bool n1,.slice A1 p1.length c1,.slice A2 q1.length c2] 25) (.cells #[.bool n2,.slice A3 p2.length c3,.slice A4 q2.length c4] 25) (.cells #[.bool false,.slice none 0 0,.slice none 0 0] 25)))))
 generalize (((w.alloc (.cells #[.bool n1,.slice A1 p1.length c1,.slice A2 q1.length c2] 25)).alloc (.cells #[.bool n2,.slice A3 p2.length c3,.slice A4 q2.length c4] 25)).alloc (.cells #[.bool false,.slice none 0 0,.slice none 0 0] 25))=W3 at HA ⊢
 refine zcM (n:=8) (S:=(fun w'=>w'.cell? ⟨w.heap.size,0,none⟩=some (.bool n1)∧w'.cell? ⟨w.heap.size,1,none⟩=some (.slice A1 p1.length c1)∧w'.cell? ⟨w.heap.size,2,none⟩=some (.slice A2 q1.length c2)∧w'.cell? ⟨w.heap.size+1,0,none⟩=some (.bool n2)∧w'.cell? ⟨w.heap.size+1,1,none⟩=some (.slice A3 p2.length c3)∧w'.cell? ⟨w.heap.size+1,2,none⟩=some (.slice A4 q2.length c4))) (ds:=[6,7]) #[zf,zf,zf,zf,zf,zf,zf,zf] (by kernel_rfl) rfl rfl ⟨(zbv (zbA HA.out.1) 0).trans rfl,(zbv (zbA HA.out.1) 1).trans rfl,(zbv (zbA HA.out.1) 2).trans rfl,(zbv (zbA HA.out.2.1) 0).trans rfl,(zbv (zbA HA.out.2.1) 1).trans rfl,(zbv (zbA HA.out.2.1) 2).trans rfl⟩ (fun hHeld=>?_)
 have HA1:=Aside0.mk (And.intro (zbA HA.out.1) (And.intro (zbA HA.out.2.1) (And.intro (zbA HA.out.2.2.1) (zbu HA.out.2.2.2))))
 clear HA
 generalize W3.drew=W4 at HA1 hHeld ⊢
 refine zbS (i:=2) (N:=some 17) (v:=?_) (a':=?_) #[zf,zf,zt,zf,zf,zf,zf,zf] rfl rfl (by kernel_rfl) (fun _ _ _ h=>h) (Or.inl ⟨by rfl,?_⟩) ?_ ?_
 rotate_left
 ·
  intro w'
  go_simp
  with_reducible rfl
 rotate_left
 ·
  simp only [Act.put,zA1,zA2,zA3,zbI,zbJ]
  rfl
 refine take_ (i:=0) (N:=some 15) (v:=?_) (a':=?_) #[zt,zf,zt,zf,zf,zf,zf,zf] rfl rfl (by kernel_rfl) (fun _ _ _ h=>h) (Or.inl ⟨by rfl,?_⟩) hHeld ?_ ?_
 rotate_left
 ·
  rintro w' ⟨s0,s1,s2,s3,s4,s5⟩
  go_simp
  with_reducible rfl
 rotate_left
 ·
  simp only [Act.put,zA1,zA2,zA3,zbI,zbJ]
  rfl
 refine take_ (i:=3) (N:=some 18) (v:=?_) (a':=?_) #[zt,zf,zt,zt,zf,zf,zf,zf] rfl rfl (by kernel_rfl) (fun _ _ _ h=>h) (Or.inl ⟨by rfl,?_⟩) hHeld ?_ ?_
 rotate_left
 ·
  rintro w' ⟨s0,s1,s2,s3,s4,s5⟩
  go_simp
  with_reducible rfl
 rotate_left
 ·
  simp only [Act.put,zA1,zA2,zA3,zbI,zbJ]
  rfl
 refine zct (i:=1) (N:=some 16) #[zt,zt,zt,zt,zf,zf,zf,zf] rfl rfl (by kernel_rfl) (by decide) (fun K hK=>?_)
 refine zb8 Try.func16 (by kernel_rfl) rfl #[.agg #[.bool n1,.slice A1 p1.length c1,.slice A2 q1.length c2]] (by rfl) rfl rfl (by (try simp only [List.map_toArray,List.map_cons,List.map_nil]); first | done | rfl) ?_
 refine(HNx.out W4 HA1.out.2.2.2).mono ?_
 rintro e W5 hp
 obtain⟨vx,rfl,hRT,hB⟩:=hp.rt
 refine⟨_,rfl,?_⟩
 have HA2:=Aside0.mk (And.intro (zbC HA1.out.1 hB) (And.intro (zbC HA1.out.2.1 hB) (And.intro (zbC HA1.out.2.2.1 hB) (zbx HA1.out.2.2.2 hB))))
 have HX2:=Aside0.mk (hRT.lower HA1.out.2.2.2.size)
 clear hp hRT hB HA1
 refine hK.out _ _ ⟨(zbv HA2.out.1 0).trans rfl,(zbv HA2.out.1 1).trans rfl,(zbv HA2.out.1 2).trans rfl,(zbv HA2.out.2.1 0).trans rfl,(zbv HA2.out.2.1 1).trans rfl,(zbv HA2.out.2.1 2).trans rfl⟩ (fun hHeld=>?_)
 clear hK K
 refine zbR (a':=?_) ?_ ?_
 rotate_left
 ·
  show Act.put _ (some 16) _=_
  simp only [Act.put,zA1,zA2,zA3,zbI,zbJ]
  rfl
 refine zct (i:=4) (N:=some 19) #[zt,zt,zt,zt,zt,zf,zf,zf] rfl rfl (by kernel_rfl) (by decide) (fun K hK=>?_)
 refine zb8 Try.func16 (by kernel_rfl) rfl #[.agg #[.bool n2,.slice A3 p2.length c3,.slice A4 q2.length c4]] (by rfl) rfl rfl (by (try simp only [List.map_toArray,List.map_cons,List.map_nil]); first | done | rfl) ?_
 refine(HNy.out W5 HA2.out.2.2.2).mono ?_
 rintro e W6 hp
 obtain⟨vy,rfl,hRT,hB⟩:=hp.rt
 refine⟨_,rfl,?_⟩
 have HA3:=Aside0.mk (And.intro (zbC HA2.out.1 hB) (And.intro (zbC HA2.out.2.1 hB) (And.intro (zbC HA2.out.2.2.1 hB) (zbx HA2.out.2.2.2 hB))))
 have HX3:=Aside0.mk (HX2.out.below hB)
 have HY3:=Aside0.mk (hRT.lower HA2.out.2.2.2.size)
 clear hp hRT hB HA2 HX2
 refine hK.out _ _ ⟨(zbv HA3.out.1 0).trans rfl,(zbv HA3.out.1 1).trans rfl,(zbv HA3.out.1 2).trans rfl,(zbv HA3.out.2.1 0).trans rfl,(zbv HA3.out.2.1 1).trans rfl,(zbv HA3.out.2.1 2).trans rfl⟩ (fun hHeld=>?_)
 clear hK K
 refine zbR (a':=?_) ?_ ?_
 rotate_left
 ·
  show Act.put _ (some 19) _=_
  simp only [Act.put,zA1,zA2,zA3,zbI,zbJ]
  rfl
 refine zct (i:=5) (N:=some 20) #[zt,zt,zt,zt,zt,zt,zf,zf] rfl rfl (by kernel_rfl) (by decide) (fun K hK=>?_)
 refine call_ 77 #[.agg #[.bool b],vy] (by rfl) rfl ?_ ?_
 ·
  have he:=enters_ Try.func77 (by kernel_rfl) rfl #[.agg #[.bool b],vy] W6
  unfold execOp
  simp [resolve,Deferred.ofValue,invoke,Act.eval,he]
 refine(take_q b W6 w.heap.size vy Y0 HY3.out hY0 HA3.out.2.2.2.size HYk.out.1 HYk.out.2).mono ?_
 rintro e W7 ⟨vz,rfl,hRT,hB⟩
 refine⟨_,rfl,?_⟩
 rw [← HY.out] at hRT
 have HA4:=Aside0.mk (And.intro (zbC HA3.out.1 hB) (And.intro (zbC HA3.out.2.1 hB) (And.intro (zbC HA3.out.2.2.1 hB) (zbx HA3.out.2.2.2 hB))))
 have HX4:=Aside0.mk (HX3.out.below hB)
 have HY4:=Aside0.mk hRT
 clear hRT hB HA3 HX3 HY3
 obtain⟨B1,d1,B2,d2,rfl,S1,S2⟩:=HX4.out.args
 obtain⟨B3,d3,B4,d4,rfl,S3,S4⟩:=HY4.out.args
 clear S1 S2 S3 S4
 refine hK.out _ _ ⟨(zbv HA4.out.1 0).trans rfl,(zbv HA4.out.1 1).trans rfl,(zbv HA4.out.1 2).trans rfl,(zbv HA4.out.2.1 0).trans rfl,(zbv HA4.out.2.1 1).trans rfl,(zbv HA4.out.2.1 2).trans rfl⟩ (fun hHeld=>?_)
 clear hK K
 refine zbR (a':=?_) ?_ ?_
 rotate_left
 ·
  show Act.put _ (some 20) _=_
  simp only [Act.put,zA1,zA2,zA3,zbI,zbJ]
  rfl
 refine last_ (i:=6) (N:=none) #[zt,zt,zt,zt,zt,zt,zt,zf] rfl rfl (by kernel_rfl) (by decide) (fun K hK=>?_)
 obtain⟨⟨x0,x1,x2⟩,y0,y1,y2⟩:=zbK HA4.out.1
 obtain⟨⟨x3,x4,x5⟩,y3,y4,y5⟩:=zbK HA4.out.2.1
 refine skip_ (w1:=?_) (by rfl) rfl ?_ ?_
 rotate_left
 ·
  go_simp
  rfl
 refine hK.out _ _ ?_
 clear hK K
 refine last_ (i:=7) (N:=none) #[zt,zt,zt,zt,zt,zt,zt,zt] rfl rfl (by kernel_rfl) (by decide) (fun K hK=>?_)
 refine skip_ (w1:=?_) (by rfl) rfl ?_ ?_
 rotate_left
 ·
  go_simp
  rfl
 refine hK.out _ _ ?_
 clear hK K
 refine done_ (by kernel_rfl) ?_
 have HS:=Aside0.mk (two_boxes HA4.out.1 HA4.out.2.1 HA4.out.2.2.1 HA4.out.2.2.2 HX4.out HY4.out)
 clear x0 x1 x2 y0 y1 y2 x3 x4 x5 y3 y4 y5 HA4 HX4 HY4
 rw [store3_eq,store3_eq]
 generalize store3 (store3 W7 w.heap.size (.bool X.1) (.slice B1 (dg B32 X.2.1).length d1) (.slice B2 (dg B32 X.2.2).length d2)) (w.heap.size+1) (.bool Y.1) (.slice B3 (dg B32 Y.2.1).length d3) (.slice B4 (dg B32 Y.2.2).length d4)=W8 at HS ⊢
 go_wp2_with fail
 refine zcM (n:=12) (S:=(fun w'=>w'.cell? ⟨w.heap.size,0,none⟩=some (.bool X.1)∧w'.cell? ⟨w.heap.size,1,none⟩=some (.slice B1 (dg B32 X.2.1).length d1)∧w'.cell? ⟨w.heap.size,2,none⟩=some (.slice B2 (dg B32 X.2.2).length d2)∧w'.cell? ⟨w.heap.size+1,0,none⟩=some (.bool Y.1)∧w'.cell? ⟨w.heap.size+1,1,none⟩=some (.slice B3 (dg B32 Y.2.1).length d3)∧w'.cell? ⟨w.heap.size+1,2,none⟩=some (.slice B4 (dg B32 Y.2.2).length d4))) (ds:=[]) #[zf,zf,zf,zf,zf,zf,zf,zf,zf,zf,zf,zf] (by kernel_rfl) rfl rfl ⟨(zbv (zbA HS.out.b3) 0).trans rfl,(zbv (zbA HS.out.b3) 1).trans rfl,(zbv (zbA HS.out.b3) 2).trans rfl,(zbv (zbA HS.out.b4) 0).trans rfl,(zbv (zbA HS.out.b4) 1).trans rfl,(zbv (zbA HS.out.b4) 2).trans rfl⟩ (fun hHeld=>?_)
 have HS1:=Aside0.mk (HS.out.below (Below.refl _ _).drew)
 clear HS
 generalize W8.drew=W9 at HS1 hHeld ⊢
 refine zbS (i:=0) (N:=some 21) (v:=?_) (a':=?_) #[zt,zf,zf,zf,zf,zf,zf,zf,zf,zf,zf,zf] rfl rfl (by kernel_rfl) (fun _ _ _ h=>h) (Or.inl ⟨by rfl,?_⟩) ?_ ?_
 rotate_left
 ·
  intro w'
  go_simp
  with_reducible rfl
 rotate_left
 ·
  simp only [Act.put,zA1,zA2,zA3,zbI,zbJ]
  rfl
 refine zbS (i:=2) (N:=some 23) (v:=?_) (a':=?_) #[zt,zf,zt,zf,zf,zf,zf,zf,zf,zf,zf,zf] rfl rfl (by kernel_rfl) (fun _ _ _ h=>h) (Or.inl ⟨by rfl,?_⟩) ?_ ?_
 rotate_left
 ·
  intro w'
  go_simp
  with_reducible rfl
 rotate_left
 ·
  simp only [Act.put,zA1,zA2,zA3,zbI,zbJ]
  rfl
 refine zbS (i:=5) (N:=some 26) (v:=?_) (a':=?_) #[zt,zf,zt,zf,zf,zt,zf,zf,zf,zf,zf,zf] rfl rfl (by kernel_rfl) (fun _ _ _ h=>h) (Or.inl ⟨by rfl,?_⟩) ?_ ?_
 rotate_left
 ·
  intro w'
  go_simp
  with_reducible rfl
 rotate_left
 ·
  simp only [Act.put,zA1,zA2,zA3,zbI,zbJ]
  rfl
 refine zbS (i:=7) (N:=some 28) (v:=?_) (a':=?_) #[zt,zf,zt,zf,zf,zt,zf,zt,zf,zf,zf,zf] rfl rfl (by kernel_rfl) (fun _ _ _ h=>h) (Or.inl ⟨by rfl,?_⟩) ?_ ?_
 rotate_left
 ·
  intro w'
  go_simp
  with_reducible rfl
 rotate_left
 ·
  simp only [Act.put,zA1,zA2,zA3,zbI,zbJ]
  rfl
 refine take_ (i:=1) (N:=some 22) (v:=?_) (a':=?_) #[zt,zt,zt,zf,zf,zt,zf,zt,zf,zf,zf,zf] rfl rfl (by kernel_rfl) (fun _ _ _ h=>h) (Or.inl ⟨by rfl,?_⟩) hHeld ?_ ?_
 rotate_left
 ·
  rintro w' ⟨s0,s1,s2,s3,s4,s5⟩
  go_simp
  with_reducible rfl
 rotate_left
 ·
  simp only [Act.put,zA1,zA2,zA3,zbI,zbJ]
  rfl
 refine take_ (i:=3) (N:=some 24) (v:=?_) (a':=?_) #[zt,zt,zt,zt,zf,zt,zf,zt,zf,zf,zf,zf] rfl rfl (by kernel_rfl) (fun _ _ _ h=>h) (Or.inl ⟨by rfl,?_⟩) hHeld ?_ ?_
 rotate_left
 ·
  rintro w' ⟨s0,s1,s2,s3,s4,s5⟩
  go_simp
  with_reducible rfl
 rotate_left
 ·
  simp only [Act.put,zA1,zA2,zA3,zbI,zbJ]
  rfl
 refine take_ (i:=6) (N:=some 27) (v:=?_) (a':=?_) #[zt,zt,zt,zt,zf,zt,zt,zt,zf,zf,zf,zf] rfl rfl (by kernel_rfl) (fun _ _ _ h=>h) (Or.inl ⟨by rfl,?_⟩) hHeld ?_ ?_
 rotate_left
 ·
  rintro w' ⟨s0,s1,s2,s3,s4,s5⟩
  go_simp
  with_reducible rfl
 rotate_left
 ·
  simp only [Act.put,zA1,zA2,zA3,zbI,zbJ]
  rfl
 refine take_ (i:=8) (N:=some 29) (v:=?_) (a':=?_) #[zt,zt,zt,zt,zf,zt,zt,zt,zt,zf,zf,zf] rfl rfl (by kernel_rfl) (fun _ _ _ h=>h) (Or.inl ⟨by rfl,?_⟩) hHeld ?_ ?_
 rotate_left
 ·
  rintro w' ⟨s0,s1,s2,s3,s4,s5⟩
  go_simp
  with_reducible rfl
 rotate_left
 ·
  simp only [Act.put,zA1,zA2,zA3,zbI,zbJ]
  rfl
 refine zct (i:=4) (N:=some 25) #[zt,zt,zt,zt,zt,zt,zt,zt,zt,zf,zf,zf] rfl rfl (by kernel_rfl) (by decide) (fun K hK=>?_)
 refine zb8 Try.func103 (by kernel_rfl) rfl #[.slice B1 (dg B32 X.2.1).length d1,.slice B4 (dg B32 Y.2.2).length d4] (by rfl) rfl rfl (by (try simp only [List.map_toArray,List.map_cons,List.map_nil]); first | done | rfl) ?_
 refine(mul_d HS1.out.x1 HS1.out.y2 HL.out.1 HL.out.2.2.2).mono ?_
 rintro e W10 ⟨va,rfl,hR,hB⟩
 refine⟨_,rfl,?_⟩
 have HS2:=Aside0.mk (HS1.out.below hB)
 have HRa:=Aside0.mk (Kd.R_lower hR HS1.out.bw.size)
 obtain⟨Aa,ca,rfl⟩:=Kd.R_slice hR
 clear hR hB HS1
 refine hK.out _ _ ⟨(zbv HS2.out.b3 0).trans rfl,(zbv HS2.out.b3 1).trans rfl,(zbv HS2.out.b3 2).trans rfl,(zbv HS2.out.b4 0).trans rfl,(zbv HS2.out.b4 1).trans rfl,(zbv HS2.out.b4 2).trans rfl⟩ (fun hHeld=>?_)
 clear hK K
 refine zbR (a':=?_) ?_ ?_
 rotate_left
 ·
  show Act.put _ (some 25) _=_
  simp only [Act.put,zA1,zA2,zA3,zbI,zbJ]
  rfl
 refine zct (i:=9) (N:=some 30) #[zt,zt,zt,zt,zt,zt,zt,zt,zt,zt,zf,zf] rfl rfl (by kernel_rfl) (by decide) (fun K hK=>?_)
 refine zb8 Try.func103 (by kernel_rfl) rfl #[.slice B3 (dg B32 Y.2.1).length d3,.slice B2 (dg B32 X.2.2).length d2] (by rfl) rfl rfl (by (try simp only [List.map_toArray,List.map_cons,List.map_nil]); first | done | rfl) ?_
 refine(mul_d HS2.out.y1 HS2.out.x2 HL.out.2.2.1 HL.out.2.1).mono ?_
 rintro e W11 ⟨vb,rfl,hR,hB⟩
 refine⟨_,rfl,?_⟩
 have HS3:=Aside0.mk (HS2.out.below hB)
 have HRa3:=Aside0.mk (Kd.R_below HRa.out hB)
 have HRb3:=Aside0.mk (Kd.R_lower hR HS2.out.bw.size)
 obtain⟨Ab,cb,rfl⟩:=Kd.R_slice hR
 clear hR hB HS2 HRa
 refine hK.out _ _ ⟨(zbv HS3.out.b3 0).trans rfl,(zbv HS3.out.b3 1).trans rfl,(zbv HS3.out.b3 2).trans rfl,(zbv HS3.out.b4 0).trans rfl,(zbv HS3.out.b4 1).trans rfl,(zbv HS3.out.b4 2).trans rfl⟩ (fun hHeld=>?_)
 clear hK K
 refine zbR (a':=?_) ?_ ?_
 rotate_left
 ·
  show Act.put _ (some 30) _=_
  simp only [Act.put,zA1,zA2,zA3,zbI,zbJ]
  rfl
 refine zbS (i:=10) (N:=some 7) (v:=?_) (a':=?_) #[zt,zt,zt,zt,zt,zt,zt,zt,zt,zt,zt,zf] rfl rfl (by kernel_rfl) (fun _ _ _ h=>h) (Or.inl ⟨by rfl,?_⟩) ?_ ?_
 rotate_left
 ·
  intro w'
  go_simp
  with_reducible rfl
 rotate_left
 ·
  simp only [Act.put,zA1,zA2,zA3,zbI,zbJ]
  rfl
 refine zbS (i:=11) (N:=some 8) (v:=?_) (a':=?_) #[zt,zt,zt,zt,zt,zt,zt,zt,zt,zt,zt,zt] rfl rfl (by kernel_rfl) (fun _ _ _ h=>h) (Or.inl ⟨by rfl,?_⟩) ?_ ?_
 rotate_left
 ·
  intro w'
  go_simp
  with_reducible rfl
 rotate_left
 ·
  simp only [Act.put,zA1,zA2,zA3,zbI,zbJ]
  rfl
 refine done_ (by kernel_rfl) ?_
 clear hHeld
 obtain⟨⟨x0,x1,x2⟩,y0,y1,y2⟩:=zbK HS3.out.b3
 obtain⟨⟨x3,x4,x5⟩,y3,y4,y5⟩:=zbK HS3.out.b4
 go_wp2_with fail
 clear x0 x1 x2 y0 y1 y2 x3 x4 x5 y3 y4 y5
 refine(mul_d HS3.out.x2 HS3.out.y2 HL.out.2.1 HL.out.2.2.2).mono ?_
 rintro e W12 ⟨vd,rfl,hR,hB⟩
 have HS4:=Aside0.mk (HS3.out.below hB)
 have HRa4:=Aside0.mk (Kd.R_below HRa3.out hB)
 have HRb4:=Aside0.mk (Kd.R_below HRb3.out hB)
 have HRd4:=Aside0.mk (Kd.R_lower hR HS3.out.bw.size)
 obtain⟨Ad,cd,rfl⟩:=Kd.R_slice hR
 clear hR hB HS3 HRa3 HRb3
 have hl3:w.heap.size < W12.heap.size:=zbV HS4.out.b3
 have hl4:w.heap.size+1 < W12.heap.size:=zbV HS4.out.b4
 have hl6:w.heap.size+1+1 < W12.heap.size:=zbV HS4.out.b6
 obtain⟨⟨x0,x1,x2⟩,y0,y1,y2⟩:=zbK HS4.out.b3
 obtain⟨⟨x3,x4,x5⟩,y3,y4,y5⟩:=zbK HS4.out.b4
 cases hxy:(X.1 == Y.1)
 ·
  go_wp2_with fail
  have HS5:=Aside0.mk (HS4.out.below (zbt (Below.refl _ W12) (.cells #[.slice Ad (dg B32 (X.2.2*Y.2.2)).length cd] 23)))
  have HRa5:=Aside0.mk (Kd.R_below HRa4.out (zbt (Below.refl _ W12) (.cells #[.slice Ad (dg B32 (X.2.2*Y.2.2)).length cd] 23)))
  have HRb5:=Aside0.mk (Kd.R_below HRb4.out (zbt (Below.refl _ W12) (.cells #[.slice Ad (dg B32 (X.2.2*Y.2.2)).length cd] 23)))
  have HRd5:=Aside0.mk (Kd.R_below HRd4.out (zbt (Below.refl _ W12) (.cells #[.slice Ad (dg B32 (X.2.2*Y.2.2)).length cd] 23)))
  have HG5:=Aside0.mk (zb3 W12 (.cells #[.slice Ad (dg B32 (X.2.2*Y.2.2)).length cd] 23))
  clear x0 x1 x2 y0 y1 y2 x3 x4 x5 y3 y4 y5
  generalize W12.alloc (.cells #[.slice Ad (dg B32 (X.2.2*Y.2.2)).length cd] 23)=W13 at HS5 HRa5 HRb5 HRd5 HG5 ⊢
  clear HS4 HRa4 HRb4 HRd4 hl3 hl4 hl6
  refine(sub_d HRa5.out HRb5.out HM.out.1 HM.out.2.1).mono ?_
  rintro e W14 ⟨vs,rfl,hR,hB⟩
  have HS6:=Aside0.mk (HS5.out.below hB)
  have HRa6:=Aside0.mk (Kd.R_below HRa5.out hB)
  have HRb6:=Aside0.mk (Kd.R_below HRb5.out hB)
  have HRd6:=Aside0.mk (Kd.R_below HRd5.out hB)
  have HG6:=Aside0.mk (zbC HG5.out hB)
  have HRs6:=Aside0.mk (Kd.R_lower hR HS5.out.bw.size)
  obtain⟨As,cs,rfl⟩:=Kd.R_slice hR
  clear hR hB HS5 HRa5 HRb5 HRd5 HG5
  obtain⟨⟨x0,x1,x2⟩,y0,y1,y2⟩:=zbK HS6.out.b3
  obtain⟨⟨x3,x4,x5⟩,y3,y4,y5⟩:=zbK HS6.out.b4
  obtain⟨⟨x6,x7,x8⟩,y6,y7,y8⟩:=zbK HS6.out.b6
  by_cases hlt:X.2.1*Y.2.2 < Y.2.1*X.2.2
  ·
   have hlt':=Aside0.mk hlt
   simp only [if_pos hlt] at HRs6 ⊢
   clear hlt
   go_wp2_with fail
   refine(sub_d HRb6.out HRa6.out HM.out.2.1 HM.out.1).mono ?_
   rintro e W15 ⟨vt,rfl,hR,hB⟩
   have e1:¬ (Y.2.1*X.2.2 < X.2.1*Y.2.2):=by have:=hlt'.out; omega
   rw [if_neg e1] at hR
   simp only [if_neg e1]
   clear e1
   have HS7:=Aside0.mk (HS6.out.below hB)
   have HRd7:=Aside0.mk (Kd.R_below HRd6.out hB)
   have HG7:=Aside0.mk (zbC HG6.out hB)
   have HRt7:=Aside0.mk (Kd.R_lower hR HS6.out.bw.size)
   obtain⟨At,ct,rfl⟩:=Kd.R_slice hR
   clear hR hB HS6 HRa6 HRb6 HRd6 HG6
   clear x0 x1 x2 y0 y1 y2 x3 x4 x5 y3 y4 y5 x6 x7 x8 y6 y7 y8
   obtain⟨⟨x0,x1,x2⟩,y0,y1,y2⟩:=zbK HS7.out.b3
   obtain⟨⟨x3,x4,x5⟩,y3,y4,y5⟩:=zbK HS7.out.b4
   obtain⟨⟨x6,x7,x8⟩,y6,y7,y8⟩:=zbK HS7.out.b6
   go_wp2_with fail
   refine(made_d (n:=Y.1) HG7.out HRt7.out HRd7.out HM.out.2.2.2.2.1 HM.out.2.2.1 HM.out.2.2.2.2.2).mono ?_
   rintro e W16 ⟨v1,v2,rfl,R1,R2,hB⟩
   have HS8:=Aside0.mk (HS7.out.below hB)
   obtain⟨D1,e1,rfl⟩:=Kd.R_slice R1
   obtain⟨D2,e2,rfl⟩:=Kd.R_slice R2
   have HF:=Aside0.mk (fin_post HS7.out.bw R1 R2 hB HS8.out.b6 (by omega))
   clear R1 R2 hB
   clear x0 x1 x2 y0 y1 y2 x3 x4 x5 y3 y4 y5 x6 x7 x8 y6 y7 y8
   obtain⟨⟨x0,x1,x2⟩,y0,y1,y2⟩:=zbK HS8.out.b3
   obtain⟨⟨x3,x4,x5⟩,y3,y4,y5⟩:=zbK HS8.out.b4
   obtain⟨⟨x6,x7,x8⟩,y6,y7,y8⟩:=zbK HS8.out.b6
   go_wp2
   refine bodyPost_ret (results_cell_row rfl _ _ (w.heap.size+1+1) 25 _ (0,0) _ rfl (zb1 HS8.out.b6 _ _ _) Try.underlying25 rfl (by kernel_rfl)) rfl ?_
   rw [add_third hxy hlt'.out]
   exact HF.out
  ·
   have hlt':=Aside0.mk hlt
   simp only [if_neg hlt] at HRs6 ⊢
   clear hlt
   go_wp2_with fail
   refine(made_d (n:=X.1) HG6.out HRs6.out HRd6.out HM.out.2.2.2.1 HM.out.2.2.1 HM.out.2.2.2.2.2).mono ?_
   rintro e W16 ⟨v1,v2,rfl,R1,R2,hB⟩
   have HS8:=Aside0.mk (HS6.out.below hB)
   obtain⟨D1,e1,rfl⟩:=Kd.R_slice R1
   obtain⟨D2,e2,rfl⟩:=Kd.R_slice R2
   have HF:=Aside0.mk (fin_post HS6.out.bw R1 R2 hB HS8.out.b6 (by omega))
   clear R1 R2 hB
   clear x0 x1 x2 y0 y1 y2 x3 x4 x5 y3 y4 y5 x6 x7 x8 y6 y7 y8
   obtain⟨⟨x0,x1,x2⟩,y0,y1,y2⟩:=zbK HS8.out.b3
   obtain⟨⟨x3,x4,x5⟩,y3,y4,y5⟩:=zbK HS8.out.b4
   obtain⟨⟨x6,x7,x8⟩,y6,y7,y8⟩:=zbK HS8.out.b6
   go_wp2
   refine bodyPost_ret (results_cell_row rfl _ _ (w.heap.size+1+1) 25 _ (0,0) _ rfl (zb1 HS8.out.b6 _ _ _) Try.underlying25 rfl (by kernel_rfl)) rfl ?_
   rw [add_second hxy hlt'.out]
   exact HF.out
 ·
  go_wp2_with fail
  have HS5:=Aside0.mk (HS4.out.below (zbt (Below.refl _ W12) (.cells #[.slice Ad (dg B32 (X.2.2*Y.2.2)).length cd] 23)))
  have HRa5:=Aside0.mk (Kd.R_below HRa4.out (zbt (Below.refl _ W12) (.cells #[.slice Ad (dg B32 (X.2.2*Y.2.2)).length cd] 23)))
  have HRb5:=Aside0.mk (Kd.R_below HRb4.out (zbt (Below.refl _ W12) (.cells #[.slice Ad (dg B32 (X.2.2*Y.2.2)).length cd] 23)))
  have HRd5:=Aside0.mk (Kd.R_below HRd4.out (zbt (Below.refl _ W12) (.cells #[.slice Ad (dg B32 (X.2.2*Y.2.2)).length cd] 23)))
  have HG5:=Aside0.mk (zb3 W12 (.cells #[.slice Ad (dg B32 (X.2.2*Y.2.2)).length cd] 23))
  clear x0 x1 x2 y0 y1 y2 x3 x4 x5 y3 y4 y5
  generalize W12.alloc (.cells #[.slice Ad (dg B32 (X.2.2*Y.2.2)).length cd] 23)=W13 at HS5 HRa5 HRb5 HRd5 HG5 ⊢
  clear HS4 HRa4 HRb4 HRd4 hl3 hl4 hl6
  refine zcM (n:=8) (S:=(fun w'=>w'.cell? ⟨w.heap.size,0,none⟩=some (.bool X.1)∧w'.cell? ⟨w.heap.size,1,none⟩=some (.slice B1 (dg B32 X.2.1).length d1)∧w'.cell? ⟨w.heap.size,2,none⟩=some (.slice B2 (dg B32 X.2.2).length d2)∧w'.cell? ⟨w.heap.size+1,0,none⟩=some (.bool Y.1)∧w'.cell? ⟨w.heap.size+1,1,none⟩=some (.slice B3 (dg B32 Y.2.1).length d3)∧w'.cell? ⟨w.heap.size+1,2,none⟩=some (.slice B4 (dg B32 Y.2.2).length d4))) (ds:=[7]) #[zf,zf,zf,zf,zf,zf,zf,zf] (by kernel_rfl) rfl rfl ⟨(zbv (zbA HS5.out.b3) 0).trans rfl,(zbv (zbA HS5.out.b3) 1).trans rfl,(zbv (zbA HS5.out.b3) 2).trans rfl,(zbv (zbA HS5.out.b4) 0).trans rfl,(zbv (zbA HS5.out.b4) 1).trans rfl,(zbv (zbA HS5.out.b4) 2).trans rfl⟩ (fun hHeld=>?_)
  have HS6:=Aside0.mk (HS5.out.below (Below.refl _ _).drew)
  have HRa6:=Aside0.mk (Kd.R_drew HRa5.out)
  have HRb6:=Aside0.mk (Kd.R_drew HRb5.out)
  have HRd6:=Aside0.mk (Kd.R_drew HRd5.out)
  have HG6:=Aside0.mk (zbA HG5.out)
  clear HS5 HRa5 HRb5 HRd5 HG5
  generalize W13.drew=W14 at HS6 HRa6 HRb6 HRd6 HG6 hHeld ⊢
  refine zbS (i:=0) (N:=some 42) (v:=?_) (a':=?_) #[zt,zf,zf,zf,zf,zf,zf,zf] rfl rfl (by kernel_rfl) (fun _ _ _ h=>h) (Or.inl ⟨by rfl,?_⟩) ?_ ?_
  rotate_left
  ·
   intro w'
   go_simp
   with_reducible rfl
  rotate_left
  ·
   simp only [Act.put,zA1,zA2,zA3,zbI,zbJ]
   rfl
  refine zbS (i:=1) (N:=some 43) (v:=?_) (a':=?_) #[zt,zt,zf,zf,zf,zf,zf,zf] rfl rfl (by kernel_rfl) (fun _ _ _ h=>h) (Or.inl ⟨by rfl,?_⟩) ?_ ?_
  rotate_left
  ·
   intro w'
   go_simp
   with_reducible rfl
  rotate_left
  ·
   simp only [Act.put,zA1,zA2,zA3,zbI,zbJ]
   rfl
  refine zbS (i:=3) (N:=some 45) (v:=?_) (a':=?_) #[zt,zt,zf,zt,zf,zf,zf,zf] rfl rfl (by kernel_rfl) (fun _ _ _ h=>h) (Or.inl ⟨by rfl,?_⟩) ?_ ?_
  rotate_left
  ·
   intro w'
   go_simp
   with_reducible rfl
  rotate_left
  ·
   simp only [Act.put,zA1,zA2,zA3,zbI,zbJ]
   rfl
  refine zbS (i:=4) (N:=some 46) (v:=?_) (a':=?_) #[zt,zt,zf,zt,zt,zf,zf,zf] rfl rfl (by kernel_rfl) (fun _ _ _ h=>h) (Or.inl ⟨by rfl,?_⟩) ?_ ?_
  rotate_left
  ·
   intro w'
   go_simp
   with_reducible rfl
  rotate_left
  ·
   simp only [Act.put,zA1,zA2,zA3,zbI,zbJ]
   rfl
  refine take_ (i:=2) (N:=some 44) (v:=?_) (a':=?_) #[zt,zt,zt,zt,zt,zf,zf,zf] rfl rfl (by kernel_rfl) (fun _ _ _ h=>h) (Or.inl ⟨by rfl,?_⟩) hHeld ?_ ?_
  rotate_left
  ·
   rintro w' ⟨s0,s1,s2,s3,s4,s5⟩
   go_simp
   with_reducible rfl
  rotate_left
  ·
   simp only [Act.put,zA1,zA2,zA3,zbI,zbJ]
   rfl
  refine zct (i:=5) (N:=some 47) #[zt,zt,zt,zt,zt,zt,zf,zf] rfl rfl (by kernel_rfl) (by decide) (fun K hK=>?_)
  refine zb8 Try.func105 (by kernel_rfl) rfl #[.slice Aa (dg B32 (X.2.1*Y.2.2)).length ca,.slice Ab (dg B32 (Y.2.1*X.2.2)).length cb] (by rfl) rfl rfl (by (try simp only [List.map_toArray,List.map_cons,List.map_nil]); first | done | rfl) ?_
  refine(add_d HRa6.out HRb6.out HM.out.1 HM.out.2.1).mono ?_
  rintro e W15 ⟨vs,rfl,hR,hB⟩
  refine⟨_,rfl,?_⟩
  have HS7:=Aside0.mk (HS6.out.below hB)
  have HRd7:=Aside0.mk (Kd.R_below HRd6.out hB)
  have HG7:=Aside0.mk (zbC HG6.out hB)
  have HRs7:=Aside0.mk (Kd.R_lower hR HS6.out.bw.size)
  obtain⟨As,cs,rfl⟩:=Kd.R_slice hR
  clear hR hB HS6 HRa6 HRb6 HRd6 HG6
  refine hK.out _ _ ⟨(zbv HS7.out.b3 0).trans rfl,(zbv HS7.out.b3 1).trans rfl,(zbv HS7.out.b3 2).trans rfl,(zbv HS7.out.b4 0).trans rfl,(zbv HS7.out.b4 1).trans rfl,(zbv HS7.out.b4 2).trans rfl⟩ (fun hHeld=>?_)
  clear hK K
  refine zbR (a':=?_) ?_ ?_
  rotate_left
  ·
   show Act.put _ (some 47) _=_
   simp only [Act.put,zA1,zA2,zA3,zbI,zbJ]
   rfl
  refine zct (i:=6) (N:=some 48) #[zt,zt,zt,zt,zt,zt,zt,zf] rfl rfl (by kernel_rfl) (by decide) (fun K hK=>?_)
  refine call_ 104 #[.bool X.1,.slice As (dg B32 (X.2.1*Y.2.2+Y.2.1*X.2.2)).length cs,.pointer (some ⟨W12.heap.size,0,none⟩)] (by rfl) rfl ?_ ?_
  ·
   have he:=enters_ Try.func104 (by kernel_rfl) rfl #[.bool X.1,.slice As (dg B32 (X.2.1*Y.2.2+Y.2.1*X.2.2)).length cs,.pointer (some ⟨W12.heap.size,0,none⟩)] W15
   unfold execOp
   simp [resolve,Deferred.ofValue,invoke,Act.eval,he]
  refine(made_d (n:=X.1) HG7.out HRs7.out HRd7.out HM6.out HM.out.2.2.1 HM.out.2.2.2.2.2).mono ?_
  rintro e W16 ⟨v1,v2,rfl,R1,R2,hB⟩
  refine⟨_,rfl,?_⟩
  have HS8:=Aside0.mk (HS7.out.below hB)
  obtain⟨D1,e1,rfl⟩:=Kd.R_slice R1
  obtain⟨D2,e2,rfl⟩:=Kd.R_slice R2
  have HF:=Aside0.mk (fin_post HS7.out.bw R1 R2 hB HS8.out.b6 (by omega))
  clear R1 R2 hB
  refine hK.out _ _ ⟨(zbv HS8.out.b3 0).trans rfl,(zbv HS8.out.b3 1).trans rfl,(zbv HS8.out.b3 2).trans rfl,(zbv HS8.out.b4 0).trans rfl,(zbv HS8.out.b4 1).trans rfl,(zbv HS8.out.b4 2).trans rfl⟩ (fun hHeld=>?_)
  clear hK K
  refine zbR (a':=?_) ?_ ?_
  rotate_left
  ·
   show Act.put _ (some 48) _=_
   simp only [Act.put,zA1,zA2,zA3,zbI,zbJ]
   rfl
  refine last_ (i:=7) (N:=none) #[zt,zt,zt,zt,zt,zt,zt,zt] rfl rfl (by kernel_rfl) (by decide) (fun K hK=>?_)
  obtain⟨⟨x6,x7,x8⟩,y6,y7,y8⟩:=zbK HS8.out.b6
  refine skip_ (w1:=?_) (by rfl) rfl ?_ ?_
  rotate_left
  ·
   go_simp
   rfl
  refine hK.out _ _ ?_
  clear hK K
  refine done_ (by kernel_rfl) ?_
  go_wp2
  refine bodyPost_ret (results_cell_row rfl _ _ (w.heap.size+1+1) 25 _ (0,0) _ rfl (zb1 HS8.out.b6 _ _ _) Try.underlying25 rfl (by kernel_rfl)) rfl ?_
  rw [add_first hxy]
  exact HF.out
end Go.Proofs.Ytehghijlchpeaaa.Nat1
end
section
namespace Go.Proofs.Ytehghijlchpeaaa.Nat1
open Go.RowKit Go.Proofs.YtehghijlchpeaaaW.PrintWords Go.Proofs.YtehghijlchpeaaaW.PrintLast Go.Proofs.YtehghijlchpeaaaW.PrintMore Go.Proofs.Ytehghijlchpeaaa.L Go.Proofs.Ytehghijlchpeaaa.Nt
set_option linter.unusedVariables false
set_option linter.unusedSimpArgs false
set_option linter.unusedSectionVars false
set_option maxHeartbeats 1000000 in
set_option maxRecDepth 100000 in
theorem addR_q (n1:Bool) (A1:Option Addr) (c1:Nat) (p1:List Int) (A2:Option Addr) (c2:Nat) (q1:List Int) (n2:Bool) (A3:Option Addr) (c3:Nat) (p2:List Int) (A4:Option Addr) (c4:Nat) (q2:List Int) (w:World)
  (hr1:Kd.C (Kd.int .u32) w A1 p1.length p1) (hc1:p1.length≤c1) (hr2:Kd.C (Kd.int .u32) w A2 q1.length q1) (hc2:q1.length≤c2) (hr3:Kd.C (Kd.int .u32) w A3 p2.length p2) (hc3:p2.length≤c3) (hr4:Kd.C (Kd.int .u32) w A4 q2.length q2) (hc4:q2.length≤c4)
  (hp1:okS p1) (hq1:okS q1) (hp2:okS p2) (hq2:okS q2) :
  Calls Try.prog 31 #[.agg #[.bool n1,.slice A1 p1.length c1,.slice A2 q1.length c2],.agg #[.bool n2,.slice A3 p2.length c3,.slice A4 q2.length c4]] w
   (zcN w (addQ (nrm n1 (val B32 p1) (val B32 q1)) (if false then ngt (nrm n2 (val B32 p2) (val B32 q2)) else nrm n2 (val B32 p2) (val B32 q2)))):=by
 have hu25:=Try.underlying25
 have hu92:=Try.underlying92
 have HS:=Aside0.mk (fun (W:World) (hb:Below w.heap.size w W)=>sum_q false n1 A1 c1 p1 A2 c2 q1 n2 A3 c3 p2 A4 c4 q2 W (Kd.C_below hr1 hb) hc1 (Kd.C_below hr2 hb) hc2 (Kd.C_below hr3 hb) hc3 (Kd.C_below hr4 hb) hc4 hp1 hq1 hp2 hq2)
 generalize addQ (nrm n1 (val B32 p1) (val B32 q1)) (if false=true then ngt (nrm n2 (val B32 p2) (val B32 q2)) else nrm n2 (val B32 p2) (val B32 q2))=r at *
 clear hr1 hr2 hr3 hr4 hp1 hq1 hp2 hq2
 go_enter Try.func31,Try.ntmps31
 go_wp2_with fail
 have hbox:=alloc3_new w (.cells #[.bool n1,.slice A1 p1.length c1,.slice A2 q1.length c2] 25) (.cells #[.bool n2,.slice A3 p2.length c3,.slice A4 q2.length c4] 25) (.cells #[.bool false,.slice none 0 0,.slice none 0 0] 25)
 have hbw:=zco w (.cells #[.bool n1,.slice A1 p1.length c1,.slice A2 q1.length c2] 25) (.cells #[.bool n2,.slice A3 p2.length c3,.slice A4 q2.length c4] 25) (.cells #[.bool false,.slice none 0 0,.slice none 0 0] 25)
 generalize (((w.alloc (.cells #[.bool n1,.slice A1 p1.length c1,.slice A2 q1.length c2] 25)).alloc (.cells #[.bool n2,.slice A3 p2.length c3,.slice A4 q2.length c4] 25)).alloc (.cells #[.bool false,.slice none 0 0,.slice none 0 0] 25))=W3 at hbox hbw ⊢
 refine(HS.out W3 hbw).mono ?_
 rintro e W4 ⟨v1,v2,rfl,R1,R2,hB⟩
 have HBX:=Aside0.mk (zbC hbox hB)
 obtain⟨D1,e1,rfl⟩:=Kd.R_slice R1
 obtain⟨D2,e2,rfl⟩:=Kd.R_slice R2
 have HF:=Aside0.mk (fin_post hbw R1 R2 hB HBX.out (by omega))
 obtain⟨⟨x0,x1,x2⟩,y0,y1,y2⟩:=zbK HBX.out
 clear R1 R2 hB hbox hbw
 go_wp2
 refine bodyPost_ret (results_cell_row rfl _ _ (w.heap.size+1+1) 25 _ (0,0) _ rfl (zb1 HBX.out _ _ _) Try.underlying25 rfl (by kernel_rfl)) rfl ?_
 exact HF.out
set_option maxHeartbeats 1000000 in
set_option maxRecDepth 100000 in
theorem subR_q (n1:Bool) (A1:Option Addr) (c1:Nat) (p1:List Int) (A2:Option Addr) (c2:Nat) (q1:List Int) (n2:Bool) (A3:Option Addr) (c3:Nat) (p2:List Int) (A4:Option Addr) (c4:Nat) (q2:List Int) (w:World)
  (hr1:Kd.C (Kd.int .u32) w A1 p1.length p1) (hc1:p1.length≤c1) (hr2:Kd.C (Kd.int .u32) w A2 q1.length q1) (hc2:q1.length≤c2) (hr3:Kd.C (Kd.int .u32) w A3 p2.length p2) (hc3:p2.length≤c3) (hr4:Kd.C (Kd.int .u32) w A4 q2.length q2) (hc4:q2.length≤c4)
  (hp1:okS p1) (hq1:okS q1) (hp2:okS p2) (hq2:okS q2) :
  Calls Try.prog 33 #[.agg #[.bool n1,.slice A1 p1.length c1,.slice A2 q1.length c2],.agg #[.bool n2,.slice A3 p2.length c3,.slice A4 q2.length c4]] w
   (zcN w (addQ (nrm n1 (val B32 p1) (val B32 q1)) (if true then ngt (nrm n2 (val B32 p2) (val B32 q2)) else nrm n2 (val B32 p2) (val B32 q2)))):=by
 have hu25:=Try.underlying25
 have hu92:=Try.underlying92
 have HS:=Aside0.mk (fun (W:World) (hb:Below w.heap.size w W)=>sum_q true n1 A1 c1 p1 A2 c2 q1 n2 A3 c3 p2 A4 c4 q2 W (Kd.C_below hr1 hb) hc1 (Kd.C_below hr2 hb) hc2 (Kd.C_below hr3 hb) hc3 (Kd.C_below hr4 hb) hc4 hp1 hq1 hp2 hq2)
 generalize addQ (nrm n1 (val B32 p1) (val B32 q1)) (if true=true then ngt (nrm n2 (val B32 p2) (val B32 q2)) else nrm n2 (val B32 p2) (val B32 q2))=r at *
 clear hr1 hr2 hr3 hr4 hp1 hq1 hp2 hq2
 go_enter Try.func33,Try.ntmps33
 go_wp2_with fail
 have hbox:=alloc3_new w (.cells #[.bool n1,.slice A1 p1.length c1,.slice A2 q1.length c2] 25) (.cells #[.bool n2,.slice A3 p2.length c3,.slice A4 q2.length c4] 25) (.cells #[.bool false,.slice none 0 0,.slice none 0 0] 25)
 have hbw:=zco w (.cells #[.bool n1,.slice A1 p1.length c1,.slice A2 q1.length c2] 25) (.cells #[.bool n2,.slice A3 p2.length c3,.slice A4 q2.length c4] 25) (.cells #[.bool false,.slice none 0 0,.slice none 0 0] 25)
 generalize (((w.alloc (.cells #[.bool n1,.slice A1 p1.length c1,.slice A2 q1.length c2] 25)).alloc (.cells #[.bool n2,.slice A3 p2.length c3,.slice A4 q2.length c4] 25)).alloc (.cells #[.bool false,.slice none 0 0,.slice none 0 0] 25))=W3 at hbox hbw ⊢
 refine(HS.out W3 hbw).mono ?_
 rintro e W4 ⟨v1,v2,rfl,R1,R2,hB⟩
 have HBX:=Aside0.mk (zbC hbox hB)
 obtain⟨D1,e1,rfl⟩:=Kd.R_slice R1
 obtain⟨D2,e2,rfl⟩:=Kd.R_slice R2
 have HF:=Aside0.mk (fin_post hbw R1 R2 hB HBX.out (by omega))
 obtain⟨⟨x0,x1,x2⟩,y0,y1,y2⟩:=zbK HBX.out
 clear R1 R2 hB hbox hbw
 go_wp2
 refine bodyPost_ret (results_cell_row rfl _ _ (w.heap.size+1+1) 25 _ (0,0) _ rfl (zb1 HBX.out _ _ _) Try.underlying25 rfl (by kernel_rfl)) rfl ?_
 exact HF.out
end Go.Proofs.Ytehghijlchpeaaa.Nat1
end
section
namespace Go.Proofs.Ytehghijlchpeaaa.Nat1
open Go.RowKit Go.Proofs.YtehghijlchpeaaaW.PrintWords Go.Proofs.YtehghijlchpeaaaW.PrintLast Go.Proofs.YtehghijlchpeaaaW.PrintMore Go.Proofs.Ytehghijlchpeaaa.L Go.Proofs.Ytehghijlchpeaaa.Nt
set_option linter.unusedVariables false
set_option linter.unusedSimpArgs false
set_option linter.unusedSectionVars false
theorem int_one:H.rat_Int.f 1=some (false,dg B32 1,dg B32 1):=by
 unfold H.rat_Int.f H.rat_size.f
 rw [if_neg (by decide),show IntKind.u64.wrap 1=1 by decide,nat_Of.f,if_pos (by decide),Option.bind_some,Option.bind_some,H.rat_one.f,nat_Of.f,if_pos (by decide),Option.bind_some,Option.bind_some]
 rfl
theorem product_two {n1 n2:Bool} {p1 q1 p2 q2:List Int} (hp1:okS p1) (hq1:okS q1) (hp2:okS p2) (hq2:okS q2) :
  ∃ k,J.rat_product.f k [⟨n1,p1,q1⟩,⟨n2,p2,q2⟩]=some ((mulQ (nrm n1 (val B32 p1) (val B32 q1)) (nrm n2 (val B32 p2) (val B32 q2))).1,dg B32 (mulQ (nrm n1 (val B32 p1) (val B32 q1)) (nrm n2 (val B32 p2) (val B32 q2))).2.1,dg B32 (mulQ (nrm n1 (val B32 p1) (val B32 q1)) (nrm n2 (val B32 p2) (val B32 q2))).2.2):=by
 have nx:=norm_f (n:=n1) hp1.okD hq1.okD
 have ny:=norm_f (n:=n2) hp2.okD hq2.okD
 have rx:=nrm_red n1 (val B32 p1) (val B32 q1)
 have ry:=nrm_red n2 (val B32 p2) (val B32 q2)
 have kx:=okQ_nrm (n:=n1) hp1 hq1
 have ky:=okQ_nrm (n:=n2) hp2 hq2
 generalize nrm n1 (val B32 p1) (val B32 q1)=X at *
 generalize nrm n2 (val B32 p2) (val B32 q2)=Y at *
 have k1:okD (dg B32 1):=⟨dg_ok zbE _,by have:=zb4 zbE (show 1 < B32 ^ 1 by decide); omega⟩
 have x1:=zcJ kx.1 (by decide)
 have x2:=zcJ kx.2 (by decide)
 have y1:=zcJ ky.1 (by decide)
 have y2:=zcJ ky.2 (by decide)
 obtain⟨m1,e1⟩:=mul_spec k1 x1
 obtain⟨m2,e2⟩:=mul_spec k1 x2
 obtain⟨m3,e3⟩:=mul_spec x1 y1
 obtain⟨m4,e4⟩:=mul_spec x2 y2
 simp only [zbX zbE,Nat.one_mul] at e1 e2 e3 e4
 have o1:=zcJ (mul_len kx.1 ky.1) (by decide)
 have o2:=zcJ (mul_len kx.2 ky.2) (by decide)
 have hd:X.2.2*Y.2.2≠0:=Nat.ne_of_gt (Nat.mul_pos rx.den ry.den)
 refine⟨m1+m2+m3+m4+3,?_⟩
 generalize hm:m1+m2+m3+m4=m
 have w1:wrap64 (0+1)=1:=by unfold wrap64; omega
 have w2:wrap64 (1+1)=2:=by unfold wrap64; omega
 unfold J.rat_product.f
 rw [int_one,Option.bind_some]
 simp only [List.length_cons,List.length_nil]
 rw [show (((0+1+1:Nat):Int))=2 by decide,show m+3=(m+2)+1 by omega,J.rat_product.l0,if_pos (by decide),if_pos (by decide),if_pos (by simp)]
 rw [show J.rd_T25 [⟨n1,p1,q1⟩,⟨n2,p2,q2⟩] 0=⟨n1,p1,q1⟩ by rfl]
 simp only []
 rw [nx,Option.bind_some,e1 _ (by omega),Option.bind_some,e2 _ (by omega),Option.bind_some,rat_Make.f,if_pos ⟨x1,x2⟩,Option.bind_some,zbX zbE,zbX zbE,mkR_eq,if_neg (Nat.ne_of_gt rx.den),Bool.false_bne,zci rx,w1]
 simp only []
 rw [show m+2=(m+1)+1 by omega,J.rat_product.l0,if_pos (by decide),if_pos (by decide),if_pos (by simp)]
 rw [show J.rd_T25 [⟨n1,p1,q1⟩,⟨n2,p2,q2⟩] 1=⟨n2,p2,q2⟩ by rfl]
 simp only []
 rw [ny,Option.bind_some,e3 _ (by omega),Option.bind_some,e4 _ (by omega),Option.bind_some,rat_Make.f,if_pos ⟨o1,o2⟩,Option.bind_some,zbX zbE,zbX zbE,mkR_eq,if_neg hd,w2]
 simp only []
 rw [J.rat_product.l0,if_neg (by decide)]
 rfl
theorem product_q (n1:Bool) (A1:Option Addr) (c1:Nat) (p1:List Int) (A2:Option Addr) (c2:Nat) (q1:List Int) (n2:Bool) (A3:Option Addr) (c3:Nat) (p2:List Int) (A4:Option Addr) (c4:Nat) (q2:List Int) (g:Nat) (t:TypeId) (w:World)
  (hg:w.heap[g]? = some (.cells #[.bool n1,.slice A1 p1.length c1,.slice A2 q1.length c2,.bool n2,.slice A3 p2.length c3,.slice A4 q2.length c4] t (0,0)))
  (hr1:Kd.C (Kd.int .u32) w A1 p1.length p1) (hc1:p1.length≤c1) (hr2:Kd.C (Kd.int .u32) w A2 q1.length q1) (hc2:q1.length≤c2) (hr3:Kd.C (Kd.int .u32) w A3 p2.length p2) (hc3:p2.length≤c3) (hr4:Kd.C (Kd.int .u32) w A4 q2.length q2) (hc4:q2.length≤c4)
  (hp1:okS p1) (hq1:okS q1) (hp2:okS p2) (hq2:okS q2) :
  Calls Try.prog 78 #[.slice (some ⟨g,0,none⟩) 2 2] w (zcN w (mulQ (nrm n1 (val B32 p1) (val B32 q1)) (nrm n2 (val B32 p2) (val B32 q2)))):=by
 obtain⟨k,hk⟩:=product_two (n1:=n1) (n2:=n2) hp1 hq1 hp2 hq2
 refine J.rat_product.calls k (some ⟨g,0,none⟩) 2 [⟨n1,p1,q1⟩,⟨n2,p2,q2⟩] _ _ _ w ?_ (Nat.le_refl _) hk
 refine⟨rfl,by simp,fun _=>⟨_,rfl,fun j p hj=>?_⟩⟩
 have hc:=zbv hg
 match j,hj with
 | 0,hj =>
  cases hj
  refine⟨_,rfl,J.k25_mk w ⟨n1,p1,q1⟩ hc1 hr1 hc2 hr2,fun i u hi=>?_⟩
  match i,hi with
  | 0,hi=>cases hi; exact hc 0
  | 1,hi=>cases hi; exact hc 1
  | 2,hi=>cases hi; exact hc 2
  | i+3,hi=>simp at hi
 | 1,hj =>
  cases hj
  refine⟨_,rfl,J.k25_mk w ⟨n2,p2,q2⟩ hc3 hr3 hc4 hr4,fun i u hi=>?_⟩
  match i,hi with
  | 0,hi=>cases hi; exact hc 3
  | 1,hi=>cases hi; exact hc 4
  | 2,hi=>cases hi; exact hc 5
  | i+3,hi=>simp at hi
 | j+2,hj=>simp at hj
set_option maxHeartbeats 1000000 in
set_option maxRecDepth 100000 in
theorem mulR_q (n1:Bool) (A1:Option Addr) (c1:Nat) (p1:List Int) (A2:Option Addr) (c2:Nat) (q1:List Int) (n2:Bool) (A3:Option Addr) (c3:Nat) (p2:List Int) (A4:Option Addr) (c4:Nat) (q2:List Int) (w:World)
  (hr1:Kd.C (Kd.int .u32) w A1 p1.length p1) (hc1:p1.length≤c1) (hr2:Kd.C (Kd.int .u32) w A2 q1.length q1) (hc2:q1.length≤c2) (hr3:Kd.C (Kd.int .u32) w A3 p2.length p2) (hc3:p2.length≤c3) (hr4:Kd.C (Kd.int .u32) w A4 q2.length q2) (hc4:q2.length≤c4)
  (hp1:okS p1) (hq1:okS q1) (hp2:okS p2) (hq2:okS q2) :
  Calls Try.prog 35 #[.agg #[.bool n1,.slice A1 p1.length c1,.slice A2 q1.length c2],.agg #[.bool n2,.slice A3 p2.length c3,.slice A4 q2.length c4]] w
   (zcN w (mulQ (nrm n1 (val B32 p1) (val B32 q1)) (nrm n2 (val B32 p2) (val B32 q2)))):=by
 have hu25:=Try.underlying25
 have HS:=Aside0.mk (fun (g t:Nat) (W:World) hg (hb:Below w.heap.size w W)=>product_q n1 A1 c1 p1 A2 c2 q1 n2 A3 c3 p2 A4 c4 q2 g t W hg (Kd.C_below hr1 hb) hc1 (Kd.C_below hr2 hb) hc2 (Kd.C_below hr3 hb) hc3 (Kd.C_below hr4 hb) hc4 hp1 hq1 hp2 hq2)
 generalize mulQ (nrm n1 (val B32 p1) (val B32 q1)) (nrm n2 (val B32 p2) (val B32 q2))=r at *
 clear hr1 hr2 hr3 hr4 hp1 hq1 hp2 hq2
 go_enter Try.func35,Try.ntmps35
 go_wp2_with fail
 have hbox:=alloc3_new w (.cells #[.bool n1,.slice A1 p1.length c1,.slice A2 q1.length c2] 25) (.cells #[.bool n2,.slice A3 p2.length c3,.slice A4 q2.length c4] 25) (.cells #[.bool false,.slice none 0 0,.slice none 0 0] 25)
 have hbw:=zco w (.cells #[.bool n1,.slice A1 p1.length c1,.slice A2 q1.length c2] 25) (.cells #[.bool n2,.slice A3 p2.length c3,.slice A4 q2.length c4] 25) (.cells #[.bool false,.slice none 0 0,.slice none 0 0] 25)
 have hsz:=alloc3_size w (.cells #[.bool n1,.slice A1 p1.length c1,.slice A2 q1.length c2] 25) (.cells #[.bool n2,.slice A3 p2.length c3,.slice A4 q2.length c4] 25) (.cells #[.bool false,.slice none 0 0,.slice none 0 0] 25)
 generalize (((w.alloc (.cells #[.bool n1,.slice A1 p1.length c1,.slice A2 q1.length c2] 25)).alloc (.cells #[.bool n2,.slice A3 p2.length c3,.slice A4 q2.length c4] 25)).alloc (.cells #[.bool false,.slice none 0 0,.slice none 0 0] 25))=W3 at hbox hbw hsz ⊢
 have hg:=zb3 W3 (.cells #[.bool n1,.slice A1 p1.length c1,.slice A2 q1.length c2,.bool n2,.slice A3 p2.length c3,.slice A4 q2.length c4] 25)
 have hb4:Below W3.heap.size W3 (W3.alloc (.cells #[.bool n1,.slice A1 p1.length c1,.slice A2 q1.length c2,.bool n2,.slice A3 p2.length c3,.slice A4 q2.length c4] 25)):=zbt (Below.refl _ _) _
 rw [hsz] at hg
 generalize W3.alloc (.cells #[.bool n1,.slice A1 p1.length c1,.slice A2 q1.length c2,.bool n2,.slice A3 p2.length c3,.slice A4 q2.length c4] 25)=W4 at hg hb4 ⊢
 refine(HS.out _ _ W4 hg (zbx hbw hb4)).mono ?_
 rintro e W5 ⟨v1,v2,rfl,R1,R2,hB⟩
 have HBX:=Aside0.mk (zbC (zbC hbox hb4) hB)
 obtain⟨D1,e1,rfl⟩:=Kd.R_slice R1
 obtain⟨D2,e2,rfl⟩:=Kd.R_slice R2
 have HF:=Aside0.mk (fin_post (zbx hbw hb4) R1 R2 hB HBX.out (by omega))
 obtain⟨⟨x0,x1,x2⟩,y0,y1,y2⟩:=zbK HBX.out
 clear R1 R2 hB hbox hbw hg hb4 hsz
 go_wp2
 refine bodyPost_ret (results_cell_row rfl _ _ (w.heap.size+1+1) 25 _ (0,0) _ rfl (zb1 HBX.out _ _ _) Try.underlying25 rfl (by kernel_rfl)) rfl ?_
 exact HF.out
theorem store3_size (W:World) (g:Nat) (a b c:Value):(store3 W g a b c).heap.size=W.heap.size:=by simp [store3,World.setCell]
def divP (X Y:QN):Bool×List Int×List Int×Int:=if Y.2.1=0 then (false,[],[],17) else ((divQ X Y).1,dg B32 (divQ X Y).2.1,dg B32 (divQ X Y).2.2,0)
theorem zcD {n:Nat} (h:(dg B32 n).length≤137438953472):okS (dg B32 n):=⟨dg_ok zbE _,h⟩
theorem divQ_eq {X Y:QN} (hX:red X) (hY:red Y) (h:Y.2.1≠0):mulQ X (nrm Y.1 Y.2.2 Y.2.1)=divQ X Y:=by
 have:nrm Y.1 Y.2.2 Y.2.1=(Y.1,Y.2.2,Y.2.1):=zci (r:=(Y.1,Y.2.2,Y.2.1)) ⟨Nat.pos_of_ne_zero h,(Nat.gcd_comm _ _).trans hY.cop,fun h0=>by have:=hY.den; simp only [] at h0; omega⟩
 rw [this]
 rfl
set_option maxHeartbeats 1000000 in
set_option maxRecDepth 100000 in
theorem divR_q (n1:Bool) (A1:Option Addr) (c1:Nat) (p1:List Int) (A2:Option Addr) (c2:Nat) (q1:List Int) (n2:Bool) (A3:Option Addr) (c3:Nat) (p2:List Int) (A4:Option Addr) (c4:Nat) (q2:List Int) (w:World)
  (hr1:Kd.C (Kd.int .u32) w A1 p1.length p1) (hc1:p1.length≤c1) (hr2:Kd.C (Kd.int .u32) w A2 q1.length q1) (hc2:q1.length≤c2) (hr3:Kd.C (Kd.int .u32) w A3 p2.length p2) (hc3:p2.length≤c3) (hr4:Kd.C (Kd.int .u32) w A4 q2.length q2) (hc4:q2.length≤c4)
  (hp1:okS p1) (hq1:okS q1) (hp2:okS p2) (hq2:okS q2) :
  Calls Try.prog 38 #[.agg #[.bool n1,.slice A1 p1.length c1,.slice A2 q1.length c2],.agg #[.bool n2,.slice A3 p2.length c3,.slice A4 q2.length c4]] w
   (MakePost w (divP (nrm n1 (val B32 p1) (val B32 q1)) (nrm n2 (val B32 p2) (val B32 q2)))):=by
 have hu25:=Try.underlying25
 have HNy:=Aside0.mk (fun (W:World) (hb:Below w.heap.size w W)=>norm_q n2 A3 c3 p2 A4 c4 q2 W (Kd.C_below hr3 hb) hc3 (Kd.C_below hr4 hb) hc4 hp2.okD hq2.okD)
 have hXr:=nrm_red n1 (val B32 p1) (val B32 q1)
 have hYr:=nrm_red n2 (val B32 p2) (val B32 q2)
 have hYk:=okQ_nrm (n:=n2) hp2 hq2
 generalize nrm n2 (val B32 p2) (val B32 q2)=Y at *
 have HS:=Aside0.mk (fun (B1:Option Addr) (d1:Nat) (B2:Option Addr) (d2:Nat) (g t:Nat) (W:World) hg (hb:Below w.heap.size w W) x1 x2 x3 x4=>product_q n1 A1 c1 p1 A2 c2 q1 Y.1 B1 d1 (dg B32 Y.2.2) B2 d2 (dg B32 Y.2.1) g t W hg (Kd.C_below hr1 hb) hc1 (Kd.C_below hr2 hb) hc2 x1 x2 x3 x4 hp1 hq1 (zcD hYk.2) (zcD hYk.1))
 rw [zbX zbE,zbX zbE] at HS
 generalize nrm n1 (val B32 p1) (val B32 q1)=X at *
 have HK:=Aside0.mk (And.intro hXr hYr)
 clear hr1 hr2 hr3 hr4 hp1 hq1 hp2 hq2 hXr hYr hYk
 go_enter Try.func38,Try.ntmps38
 go_wp2_with fail
 have hb4:=alloc3_mid w (.cells #[.bool n1,.slice A1 p1.length c1,.slice A2 q1.length c2] 25) (.cells #[.bool n2,.slice A3 p2.length c3,.slice A4 q2.length c4] 25) (.cells #[.bool false,.slice none 0 0,.slice none 0 0] 25)
 have hb3:=alloc3_old w (.cells #[.bool n1,.slice A1 p1.length c1,.slice A2 q1.length c2] 25) (.cells #[.bool n2,.slice A3 p2.length c3,.slice A4 q2.length c4] 25) (.cells #[.bool false,.slice none 0 0,.slice none 0 0] 25)
 have hb6:=alloc3_new w (.cells #[.bool n1,.slice A1 p1.length c1,.slice A2 q1.length c2] 25) (.cells #[.bool n2,.slice A3 p2.length c3,.slice A4 q2.length c4] 25) (.cells #[.bool false,.slice none 0 0,.slice none 0 0] 25)
 have hbw:=zco w (.cells #[.bool n1,.slice A1 p1.length c1,.slice A2 q1.length c2] 25) (.cells #[.bool n2,.slice A3 p2.length c3,.slice A4 q2.length c4] 25) (.cells #[.bool false,.slice none 0 0,.slice none 0 0] 25)
 generalize (((w.alloc (.cells #[.bool n1,.slice A1 p1.length c1,.slice A2 q1.length c2] 25)).alloc (.cells #[.bool n2,.slice A3 p2.length c3,.slice A4 q2.length c4] 25)).alloc (.cells #[.bool false,.slice none 0 0,.slice none 0 0] 25))=W3 at hb3 hb4 hb6 hbw ⊢
 refine(HNy.out W3 hbw).mono ?_
 rintro e W4 ⟨v1,v2,rfl,R1,R2,hB⟩
 obtain⟨D1,e1,rfl⟩:=Kd.R_slice R1
 obtain⟨D2,e2,rfl⟩:=Kd.R_slice R2
 have HX:=Aside0.mk (And.intro (zbC hb3 hB) (And.intro (zbC hb4 hB) (And.intro (zbC hb6 hB) (zbx hbw hB))))
 have HR:=Aside0.mk (And.intro (Kd.R_lower R1 hbw.size) (Kd.R_lower R2 hbw.size))
 obtain⟨⟨x0,x1,x2⟩,y0,y1,y2⟩:=zbK HX.out.1
 obtain⟨⟨x3,x4,x5⟩,y3,y4,y5⟩:=zbK HX.out.2.1
 obtain⟨⟨x6,x7,x8⟩,y6,y7,y8⟩:=zbK HX.out.2.2.1
 have hl3:w.heap.size < W4.heap.size:=zbV HX.out.1
 have hl4:w.heap.size+1 < W4.heap.size:=zbV HX.out.2.1
 have hl6:w.heap.size+1+1 < W4.heap.size:=zbV HX.out.2.2.1
 clear hb3 hb4 hb6 hbw R1 R2 hB
 by_cases hz:Y.2.1=0
 ·
  have hlen:(dg B32 Y.2.1).length=0:=by rw [hz,zb5]; rfl
  have HZ:=Aside0.mk hz
  clear hz
  go_wp2
  have hb6':=(zcf (W:=W4) (show w.heap.size+1+1≠w.heap.size+1 by omega) (.bool Y.1) (.slice D1 0 e1) (.slice D2 (dg B32 Y.2.2).length e2)).trans HX.out.2.2.1
  refine bodyPost_ret (results_ct rfl _ _ (w.heap.size+1+1) 25 _ (0,0) _ rfl (zb1 hb6' _ _ _) Try.underlying25 rfl (by kernel_rfl)) rfl ?_
  rw [divP,if_pos HZ.out]
  exact⟨_,_,rfl,Kd.R_nil _ _ _ _ _,Kd.R_nil _ _ _ _ _,zbU (zbU HX.out.2.2.2 (by omega) _ _ _) (by omega) _ _ _⟩
 ·
  have hlen:1≤((dg B32 Y.2.1).length:Int):=by
   have:dg B32 Y.2.1≠[]:=fun e=>hz ((zcn zbE _).1 e)
   have:=List.length_pos_iff.2 this
   omega
  have HZ:=Aside0.mk hz
  clear hz
  go_wp2_with fail
  rw [store3_eq]
  have hb6':=(zcf (W:=W4) (show w.heap.size+1+1≠w.heap.size+1 by omega) (.bool Y.1) (.slice D1 (dg B32 Y.2.1).length e1) (.slice D2 (dg B32 Y.2.2).length e2)).trans HX.out.2.2.1
  have hsz:=store3_size W4 (w.heap.size+1) (.bool Y.1) (.slice D1 (dg B32 Y.2.1).length e1) (.slice D2 (dg B32 Y.2.2).length e2)
  have hbw:=zbU HX.out.2.2.2 (g:=w.heap.size+1) (by omega) (.bool Y.1) (.slice D1 (dg B32 Y.2.1).length e1) (.slice D2 (dg B32 Y.2.2).length e2)
  have r1:=zcC HR.out.1 HX.out.2.1 (.bool Y.1) (.slice D1 (dg B32 Y.2.1).length e1) (.slice D2 (dg B32 Y.2.2).length e2)
  have r2:=zcC HR.out.2 HX.out.2.1 (.bool Y.1) (.slice D1 (dg B32 Y.2.1).length e1) (.slice D2 (dg B32 Y.2.2).length e2)
  generalize store3 W4 (w.heap.size+1) (.bool Y.1) (.slice D1 (dg B32 Y.2.1).length e1) (.slice D2 (dg B32 Y.2.2).length e2)=W5 at hb6' hsz hbw r1 r2 ⊢
  have hg:=zb3 W5 (.cells #[.bool n1,.slice A1 p1.length c1,.slice A2 q1.length c2,.bool Y.1,.slice D2 (dg B32 Y.2.2).length e2,.slice D1 (dg B32 Y.2.1).length e1] 25)
  rw [hsz] at hg
  have hb5:Below W5.heap.size W5 (W5.alloc (.cells #[.bool n1,.slice A1 p1.length c1,.slice A2 q1.length c2,.bool Y.1,.slice D2 (dg B32 Y.2.2).length e2,.slice D1 (dg B32 Y.2.1).length e1] 25)):=zbt (Below.refl _ _) _
  generalize W5.alloc (.cells #[.bool n1,.slice A1 p1.length c1,.slice A2 q1.length c2,.bool Y.1,.slice D2 (dg B32 Y.2.2).length e2,.slice D1 (dg B32 Y.2.1).length e1] 25)=W6 at hg hb5 ⊢
  have s1:=Kd.R_below r1 hb5
  have s2:=Kd.R_below r2 hb5
  clear x0 x1 x2 y0 y1 y2 x3 x4 x5 y3 y4 y5 x6 x7 x8 y6 y7 y8 r1 r2
  refine(HS.out D2 e2 D1 e1 _ _ W6 hg (zbx hbw hb5) (Kd.R_reads' s2).2.2 (Kd.R_reads' s2).2.1 (Kd.R_reads' s1).2.2 (Kd.R_reads' s1).2.1).mono ?_
  rw [divQ_eq HK.out.1 HK.out.2 HZ.out]
  rintro e W7 ⟨v1,v2,rfl,R1,R2,hB⟩
  have HBX:=Aside0.mk (zbC (zbC hb6' hb5) hB)
  obtain⟨E1,f1,rfl⟩:=Kd.R_slice R1
  obtain⟨E2,f2,rfl⟩:=Kd.R_slice R2
  have HF:=Aside0.mk (fin_post (zbx hbw hb5) R1 R2 hB HBX.out (by omega))
  obtain⟨⟨x0,x1,x2⟩,y0,y1,y2⟩:=zbK HBX.out
  clear R1 R2 hB hb6' hbw hg hb5 hsz s1 s2
  go_wp2
  refine bodyPost_ret (results_ct rfl _ _ (w.heap.size+1+1) 25 _ (0,0) _ rfl (zb1 HBX.out _ _ _) Try.underlying25 rfl (by kernel_rfl)) rfl ?_
  rw [divP,if_neg HZ.out]
  obtain⟨u1,u2,ee,t1,t2,t3⟩:=HF.out
  cases ee
  exact⟨_,_,rfl,t1,t2,t3⟩
end Go.Proofs.Ytehghijlchpeaaa.Nat1
end
