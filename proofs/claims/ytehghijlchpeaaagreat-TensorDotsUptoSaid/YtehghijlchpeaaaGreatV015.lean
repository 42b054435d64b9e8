/- Part 16 of the proof of tensorDotsUpto_holds: what it uses, in build order. -/
import Derived.Test.YtehghijlchpeaaaGreatV014
set_option maxHeartbeats 8000000
set_option maxRecDepth 100000
set_option linter.unusedVariables false
set_option linter.unusedSimpArgs false
set_option linter.unusedSectionVars false
section
namespace Go.Proofs.YtehghijlchpeaaaGreat.Nat1
open Go.RowKit YtehghijlchpeaaaGreatW.PrintWords YtehghijlchpeaaaGreatW.PrintLast YtehghijlchpeaaaGreatW.PrintMore L Nt
def okS (l:List Int):Prop:=ok B32 l∧l.length≤137438953472
theorem okS.okD {l:List Int} (h:okS l):okD l:=⟨h.1,Nat.le_trans h.2 (by decide)⟩
def okQ (x:QN):Prop:=(dg B32 x.2.1).length≤137438953472∧(dg B32 x.2.2).length≤137438953472
theorem okQ_nrm {n:Bool} {p q:List Int} (hp:okS p) (hq:okS q):okQ (nrm n (val B32 p) (val B32 q)):=by
 have h1:=zbS zby (val_lt hp.1)
 have h2:=zbS zby (val_lt hq.1)
 have h3:=hp.2
 have h4:=hq.2
 unfold nrm okQ
 split
 ·
  have:=zbS zby (show 1 < B32 ^ 1 by decide)
  simp only []
  rw [zbT]
  exact⟨by simp,by omega⟩
 ·
  exact⟨Nat.le_trans (zbP zby (Nat.div_le_self _ _)) (by omega),Nat.le_trans (zbP zby (Nat.div_le_self _ _)) (by omega)⟩
theorem okQ_ngt {x:QN} (h:okQ x):okQ (ngt x):=by
 unfold ngt
 split<;>exact h
theorem ngt_red {x:QN} (h:red x):red (ngt x):=by
 unfold ngt
 split
 ·
  rename_i h0
  exact⟨h.den,h.cop,fun _=>rfl⟩
 ·
  rename_i h0
  exact⟨h.den,h.cop,fun h1=>absurd h1 h0⟩
theorem zcu {n k:Nat} (h:(dg B32 n).length≤k) (hk:k≤549755813888):okD (dg B32 n):=⟨dg_ok zby _,Nat.le_trans h hk⟩
theorem mul_len {a b:Nat} (ha:(dg B32 a).length≤137438953472) (hb:(dg B32 b).length≤137438953472):(dg B32 (a*b)).length≤274877906944:=by
 have:=dg_length_mul zby (m:=a) (n:=b)
 omega
theorem zb8 {W:World} {g g':Nat} (hne:g'≠g) (a b c:Value):(store3 W g a b c).heap[g']? = W.heap[g']? :=
 (Below.heap_setCell _ _ _ _ hne).trans ((Below.heap_setCell _ _ _ _ hne).trans (Below.heap_setCell _ _ _ _ hne))
structure BX (w:World) (X Y:QN) (v1 v2 v3 v4:Value) (W:World):Prop where
 b3:W.heap[w.heap.size]? = some (.cells #[.bool X.1,v1,v2] 27 (0,0))
 b4:W.heap[w.heap.size+1]? = some (.cells #[.bool Y.1,v3,v4] 27 (0,0))
 b6:W.heap[w.heap.size+1+1]? = some (.cells #[.bool false,.slice none 0 0,.slice none 0 0] 27 (0,0))
 bw:Below w.heap.size w W
 x1:Kd.R (Kd.int .u32) 81 W w.heap.size (fun _=>True) v1 (dg B32 X.2.1)
 x2:Kd.R (Kd.int .u32) 81 W w.heap.size (fun _=>True) v2 (dg B32 X.2.2)
 y1:Kd.R (Kd.int .u32) 81 W w.heap.size (fun _=>True) v3 (dg B32 Y.2.1)
 y2:Kd.R (Kd.int .u32) 81 W w.heap.size (fun _=>True) v4 (dg B32 Y.2.2)
theorem BX.below {w W W':World} {X Y:QN} {v1 v2 v3 v4:Value} (h:BX w X Y v1 v2 v3 v4 W) (hb:Below W.heap.size W W'):BX w X Y v1 v2 v3 v4 W' :=
 ⟨zbr h.b3 hb,zbr h.b4 hb,zbr h.b6 hb,zbm h.bw hb,Kd.R_below h.x1 hb,Kd.R_below h.x2 hb,Kd.R_below h.y1 hb,Kd.R_below h.y2 hb⟩
theorem two_boxes {w W:World} {X Y:QN} {v1 v2 v3 v4:Value} {x0 x1 x2 y0 y1 y2:Value} (h3:W.heap[w.heap.size]? = some (.cells #[x0,x1,x2] 27 (0,0))) (h4:W.heap[w.heap.size+1]? = some (.cells #[y0,y1,y2] 27 (0,0)))
  (h6:W.heap[w.heap.size+1+1]? = some (.cells #[.bool false,.slice none 0 0,.slice none 0 0] 27 (0,0))) (hb:Below w.heap.size w W) (hx:RT W w.heap.size (.agg #[.bool X.1,v1,v2]) X) (hy:RT W w.heap.size (.agg #[.bool Y.1,v3,v4]) Y) :
  BX w X Y v1 v2 v3 v4 (store3 (store3 W w.heap.size (.bool X.1) v1 v2) (w.heap.size+1) (.bool Y.1) v3 v4):=by
 have h4':=(zb8 (W:=W) (show w.heap.size+1≠w.heap.size by omega) (.bool X.1) v1 v2).trans h4
 obtain⟨u1,u2,e,r1,r2⟩:=(hx.store3 h3 (.bool X.1) v1 v2).store3 h4' (.bool Y.1) v3 v4
 obtain⟨u3,u4,e',r3,r4⟩:=(hy.store3 h3 (.bool X.1) v1 v2).store3 h4' (.bool Y.1) v3 v4
 cases e
 cases e'
 exact⟨(zb8 (by omega) _ _ _).trans (zbM h3 _ _ _),zbM h4' _ _ _,(zb8 (by omega) _ _ _).trans ((zb8 (by omega) _ _ _).trans h6),zbN (zbN hb (Nat.le_refl _) _ _ _) (by omega) _ _ _,r1,r2,r3,r4⟩
theorem mul_d {W:World} {base:Nat} {ok0 ok1:Nat→Prop} {A0 A1:Option Addr} {c0 c1 a b:Nat} (h0:Kd.R (Kd.int .u32) 81 W base ok0 (.slice A0 (dg B32 a).length c0) (dg B32 a)) (h1:Kd.R (Kd.int .u32) 81 W base ok1 (.slice A1 (dg B32 b).length c1) (dg B32 b)) (k0:okD (dg B32 a)) (k1:okD (dg B32 b)) :
  Calls Tryz.prog 162 #[.slice A0 (dg B32 a).length c0,.slice A1 (dg B32 b).length c1] W fun e w'=>∃ v0_:Value,e=.returned (v0_)∧Kd.R (Kd.int .u32) 81 w' W.heap.size (fun _=>True) v0_ (dg B32 (a*b))∧Below W.heap.size W w':=by
 have:=mul_q A0 c0 (dg B32 a) A1 c1 (dg B32 b) W (Kd.R_reads' h0).2.2 (Kd.R_reads' h0).2.1 (Kd.R_reads' h1).2.2 (Kd.R_reads' h1).2.1 k0 k1
 rwa [zbV zby,zbV zby] at this
theorem add_d {W:World} {base:Nat} {ok0 ok1:Nat→Prop} {A0 A1:Option Addr} {c0 c1 a b:Nat} (h0:Kd.R (Kd.int .u32) 81 W base ok0 (.slice A0 (dg B32 a).length c0) (dg B32 a)) (h1:Kd.R (Kd.int .u32) 81 W base ok1 (.slice A1 (dg B32 b).length c1) (dg B32 b)) (k0:okD (dg B32 a)) (k1:okD (dg B32 b)) :
  Calls Tryz.prog 164 #[.slice A0 (dg B32 a).length c0,.slice A1 (dg B32 b).length c1] W fun e w'=>∃ v0_:Value,e=.returned (v0_)∧Kd.R (Kd.int .u32) 81 w' W.heap.size (fun _=>True) v0_ (dg B32 (a+b))∧Below W.heap.size W w' :=
 nat_Add.calls A0 c0 (dg B32 a) A1 c1 (dg B32 b) _ W (Kd.R_reads' h0).2.2 (Kd.R_reads' h0).2.1 (Kd.R_reads' h1).2.2 (Kd.R_reads' h1).2.1 (by rw [nat_Add.f,if_pos ⟨k0.okL,k1.okL⟩,zbV zby,zbV zby])
theorem sub_d {W:World} {base:Nat} {ok0 ok1:Nat→Prop} {A0 A1:Option Addr} {c0 c1 a b:Nat} (h0:Kd.R (Kd.int .u32) 81 W base ok0 (.slice A0 (dg B32 a).length c0) (dg B32 a)) (h1:Kd.R (Kd.int .u32) 81 W base ok1 (.slice A1 (dg B32 b).length c1) (dg B32 b)) (k0:okD (dg B32 a)) (k1:okD (dg B32 b)) :
  Calls Tryz.prog 165 #[.slice A0 (dg B32 a).length c0,.slice A1 (dg B32 b).length c1] W fun e w'=>∃ v0_:Value,e=.returned (.tuple #[v0_,.int .i64 (if a < b then 20 else 0)])∧Kd.R (Kd.int .u32) 81 w' W.heap.size (fun _=>True) v0_ (dg B32 (if a < b then 0 else a-b))∧Below W.heap.size W w':=by
 refine nat_Sub.calls A0 c0 (dg B32 a) A1 c1 (dg B32 b) _ _ W (Kd.R_reads' h0).2.2 (Kd.R_reads' h0).2.1 (Kd.R_reads' h1).2.2 (Kd.R_reads' h1).2.1 ?_
 rw [nat_Sub.f,if_pos ⟨k0.okL,k1.okL⟩,zbV zby,zbV zby]
 by_cases h:a < b
 ·
  rw [if_pos h,if_pos h,if_pos h,zbT]
 ·
  rw [if_neg h,if_neg h,if_neg h]
theorem made_d {W:World} {base g:Nat} {n:Bool} {ok0 ok1:Nat→Prop} {A0 A1:Option Addr} {c0 c1 a d:Nat} (hg:W.heap[g]? = some (.cells #[.slice A1 (dg B32 d).length c1] 25 (0,0))) (h0:Kd.R (Kd.int .u32) 81 W base ok0 (.slice A0 (dg B32 a).length c0) (dg B32 a)) (h1:Kd.R (Kd.int .u32) 81 W base ok1 (.slice A1 (dg B32 d).length c1) (dg B32 d)) (k0:okD (dg B32 a)) (k1:okD (dg B32 d)) (hz:d≠0) :
  Calls Tryz.prog 163 #[.bool n,.slice A0 (dg B32 a).length c0,.pointer (some ⟨g,0,none⟩)] W (RatPost W (nrm n a d)):=by
 have:=made_q n A0 c0 (dg B32 a) A1 c1 (dg B32 d) g W hg (Kd.R_reads' h0).2.2 (Kd.R_reads' h0).2.1 (Kd.R_reads' h1).2.2 (Kd.R_reads' h1).2.1 k0 k1 (by rw [zbV zby]; exact hz)
 rwa [zbV zby,zbV zby] at this
theorem fin_post {w W W':World} {g:Nat} {r:QN} {v1 v2:Value} {x y z:Value} (hbw:Below w.heap.size w W) (R1:Kd.R (Kd.int .u32) 81 W' W.heap.size (fun k_=>some k_≠v2.ownBlock) v1 (dg B32 r.2.1)) (R2:Kd.R (Kd.int .u32) 81 W' W.heap.size (fun k_=>some k_≠v1.ownBlock) v2 (dg B32 r.2.2)) (hB:Below W.heap.size W W')
  (hbox:W'.heap[g]? = some (.cells #[x,y,z] 27 (0,0))) (hg:w.heap.size≤g):RatPost w r (.returned (.agg #[.bool r.1,v1,v2])) (store3 W' g (.bool r.1) v1 v2) :=
 ⟨v1,v2,rfl,zcx (Kd.R_lower R1 hbw.size) hbox _ _ _,zcx (Kd.R_lower R2 hbw.size) hbox _ _ _,zbN (zbm hbw hB) hg _ _ _⟩
theorem add_first {X Y:QN} (h:(X.1 == Y.1)=true):addQ X Y=nrm X.1 (X.2.1*Y.2.2+Y.2.1*X.2.2) (X.2.2*Y.2.2):=by
 unfold addQ
 rw [if_pos (by simpa using h)]
theorem add_second {X Y:QN} (h:(X.1 == Y.1)=false) (hlt:¬ X.2.1*Y.2.2 < Y.2.1*X.2.2):addQ X Y=nrm X.1 (X.2.1*Y.2.2-Y.2.1*X.2.2) (X.2.2*Y.2.2):=by
 unfold addQ
 rw [if_neg (by simpa using h),if_pos (by omega)]
theorem add_third {X Y:QN} (h:(X.1 == Y.1)=false) (hlt:X.2.1*Y.2.2 < Y.2.1*X.2.2):addQ X Y=nrm Y.1 (Y.2.1*X.2.2-X.2.1*Y.2.2) (X.2.2*Y.2.2):=by
 unfold addQ
 rw [if_neg (by simpa using h),if_neg (by omega)]
theorem sum_q (b:Bool) (n1:Bool) (A1:Option Addr) (c1:Nat) (p1:List Int) (A2:Option Addr) (c2:Nat) (q1:List Int) (n2:Bool) (A3:Option Addr) (c3:Nat) (p2:List Int) (A4:Option Addr) (c4:Nat) (q2:List Int) (w:World)
  (hr1:Kd.C (Kd.int .u32) w A1 p1.length p1) (hc1:p1.length≤c1) (hr2:Kd.C (Kd.int .u32) w A2 q1.length q1) (hc2:q1.length≤c2) (hr3:Kd.C (Kd.int .u32) w A3 p2.length p2) (hc3:p2.length≤c3) (hr4:Kd.C (Kd.int .u32) w A4 q2.length q2) (hc4:q2.length≤c4)
  (hp1:okS p1) (hq1:okS q1) (hp2:okS p2) (hq2:okS q2) :
  Calls Tryz.prog 139 #[.agg #[.bool n1,.slice A1 p1.length c1,.slice A2 q1.length c2],.agg #[.bool n2,.slice A3 p2.length c3,.slice A4 q2.length c4],.func (.func 140) #[.agg #[.bool b]] #[]] w
   (RatPost w (addQ (nrm n1 (val B32 p1) (val B32 q1)) (if b then ngt (nrm n2 (val B32 p2) (val B32 q2)) else nrm n2 (val B32 p2) (val B32 q2)))):=by
 have hu25:=Tryz.underlying27
 have HNx:=Aside0.mk (fun (W:World) (hb:Below w.heap.size w W)=>norm_q n1 A1 c1 p1 A2 c2 q1 W (Kd.C_below hr1 hb) hc1 (Kd.C_below hr2 hb) hc2 hp1.okD hq1.okD)
 have HNy:=Aside0.mk (fun (W:World) (hb:Below w.heap.size w W)=>norm_q n2 A3 c3 p2 A4 c4 q2 W (Kd.C_below hr3 hb) hc3 (Kd.C_below hr4 hb) hc4 hp2.okD hq2.okD)
 have hXr:=nrm_red n1 (val B32 p1) (val B32 q1)
 have hXk:=okQ_nrm (n:=n1) hp1 hq1
 have hY0:=nrm_red n2 (val B32 p2) (val B32 q2)
 have hY0k:=okQ_nrm (n:=n2) hp2 hq2
 generalize nrm n1 (val B32 p1) (val B32 q1)=X at *
 generalize nrm n2 (val B32 p2) (val B32 q2)=Y0 at *
 have HYk:=Aside0.mk (And.intro (zcu hY0k.1 (by decide)) (zcu hY0k.2 (by decide)))
 have hYr:red (if b then ngt Y0 else Y0):=by split; exact ngt_red hY0; exact hY0
 have hYk:okQ (if b then ngt Y0 else Y0):=by split; exact okQ_ngt hY0k; exact hY0k
 obtain⟨Y,hY⟩:∃ Y,Y=(if b=true then ngt Y0 else Y0):=⟨_,rfl⟩
 have HY:=Aside0.mk hY
 rw [← hY] at hYr hYk ⊢
 have HL:=Aside0.mk (And.intro (zcu hXk.1 (by decide)) (And.intro (zcu hXk.2 (by decide)) (And.intro (zcu hYk.1 (by decide)) (zcu hYk.2 (by decide)))))
 have ma:=mul_len hXk.1 hYk.2
 have mb:=mul_len hYk.1 hXk.2
 have mdd:=mul_len hXk.2 hYk.2
 have hsub1:(dg B32 (X.2.1*Y.2.2-Y.2.1*X.2.2)).length≤274877906944:=Nat.le_trans (zbP zby (Nat.sub_le _ _)) ma
 have hsub2:(dg B32 (Y.2.1*X.2.2-X.2.1*Y.2.2)).length≤274877906944:=Nat.le_trans (zbP zby (Nat.sub_le _ _)) mb
 have hadd:(dg B32 (X.2.1*Y.2.2+Y.2.1*X.2.2)).length≤274877906945:=by
  have:=dg_length_add zby (m:=X.2.1*Y.2.2) (n:=Y.2.1*X.2.2)
  omega
 have HM:=Aside0.mk (And.intro (zcu ma (by decide)) (And.intro (zcu mb (by decide)) (And.intro (zcu mdd (by decide)) (And.intro (zcu hsub1 (by decide)) (And.intro (zcu hsub2 (by decide)) (Nat.ne_of_gt (Nat.mul_pos hXr.den hYr.den)))))))
 have HM6:=Aside0.mk (zcu hadd (by decide))
 clear ma mb mdd hsub1 hsub2 hadd
 have HK:=Aside0.mk (And.intro hXr (And.intro hXk (And.intro hYr hYk)))
 clear hY hYr hYk hXr hXk hY0k hr1 hr2 hr3 hr4 hp1 hq1 hp2 hq2
 go_enter Tryz.func139,Tryz.ntmps139
 go_wp2_with fail
 have HA:=Aside0.mk (And.intro (alloc3_old w (.cells #[.bool n1,.slice A1 p1.length c1,.slice A2 q1.length c2] 27) (.cells #[.bool n2,.slice A3 p2.length c3,.slice A4 q2.length c4] 27) (.cells #[.bool false,.slice none 0 0,.slice none 0 0] 27)) (And.intro (alloc3_mid w (.cells #[.bool n1,.slice A1 p1.length c1,.slice A2 q1.length c2] 27) (.cells #[.bool n2,.slice A3 p2.length c3,.slice A4 q2.length c4] 27) (.cells #[.bool false,.slice none 0 0,.slice none 0 0] 27)) (And.intro (alloc3_new w (.cells #[.bool n1,.slice A1 p1.length c1,.slice A2 q1.length c2] 27) (.cells #[.bool n2,.slice A3 p2.length c3,.slice A4 q2.length c4] 27) (.cells #[.bool false,.slice none 0 0,.slice none 0 0] 27)) (zcv w (.cells #[.bool n1,.slice A1 p1.length c1,.slice A2 q1.length c2] 27) (.cells #[.bool n2,.slice A3 p2.length c3,.slice A4 q2.length c4] 27) (.cells #[.bool false,.slice none 0 0,.slice none 0 0] 27)))))
 generalize (((w.alloc (.cells #[.bool n1,.slice A1 p1.length c1,.slice A2 q1.length c2] 27)).alloc (.cells #[.bool n2,.slice A3 p2.length c3,.slice A4 q2.length c4] 27)).alloc (.cells #[.bool false,.slice none 0 0,.slice none 0 0] 27))=W3 at HA ⊢
 refine zco (n:=8) (S:=(fun w'=>w'.cell? ⟨w.heap.size,0,none⟩=some (.bool n1)∧w'.cell? ⟨w.heap.size,1,none⟩=some (.slice A1 p1.length c1)∧w'.cell? ⟨w.heap.size,2,none⟩=some (.slice A2 q1.length c2)∧w'.cell? ⟨w.heap.size+1,0,none⟩=some (.bool n2)∧w'.cell? ⟨w.heap.size+1,1,none⟩=some (.slice A3 p2.length c3)∧w'.cell? ⟨w.heap.size+1,2,none⟩=some (.slice A4 q2.length c4))) (ds:=[6,7]) #[zf,zf,zf,zf,zf,zf,zf,zf] (by kernel_rfl) rfl rfl ⟨(zbq (zbu HA.out.1) 0).trans rfl,(zbq (zbu HA.out.1) 1).trans rfl,(zbq (zbu HA.out.1) 2).trans rfl,(zbq (zbu HA.out.2.1) 0).trans rfl,(zbq (zbu HA.out.2.1) 1).trans rfl,(zbq (zbu HA.out.2.1) 2).trans rfl⟩ (fun hHeld=>?_)
 have HA1:=Aside0.mk (And.intro (zbu HA.out.1) (And.intro (zbu HA.out.2.1) (And.intro (zbu HA.out.2.2.1) (zbs HA.out.2.2.2))))
 clear HA
 generalize W3.drew=W4 at HA1 hHeld ⊢
 refine qp 2 (some 17) ?_
 refine take_ (i:=0) (N:=some 15) (v:=?_) (a':=?_) #[zt,zf,zt,zf,zf,zf,zf,zf] rfl rfl (by kernel_rfl) (fun _ _ _ h=>h) (Or.inl ⟨by rfl,?_⟩) hHeld ?_ ?_
 rotate_left
 ·
  rintro w' ⟨s0,s1,s2,s3,s4,s5⟩
  go_simp
  with_reducible rfl
 rotate_left
 ·
  simp only [Act.put,zA1,zA2,zA3,zcb,zcw]
  rfl
 refine take_ (i:=3) (N:=some 18) (v:=?_) (a':=?_) #[zt,zf,zt,zt,zf,zf,zf,zf] rfl rfl (by kernel_rfl) (fun _ _ _ h=>h) (Or.inl ⟨by rfl,?_⟩) hHeld ?_ ?_
 rotate_left
 ·
  rintro w' ⟨s0,s1,s2,s3,s4,s5⟩
  go_simp
  with_reducible rfl
 rotate_left
 ·
  simp only [Act.put,zA1,zA2,zA3,zcb,zcw]
  rfl
 refine qo 1 (some 16) (fun K hK=>?_)
 refine qg Tryz.func85 #[.agg #[.bool n1,.slice A1 p1.length c1,.slice A2 q1.length c2]] ?_
 refine(HNx.out W4 HA1.out.2.2.2).mono ?_
 rintro e W5 hp
 obtain⟨vx,rfl,hRT,hB⟩:=hp.rt
 refine⟨_,rfl,?_⟩
 have HA2:=Aside0.mk (And.intro (zbr HA1.out.1 hB) (And.intro (zbr HA1.out.2.1 hB) (And.intro (zbr HA1.out.2.2.1 hB) (zbm HA1.out.2.2.2 hB))))
 have HX2:=Aside0.mk (hRT.lower HA1.out.2.2.2.size)
 clear hp hRT hB HA1
 refine hK.out _ _ ⟨(zbq HA2.out.1 0).trans rfl,(zbq HA2.out.1 1).trans rfl,(zbq HA2.out.1 2).trans rfl,(zbq HA2.out.2.1 0).trans rfl,(zbq HA2.out.2.1 1).trans rfl,(zbq HA2.out.2.1 2).trans rfl⟩ (fun hHeld=>?_)
 clear hK K
 refine qn ?_
 refine qo 4 (some 19) (fun K hK=>?_)
 refine qg Tryz.func85 #[.agg #[.bool n2,.slice A3 p2.length c3,.slice A4 q2.length c4]] ?_
 refine(HNy.out W5 HA2.out.2.2.2).mono ?_
 rintro e W6 hp
 obtain⟨vy,rfl,hRT,hB⟩:=hp.rt
 refine⟨_,rfl,?_⟩
 have HA3:=Aside0.mk (And.intro (zbr HA2.out.1 hB) (And.intro (zbr HA2.out.2.1 hB) (And.intro (zbr HA2.out.2.2.1 hB) (zbm HA2.out.2.2.2 hB))))
 have HX3:=Aside0.mk (HX2.out.below hB)
 have HY3:=Aside0.mk (hRT.lower HA2.out.2.2.2.size)
 clear hp hRT hB HA2 HX2
 refine hK.out _ _ ⟨(zbq HA3.out.1 0).trans rfl,(zbq HA3.out.1 1).trans rfl,(zbq HA3.out.1 2).trans rfl,(zbq HA3.out.2.1 0).trans rfl,(zbq HA3.out.2.1 1).trans rfl,(zbq HA3.out.2.1 2).trans rfl⟩ (fun hHeld=>?_)
 clear hK K
 refine qn ?_
 refine qo 5 (some 20) (fun K hK=>?_)
 refine call_ 140 #[.agg #[.bool b],vy] (by rfl) rfl ?_ ?_
 ·
  have he:=zcr Tryz.func140 (by kernel_rfl) rfl #[.agg #[.bool b],vy] W6
  unfold execOp
  simp [resolve,Deferred.ofValue,invoke,Act.eval,he]
 refine(take_q b W6 w.heap.size vy Y0 HY3.out hY0 HA3.out.2.2.2.size HYk.out.1 HYk.out.2).mono ?_
 rintro e W7 ⟨vz,rfl,hRT,hB⟩
 refine⟨_,rfl,?_⟩
 rw [← HY.out] at hRT
 have HA4:=Aside0.mk (And.intro (zbr HA3.out.1 hB) (And.intro (zbr HA3.out.2.1 hB) (And.intro (zbr HA3.out.2.2.1 hB) (zbm HA3.out.2.2.2 hB))))
 have HX4:=Aside0.mk (HX3.out.below hB)
 have HY4:=Aside0.mk hRT
 clear hRT hB HA3 HX3 HY3
 obtain⟨B1,d1,B2,d2,rfl,S1,S2⟩:=HX4.out.args
 obtain⟨B3,d3,B4,d4,rfl,S3,S4⟩:=HY4.out.args
 clear S1 S2 S3 S4
 refine hK.out _ _ ⟨(zbq HA4.out.1 0).trans rfl,(zbq HA4.out.1 1).trans rfl,(zbq HA4.out.1 2).trans rfl,(zbq HA4.out.2.1 0).trans rfl,(zbq HA4.out.2.1 1).trans rfl,(zbq HA4.out.2.1 2).trans rfl⟩ (fun hHeld=>?_)
 clear hK K
 refine qn ?_
 refine ql 6 none (fun K hK=>?_)
 obtain⟨⟨x0,x1,x2⟩,y0,y1,y2⟩:=zbH HA4.out.1
 obtain⟨⟨x3,x4,x5⟩,y3,y4,y5⟩:=zbH HA4.out.2.1
 refine qx ?_
 refine hK.out _ _ ?_
 clear hK K
 refine ql 7 none (fun K hK=>?_)
 refine qx ?_
 refine hK.out _ _ ?_
 clear hK K
 refine done_ (by kernel_rfl) ?_
 have HS:=Aside0.mk (two_boxes HA4.out.1 HA4.out.2.1 HA4.out.2.2.1 HA4.out.2.2.2 HX4.out HY4.out)
 clear x0 x1 x2 y0 y1 y2 x3 x4 x5 y3 y4 y5 HA4 HX4 HY4
 rw [store3_eq,store3_eq]
 generalize store3 (store3 W7 w.heap.size (.bool X.1) (.slice B1 (dg B32 X.2.1).length d1) (.slice B2 (dg B32 X.2.2).length d2)) (w.heap.size+1) (.bool Y.1) (.slice B3 (dg B32 Y.2.1).length d3) (.slice B4 (dg B32 Y.2.2).length d4)=W8 at HS ⊢
 go_wp2_with fail
 refine zco (n:=12) (S:=(fun w'=>w'.cell? ⟨w.heap.size,0,none⟩=some (.bool X.1)∧w'.cell? ⟨w.heap.size,1,none⟩=some (.slice B1 (dg B32 X.2.1).length d1)∧w'.cell? ⟨w.heap.size,2,none⟩=some (.slice B2 (dg B32 X.2.2).length d2)∧w'.cell? ⟨w.heap.size+1,0,none⟩=some (.bool Y.1)∧w'.cell? ⟨w.heap.size+1,1,none⟩=some (.slice B3 (dg B32 Y.2.1).length d3)∧w'.cell? ⟨w.heap.size+1,2,none⟩=some (.slice B4 (dg B32 Y.2.2).length d4))) (ds:=[]) #[zf,zf,zf,zf,zf,zf,zf,zf,zf,zf,zf,zf] (by kernel_rfl) rfl rfl ⟨(zbq (zbu HS.out.b3) 0).trans rfl,(zbq (zbu HS.out.b3) 1).trans rfl,(zbq (zbu HS.out.b3) 2).trans rfl,(zbq (zbu HS.out.b4) 0).trans rfl,(zbq (zbu HS.out.b4) 1).trans rfl,(zbq (zbu HS.out.b4) 2).trans rfl⟩ (fun hHeld=>?_)
 have HS1:=Aside0.mk (HS.out.below (Below.refl _ _).drew)
 clear HS
 generalize W8.drew=W9 at HS1 hHeld ⊢
 refine qp 0 (some 21) ?_
 refine qp 2 (some 23) ?_
 refine qp 5 (some 26) ?_
 refine qp 7 (some 28) ?_
 refine take_ (i:=1) (N:=some 22) (v:=?_) (a':=?_) #[zt,zt,zt,zf,zf,zt,zf,zt,zf,zf,zf,zf] rfl rfl (by kernel_rfl) (fun _ _ _ h=>h) (Or.inl ⟨by rfl,?_⟩) hHeld ?_ ?_
 rotate_left
 ·
  rintro w' ⟨s0,s1,s2,s3,s4,s5⟩
  go_simp
  with_reducible rfl
 rotate_left
 ·
  simp only [Act.put,zA1,zA2,zA3,zcb,zcw]
  rfl
 refine take_ (i:=3) (N:=some 24) (v:=?_) (a':=?_) #[zt,zt,zt,zt,zf,zt,zf,zt,zf,zf,zf,zf] rfl rfl (by kernel_rfl) (fun _ _ _ h=>h) (Or.inl ⟨by rfl,?_⟩) hHeld ?_ ?_
 rotate_left
 ·
  rintro w' ⟨s0,s1,s2,s3,s4,s5⟩
  go_simp
  with_reducible rfl
 rotate_left
 ·
  simp only [Act.put,zA1,zA2,zA3,zcb,zcw]
  rfl
 refine take_ (i:=6) (N:=some 27) (v:=?_) (a':=?_) #[zt,zt,zt,zt,zf,zt,zt,zt,zf,zf,zf,zf] rfl rfl (by kernel_rfl) (fun _ _ _ h=>h) (Or.inl ⟨by rfl,?_⟩) hHeld ?_ ?_
 rotate_left
 ·
  rintro w' ⟨s0,s1,s2,s3,s4,s5⟩
  go_simp
  with_reducible rfl
 rotate_left
 ·
  simp only [Act.put,zA1,zA2,zA3,zcb,zcw]
  rfl
 refine take_ (i:=8) (N:=some 29) (v:=?_) (a':=?_) #[zt,zt,zt,zt,zf,zt,zt,zt,zt,zf,zf,zf] rfl rfl (by kernel_rfl) (fun _ _ _ h=>h) (Or.inl ⟨by rfl,?_⟩) hHeld ?_ ?_
 rotate_left
 ·
  rintro w' ⟨s0,s1,s2,s3,s4,s5⟩
  go_simp
  with_reducible rfl
 rotate_left
 ·
  simp only [Act.put,zA1,zA2,zA3,zcb,zcw]
  rfl
 refine qo 4 (some 25) (fun K hK=>?_)
 refine qg Tryz.func162 #[.slice B1 (dg B32 X.2.1).length d1,.slice B4 (dg B32 Y.2.2).length d4] ?_
 refine(mul_d HS1.out.x1 HS1.out.y2 HL.out.1 HL.out.2.2.2).mono ?_
 rintro e W10 ⟨va,rfl,hR,hB⟩
 refine⟨_,rfl,?_⟩
 have HS2:=Aside0.mk (HS1.out.below hB)
 have HRa:=Aside0.mk (Kd.R_lower hR HS1.out.bw.size)
 obtain⟨Aa,ca,rfl⟩:=Kd.R_slice hR
 clear hR hB HS1
 refine hK.out _ _ ⟨(zbq HS2.out.b3 0).trans rfl,(zbq HS2.out.b3 1).trans rfl,(zbq HS2.out.b3 2).trans rfl,(zbq HS2.out.b4 0).trans rfl,(zbq HS2.out.b4 1).trans rfl,(zbq HS2.out.b4 2).trans rfl⟩ (fun hHeld=>?_)
 clear hK K
 refine qn ?_
 refine qo 9 (some 30) (fun K hK=>?_)
 refine qg Tryz.func162 #[.slice B3 (dg B32 Y.2.1).length d3,.slice B2 (dg B32 X.2.2).length d2] ?_
 refine(mul_d HS2.out.y1 HS2.out.x2 HL.out.2.2.1 HL.out.2.1).mono ?_
 rintro e W11 ⟨vb,rfl,hR,hB⟩
 refine⟨_,rfl,?_⟩
 have HS3:=Aside0.mk (HS2.out.below hB)
 have HRa3:=Aside0.mk (Kd.R_below HRa.out hB)
 have HRb3:=Aside0.mk (Kd.R_lower hR HS2.out.bw.size)
 obtain⟨Ab,cb,rfl⟩:=Kd.R_slice hR
 clear hR hB HS2 HRa
 refine hK.out _ _ ⟨(zbq HS3.out.b3 0).trans rfl,(zbq HS3.out.b3 1).trans rfl,(zbq HS3.out.b3 2).trans rfl,(zbq HS3.out.b4 0).trans rfl,(zbq HS3.out.b4 1).trans rfl,(zbq HS3.out.b4 2).trans rfl⟩ (fun hHeld=>?_)
 clear hK K
 refine qn ?_
 refine qp 10 (some 7) ?_
 refine qp 11 (some 8) ?_
 refine done_ (by kernel_rfl) ?_
 clear hHeld
 obtain⟨⟨x0,x1,x2⟩,y0,y1,y2⟩:=zbH HS3.out.b3
 obtain⟨⟨x3,x4,x5⟩,y3,y4,y5⟩:=zbH HS3.out.b4
 go_wp2_with fail
 clear x0 x1 x2 y0 y1 y2 x3 x4 x5 y3 y4 y5
 refine(mul_d HS3.out.x2 HS3.out.y2 HL.out.2.1 HL.out.2.2.2).mono ?_
 rintro e W12 ⟨vd,rfl,hR,hB⟩
 have HS4:=Aside0.mk (HS3.out.below hB)
 have HRa4:=Aside0.mk (Kd.R_below HRa3.out hB)
 have HRb4:=Aside0.mk (Kd.R_below HRb3.out hB)
 have HRd4:=Aside0.mk (Kd.R_lower hR HS3.out.bw.size)
 obtain⟨Ad,cd,rfl⟩:=Kd.R_slice hR
 clear hR hB HS3 HRa3 HRb3
 have hl3:w.heap.size < W12.heap.size:=zbL HS4.out.b3
 have hl4:w.heap.size+1 < W12.heap.size:=zbL HS4.out.b4
 have hl6:w.heap.size+1+1 < W12.heap.size:=zbL HS4.out.b6
 obtain⟨⟨x0,x1,x2⟩,y0,y1,y2⟩:=zbH HS4.out.b3
 obtain⟨⟨x3,x4,x5⟩,y3,y4,y5⟩:=zbH HS4.out.b4
 cases hxy:(X.1 == Y.1)
 ·
  go_wp2_with fail
  have HS5:=Aside0.mk (HS4.out.below (zbn (Below.refl _ W12) (.cells #[.slice Ad (dg B32 (X.2.2*Y.2.2)).length cd] 25)))
  have HRa5:=Aside0.mk (Kd.R_below HRa4.out (zbn (Below.refl _ W12) (.cells #[.slice Ad (dg B32 (X.2.2*Y.2.2)).length cd] 25)))
  have HRb5:=Aside0.mk (Kd.R_below HRb4.out (zbn (Below.refl _ W12) (.cells #[.slice Ad (dg B32 (X.2.2*Y.2.2)).length cd] 25)))
  have HRd5:=Aside0.mk (Kd.R_below HRd4.out (zbn (Below.refl _ W12) (.cells #[.slice Ad (dg B32 (X.2.2*Y.2.2)).length cd] 25)))
  have HG5:=Aside0.mk (zbI W12 (.cells #[.slice Ad (dg B32 (X.2.2*Y.2.2)).length cd] 25))
  clear x0 x1 x2 y0 y1 y2 x3 x4 x5 y3 y4 y5
  generalize W12.alloc (.cells #[.slice Ad (dg B32 (X.2.2*Y.2.2)).length cd] 25)=W13 at HS5 HRa5 HRb5 HRd5 HG5 ⊢
  clear HS4 HRa4 HRb4 HRd4 hl3 hl4 hl6
  refine(sub_d HRa5.out HRb5.out HM.out.1 HM.out.2.1).mono ?_
  rintro e W14 ⟨vs,rfl,hR,hB⟩
  have HS6:=Aside0.mk (HS5.out.below hB)
  have HRa6:=Aside0.mk (Kd.R_below HRa5.out hB)
  have HRb6:=Aside0.mk (Kd.R_below HRb5.out hB)
  have HRd6:=Aside0.mk (Kd.R_below HRd5.out hB)
  have HG6:=Aside0.mk (zbr HG5.out hB)
  have HRs6:=Aside0.mk (Kd.R_lower hR HS5.out.bw.size)
  obtain⟨As,cs,rfl⟩:=Kd.R_slice hR
  clear hR hB HS5 HRa5 HRb5 HRd5 HG5
  obtain⟨⟨x0,x1,x2⟩,y0,y1,y2⟩:=zbH HS6.out.b3
  obtain⟨⟨x3,x4,x5⟩,y3,y4,y5⟩:=zbH HS6.out.b4
  obtain⟨⟨x6,x7,x8⟩,y6,y7,y8⟩:=zbH HS6.out.b6
  by_cases hlt:X.2.1*Y.2.2 < Y.2.1*X.2.2
  ·
   have hlt':=Aside0.mk hlt
   simp only [if_pos hlt] at HRs6 ⊢
   clear hlt
   go_wp2_with fail
   refine(sub_d HRb6.out HRa6.out HM.out.2.1 HM.out.1).mono ?_
   rintro e W15 ⟨vt,rfl,hR,hB⟩
   have e1:¬ (Y.2.1*X.2.2 < X.2.1*Y.2.2):=by have:=hlt'.out; omega
   rw [if_neg e1] at hR
   simp only [if_neg e1]
   clear e1
   have HS7:=Aside0.mk (HS6.out.below hB)
   have HRd7:=Aside0.mk (Kd.R_below HRd6.out hB)
   have HG7:=Aside0.mk (zbr HG6.out hB)
   have HRt7:=Aside0.mk (Kd.R_lower hR HS6.out.bw.size)
   obtain⟨At,ct,rfl⟩:=Kd.R_slice hR
   clear hR hB HS6 HRa6 HRb6 HRd6 HG6
   clear x0 x1 x2 y0 y1 y2 x3 x4 x5 y3 y4 y5 x6 x7 x8 y6 y7 y8
   obtain⟨⟨x0,x1,x2⟩,y0,y1,y2⟩:=zbH HS7.out.b3
   obtain⟨⟨x3,x4,x5⟩,y3,y4,y5⟩:=zbH HS7.out.b4
   obtain⟨⟨x6,x7,x8⟩,y6,y7,y8⟩:=zbH HS7.out.b6
   go_wp2_with fail
   refine(made_d (n:=Y.1) HG7.out HRt7.out HRd7.out HM.out.2.2.2.2.1 HM.out.2.2.1 HM.out.2.2.2.2.2).mono ?_
   rintro e W16 ⟨v1,v2,rfl,R1,R2,hB⟩
   have HS8:=Aside0.mk (HS7.out.below hB)
   obtain⟨D1,e1,rfl⟩:=Kd.R_slice R1
   obtain⟨D2,e2,rfl⟩:=Kd.R_slice R2
   have HF:=Aside0.mk (fin_post HS7.out.bw R1 R2 hB HS8.out.b6 (by omega))
   clear R1 R2 hB
   clear x0 x1 x2 y0 y1 y2 x3 x4 x5 y3 y4 y5 x6 x7 x8 y6 y7 y8
   obtain⟨⟨x0,x1,x2⟩,y0,y1,y2⟩:=zbH HS8.out.b3
   obtain⟨⟨x3,x4,x5⟩,y3,y4,y5⟩:=zbH HS8.out.b4
   obtain⟨⟨x6,x7,x8⟩,y6,y7,y8⟩:=zbH HS8.out.b6
   go_wp2
   refine bodyPost_ret (results_cell_row rfl _ _ (w.heap.size+1+1) 27 _ (0,0) _ rfl (zbM HS8.out.b6 _ _ _) Tryz.underlying27 rfl (by kernel_rfl)) rfl ?_
   rw [add_third hxy hlt'.out]
   exact HF.out
  ·
   have hlt':=Aside0.mk hlt
   simp only [if_neg hlt] at HRs6 ⊢
   clear hlt
   go_wp2_with fail
   refine(made_d (n:=X.1) HG6.out HRs6.out HRd6.out HM.out.2.2.2.1 HM.out.2.2.1 HM.out.2.2.2.2.2).mono ?_
   rintro e W16 ⟨v1,v2,rfl,R1,R2,hB⟩
   have HS8:=Aside0.mk (HS6.out.below hB)
   obtain⟨D1,e1,rfl⟩:=Kd.R_slice R1
   obtain⟨D2,e2,rfl⟩:=Kd.R_slice R2
   have HF:=Aside0.mk (fin_post HS6.out.bw R1 R2 hB HS8.out.b6 (by omega))
   clear R1 R2 hB
   clear x0 x1 x2 y0 y1 y2 x3 x4 x5 y3 y4 y5 x6 x7 x8 y6 y7 y8
   obtain⟨⟨x0,x1,x2⟩,y0,y1,y2⟩:=zbH HS8.out.b3
   obtain⟨⟨x3,x4,x5⟩,y3,y4,y5⟩:=zbH HS8.out.b4
   obtain⟨⟨x6,x7,x8⟩,y6,y7,y8⟩:=zbH HS8.out.b6
   go_wp2
   refine bodyPost_ret (results_cell_row rfl _ _ (w.heap.size+1+1) 27 _ (0,0) _ rfl (zbM HS8.out.b6 _ _ _) Tryz.underlying27 rfl (by kernel_rfl)) rfl ?_
   rw [add_second hxy hlt'.out]
   exact HF.out
 ·
  go_wp2_with fail
  have HS5:=Aside0.mk (HS4.out.below (zbn (Below.refl _ W12) (.cells #[.slice Ad (dg B32 (X.2.2*Y.2.2)).length cd] 25)))
  have HRa5:=Aside0.mk (Kd.R_below HRa4.out (zbn (Below.refl _ W12) (.cells #[.slice Ad (dg B32 (X.2.2*Y.2.2)).length cd] 25)))
  have HRb5:=Aside0.mk (Kd.R_below HRb4.out (zbn (Below.refl _ W12) (.cells #[.slice Ad (dg B32 (X.2.2*Y.2.2)).length cd] 25)))
  have HRd5:=Aside0.mk (Kd.R_below HRd4.out (zbn (Below.refl _ W12) (.cells #[.slice Ad (dg B32 (X.2.2*Y.2.2)).length cd] 25)))
  have HG5:=Aside0.mk (zbI W12 (.cells #[.slice Ad (dg B32 (X.2.2*Y.2.2)).length cd] 25))
  clear x0 x1 x2 y0 y1 y2 x3 x4 x5 y3 y4 y5
  generalize W12.alloc (.cells #[.slice Ad (dg B32 (X.2.2*Y.2.2)).length cd] 25)=W13 at HS5 HRa5 HRb5 HRd5 HG5 ⊢
  clear HS4 HRa4 HRb4 HRd4 hl3 hl4 hl6
  refine zco (n:=8) (S:=(fun w'=>w'.cell? ⟨w.heap.size,0,none⟩=some (.bool X.1)∧w'.cell? ⟨w.heap.size,1,none⟩=some (.slice B1 (dg B32 X.2.1).length d1)∧w'.cell? ⟨w.heap.size,2,none⟩=some (.slice B2 (dg B32 X.2.2).length d2)∧w'.cell? ⟨w.heap.size+1,0,none⟩=some (.bool Y.1)∧w'.cell? ⟨w.heap.size+1,1,none⟩=some (.slice B3 (dg B32 Y.2.1).length d3)∧w'.cell? ⟨w.heap.size+1,2,none⟩=some (.slice B4 (dg B32 Y.2.2).length d4))) (ds:=[7]) #[zf,zf,zf,zf,zf,zf,zf,zf] (by kernel_rfl) rfl rfl ⟨(zbq (zbu HS5.out.b3) 0).trans rfl,(zbq (zbu HS5.out.b3) 1).trans rfl,(zbq (zbu HS5.out.b3) 2).trans rfl,(zbq (zbu HS5.out.b4) 0).trans rfl,(zbq (zbu HS5.out.b4) 1).trans rfl,(zbq (zbu HS5.out.b4) 2).trans rfl⟩ (fun hHeld=>?_)
  have HS6:=Aside0.mk (HS5.out.below (Below.refl _ _).drew)
  have HRa6:=Aside0.mk (Kd.R_drew HRa5.out)
  have HRb6:=Aside0.mk (Kd.R_drew HRb5.out)
  have HRd6:=Aside0.mk (Kd.R_drew HRd5.out)
  have HG6:=Aside0.mk (zbu HG5.out)
  clear HS5 HRa5 HRb5 HRd5 HG5
  generalize W13.drew=W14 at HS6 HRa6 HRb6 HRd6 HG6 hHeld ⊢
  refine qp 0 (some 42) ?_
  refine qp 1 (some 43) ?_
  refine qp 3 (some 45) ?_
  refine qp 4 (some 46) ?_
  refine take_ (i:=2) (N:=some 44) (v:=?_) (a':=?_) #[zt,zt,zt,zt,zt,zf,zf,zf] rfl rfl (by kernel_rfl) (fun _ _ _ h=>h) (Or.inl ⟨by rfl,?_⟩) hHeld ?_ ?_
  rotate_left
  ·
   rintro w' ⟨s0,s1,s2,s3,s4,s5⟩
   go_simp
   with_reducible rfl
  rotate_left
  ·
   simp only [Act.put,zA1,zA2,zA3,zcb,zcw]
   rfl
  refine qo 5 (some 47) (fun K hK=>?_)
  refine qg Tryz.func164 #[.slice Aa (dg B32 (X.2.1*Y.2.2)).length ca,.slice Ab (dg B32 (Y.2.1*X.2.2)).length cb] ?_
  refine(add_d HRa6.out HRb6.out HM.out.1 HM.out.2.1).mono ?_
  rintro e W15 ⟨vs,rfl,hR,hB⟩
  refine⟨_,rfl,?_⟩
  have HS7:=Aside0.mk (HS6.out.below hB)
  have HRd7:=Aside0.mk (Kd.R_below HRd6.out hB)
  have HG7:=Aside0.mk (zbr HG6.out hB)
  have HRs7:=Aside0.mk (Kd.R_lower hR HS6.out.bw.size)
  obtain⟨As,cs,rfl⟩:=Kd.R_slice hR
  clear hR hB HS6 HRa6 HRb6 HRd6 HG6
  refine hK.out _ _ ⟨(zbq HS7.out.b3 0).trans rfl,(zbq HS7.out.b3 1).trans rfl,(zbq HS7.out.b3 2).trans rfl,(zbq HS7.out.b4 0).trans rfl,(zbq HS7.out.b4 1).trans rfl,(zbq HS7.out.b4 2).trans rfl⟩ (fun hHeld=>?_)
  clear hK K
  refine qn ?_
  refine qo 6 (some 48) (fun K hK=>?_)
  refine call_ 163 #[.bool X.1,.slice As (dg B32 (X.2.1*Y.2.2+Y.2.1*X.2.2)).length cs,.pointer (some ⟨W12.heap.size,0,none⟩)] (by rfl) rfl ?_ ?_
  ·
   have he:=zcr Tryz.func163 (by kernel_rfl) rfl #[.bool X.1,.slice As (dg B32 (X.2.1*Y.2.2+Y.2.1*X.2.2)).length cs,.pointer (some ⟨W12.heap.size,0,none⟩)] W15
   unfold execOp
   simp [resolve,Deferred.ofValue,invoke,Act.eval,he]
  refine(made_d (n:=X.1) HG7.out HRs7.out HRd7.out HM6.out HM.out.2.2.1 HM.out.2.2.2.2.2).mono ?_
  rintro e W16 ⟨v1,v2,rfl,R1,R2,hB⟩
  refine⟨_,rfl,?_⟩
  have HS8:=Aside0.mk (HS7.out.below hB)
  obtain⟨D1,e1,rfl⟩:=Kd.R_slice R1
  obtain⟨D2,e2,rfl⟩:=Kd.R_slice R2
  have HF:=Aside0.mk (fin_post HS7.out.bw R1 R2 hB HS8.out.b6 (by omega))
  clear R1 R2 hB
  refine hK.out _ _ ⟨(zbq HS8.out.b3 0).trans rfl,(zbq HS8.out.b3 1).trans rfl,(zbq HS8.out.b3 2).trans rfl,(zbq HS8.out.b4 0).trans rfl,(zbq HS8.out.b4 1).trans rfl,(zbq HS8.out.b4 2).trans rfl⟩ (fun hHeld=>?_)
  clear hK K
  refine qn ?_
  refine ql 7 none (fun K hK=>?_)
  obtain⟨⟨x6,x7,x8⟩,y6,y7,y8⟩:=zbH HS8.out.b6
  refine qx ?_
  refine hK.out _ _ ?_
  clear hK K
  refine done_ (by kernel_rfl) ?_
  go_wp2
  refine bodyPost_ret (results_cell_row rfl _ _ (w.heap.size+1+1) 27 _ (0,0) _ rfl (zbM HS8.out.b6 _ _ _) Tryz.underlying27 rfl (by kernel_rfl)) rfl ?_
  rw [add_first hxy]
  exact HF.out
end Go.Proofs.YtehghijlchpeaaaGreat.Nat1
end
section
namespace Go.Proofs.YtehghijlchpeaaaGreat.Nat1
open Go.RowKit YtehghijlchpeaaaGreatW.PrintWords YtehghijlchpeaaaGreatW.PrintLast YtehghijlchpeaaaGreatW.PrintMore L Nt
theorem addR_q (n1:Bool) (A1:Option Addr) (c1:Nat) (p1:List Int) (A2:Option Addr) (c2:Nat) (q1:List Int) (n2:Bool) (A3:Option Addr) (c3:Nat) (p2:List Int) (A4:Option Addr) (c4:Nat) (q2:List Int) (w:World)
  (hr1:Kd.C (Kd.int .u32) w A1 p1.length p1) (hc1:p1.length≤c1) (hr2:Kd.C (Kd.int .u32) w A2 q1.length q1) (hc2:q1.length≤c2) (hr3:Kd.C (Kd.int .u32) w A3 p2.length p2) (hc3:p2.length≤c3) (hr4:Kd.C (Kd.int .u32) w A4 q2.length q2) (hc4:q2.length≤c4)
  (hp1:okS p1) (hq1:okS q1) (hp2:okS p2) (hq2:okS q2) :
  Calls Tryz.prog 93 #[.agg #[.bool n1,.slice A1 p1.length c1,.slice A2 q1.length c2],.agg #[.bool n2,.slice A3 p2.length c3,.slice A4 q2.length c4]] w
   (RatPost w (addQ (nrm n1 (val B32 p1) (val B32 q1)) (if false then ngt (nrm n2 (val B32 p2) (val B32 q2)) else nrm n2 (val B32 p2) (val B32 q2)))):=by
 have hu25:=Tryz.underlying27
 have hu92:=Tryz.underlying148
 have HS:=Aside0.mk (fun (W:World) (hb:Below w.heap.size w W)=>sum_q false n1 A1 c1 p1 A2 c2 q1 n2 A3 c3 p2 A4 c4 q2 W (Kd.C_below hr1 hb) hc1 (Kd.C_below hr2 hb) hc2 (Kd.C_below hr3 hb) hc3 (Kd.C_below hr4 hb) hc4 hp1 hq1 hp2 hq2)
 generalize addQ (nrm n1 (val B32 p1) (val B32 q1)) (if false=true then ngt (nrm n2 (val B32 p2) (val B32 q2)) else nrm n2 (val B32 p2) (val B32 q2))=r at *
 clear hr1 hr2 hr3 hr4 hp1 hq1 hp2 hq2
 go_enter Tryz.func93,Tryz.ntmps93
 go_wp2_with fail
 have hbox:=alloc3_new w (.cells #[.bool n1,.slice A1 p1.length c1,.slice A2 q1.length c2] 27) (.cells #[.bool n2,.slice A3 p2.length c3,.slice A4 q2.length c4] 27) (.cells #[.bool false,.slice none 0 0,.slice none 0 0] 27)
 have hbw:=zcv w (.cells #[.bool n1,.slice A1 p1.length c1,.slice A2 q1.length c2] 27) (.cells #[.bool n2,.slice A3 p2.length c3,.slice A4 q2.length c4] 27) (.cells #[.bool false,.slice none 0 0,.slice none 0 0] 27)
 generalize (((w.alloc (.cells #[.bool n1,.slice A1 p1.length c1,.slice A2 q1.length c2] 27)).alloc (.cells #[.bool n2,.slice A3 p2.length c3,.slice A4 q2.length c4] 27)).alloc (.cells #[.bool false,.slice none 0 0,.slice none 0 0] 27))=W3 at hbox hbw ⊢
 refine(HS.out W3 hbw).mono ?_
 rintro e W4 ⟨v1,v2,rfl,R1,R2,hB⟩
 have HBX:=Aside0.mk (zbr hbox hB)
 obtain⟨D1,e1,rfl⟩:=Kd.R_slice R1
 obtain⟨D2,e2,rfl⟩:=Kd.R_slice R2
 have HF:=Aside0.mk (fin_post hbw R1 R2 hB HBX.out (by omega))
 obtain⟨⟨x0,x1,x2⟩,y0,y1,y2⟩:=zbH HBX.out
 clear R1 R2 hB hbox hbw
 go_wp2
 refine bodyPost_ret (results_cell_row rfl _ _ (w.heap.size+1+1) 27 _ (0,0) _ rfl (zbM HBX.out _ _ _) Tryz.underlying27 rfl (by kernel_rfl)) rfl ?_
 exact HF.out
end Go.Proofs.YtehghijlchpeaaaGreat.Nat1
end
section
namespace Go.Proofs.YtehghijlchpeaaaGreat.Nat1
open Go.RowKit YtehghijlchpeaaaGreatW.PrintWords YtehghijlchpeaaaGreatW.PrintLast YtehghijlchpeaaaGreatW.PrintMore L Nt
theorem int_one:H.rat_Int.f 1=some (false,dg B32 1,dg B32 1):=by
 unfold H.rat_Int.f H.rat_size.f
 rw [if_neg (by decide),show IntKind.u64.wrap 1=1 by decide,nat_Of.f,if_pos (by decide),Option.bind_some,Option.bind_some,H.rat_one.f,nat_Of.f,if_pos (by decide),Option.bind_some,Option.bind_some]
 rfl
theorem product_two {n1 n2:Bool} {p1 q1 p2 q2:List Int} (hp1:okS p1) (hq1:okS q1) (hp2:okS p2) (hq2:okS q2) :
  ∃ k,J.rat_product.f k [⟨n1,p1,q1⟩,⟨n2,p2,q2⟩]=some ((mulQ (nrm n1 (val B32 p1) (val B32 q1)) (nrm n2 (val B32 p2) (val B32 q2))).1,dg B32 (mulQ (nrm n1 (val B32 p1) (val B32 q1)) (nrm n2 (val B32 p2) (val B32 q2))).2.1,dg B32 (mulQ (nrm n1 (val B32 p1) (val B32 q1)) (nrm n2 (val B32 p2) (val B32 q2))).2.2):=by
 have nx:=norm_f (n:=n1) hp1.okD hq1.okD
 have ny:=norm_f (n:=n2) hp2.okD hq2.okD
 have rx:=nrm_red n1 (val B32 p1) (val B32 q1)
 have ry:=nrm_red n2 (val B32 p2) (val B32 q2)
 have kx:=okQ_nrm (n:=n1) hp1 hq1
 have ky:=okQ_nrm (n:=n2) hp2 hq2
 generalize nrm n1 (val B32 p1) (val B32 q1)=X at *
 generalize nrm n2 (val B32 p2) (val B32 q2)=Y at *
 have k1:okD (dg B32 1):=⟨dg_ok zby _,by have:=zbS zby (show 1 < B32 ^ 1 by decide); omega⟩
 have x1:=zcu kx.1 (by decide)
 have x2:=zcu kx.2 (by decide)
 have y1:=zcu ky.1 (by decide)
 have y2:=zcu ky.2 (by decide)
 obtain⟨m1,e1⟩:=mul_spec k1 x1
 obtain⟨m2,e2⟩:=mul_spec k1 x2
 obtain⟨m3,e3⟩:=mul_spec x1 y1
 obtain⟨m4,e4⟩:=mul_spec x2 y2
 simp only [zbV zby,Nat.one_mul] at e1 e2 e3 e4
 have o1:=zcu (mul_len kx.1 ky.1) (by decide)
 have o2:=zcu (mul_len kx.2 ky.2) (by decide)
 have hd:X.2.2*Y.2.2≠0:=Nat.ne_of_gt (Nat.mul_pos rx.den ry.den)
 refine⟨m1+m2+m3+m4+3,?_⟩
 generalize hm:m1+m2+m3+m4=m
 have w1:wrap64 (0+1)=1:=by unfold wrap64; omega
 have w2:wrap64 (1+1)=2:=by unfold wrap64; omega
 unfold J.rat_product.f
 rw [int_one,Option.bind_some]
 simp only [List.length_cons,List.length_nil]
 rw [show (((0+1+1:Nat):Int))=2 by decide,show m+3=(m+2)+1 by omega,J.rat_product.l0,if_pos (by decide),if_pos (by decide),if_pos (by simp)]
 rw [show J.rd_T27 [⟨n1,p1,q1⟩,⟨n2,p2,q2⟩] 0=⟨n1,p1,q1⟩ by rfl]
 simp only []
 rw [nx,Option.bind_some,e1 _ (by omega),Option.bind_some,e2 _ (by omega),Option.bind_some,rat_Make.f,if_pos ⟨x1,x2⟩,Option.bind_some,zbV zby,zbV zby,mkR_eq,if_neg (Nat.ne_of_gt rx.den),Bool.false_bne,nrm_of_red rx,w1]
 simp only []
 rw [show m+2=(m+1)+1 by omega,J.rat_product.l0,if_pos (by decide),if_pos (by decide),if_pos (by simp)]
 rw [show J.rd_T27 [⟨n1,p1,q1⟩,⟨n2,p2,q2⟩] 1=⟨n2,p2,q2⟩ by rfl]
 simp only []
 rw [ny,Option.bind_some,e3 _ (by omega),Option.bind_some,e4 _ (by omega),Option.bind_some,rat_Make.f,if_pos ⟨o1,o2⟩,Option.bind_some,zbV zby,zbV zby,mkR_eq,if_neg hd,w2]
 simp only []
 rw [J.rat_product.l0,if_neg (by decide)]
 rfl
theorem product_q (n1:Bool) (A1:Option Addr) (c1:Nat) (p1:List Int) (A2:Option Addr) (c2:Nat) (q1:List Int) (n2:Bool) (A3:Option Addr) (c3:Nat) (p2:List Int) (A4:Option Addr) (c4:Nat) (q2:List Int) (g:Nat) (t:TypeId) (w:World)
  (hg:w.heap[g]? = some (.cells #[.bool n1,.slice A1 p1.length c1,.slice A2 q1.length c2,.bool n2,.slice A3 p2.length c3,.slice A4 q2.length c4] t (0,0)))
  (hr1:Kd.C (Kd.int .u32) w A1 p1.length p1) (hc1:p1.length≤c1) (hr2:Kd.C (Kd.int .u32) w A2 q1.length q1) (hc2:q1.length≤c2) (hr3:Kd.C (Kd.int .u32) w A3 p2.length p2) (hc3:p2.length≤c3) (hr4:Kd.C (Kd.int .u32) w A4 q2.length q2) (hc4:q2.length≤c4)
  (hp1:okS p1) (hq1:okS q1) (hp2:okS p2) (hq2:okS q2) :
  Calls Tryz.prog 141 #[.slice (some ⟨g,0,none⟩) 2 2] w (RatPost w (mulQ (nrm n1 (val B32 p1) (val B32 q1)) (nrm n2 (val B32 p2) (val B32 q2)))):=by
 obtain⟨k,hk⟩:=product_two (n1:=n1) (n2:=n2) hp1 hq1 hp2 hq2
 refine J.rat_product.calls k (some ⟨g,0,none⟩) 2 [⟨n1,p1,q1⟩,⟨n2,p2,q2⟩] _ _ _ w ?_ (Nat.le_refl _) hk
 refine⟨rfl,by simp,fun _=>⟨_,rfl,fun j p hj=>?_⟩⟩
 have hc:=zbq hg
 match j,hj with
 | 0,hj =>
  cases hj
  refine⟨_,rfl,J.k27_mk w ⟨n1,p1,q1⟩ hc1 hr1 hc2 hr2,fun i u hi=>?_⟩
  match i,hi with
  | 0,hi=>cases hi; exact hc 0
  | 1,hi=>cases hi; exact hc 1
  | 2,hi=>cases hi; exact hc 2
  | i+3,hi=>simp at hi
 | 1,hj =>
  cases hj
  refine⟨_,rfl,J.k27_mk w ⟨n2,p2,q2⟩ hc3 hr3 hc4 hr4,fun i u hi=>?_⟩
  match i,hi with
  | 0,hi=>cases hi; exact hc 3
  | 1,hi=>cases hi; exact hc 4
  | 2,hi=>cases hi; exact hc 5
  | i+3,hi=>simp at hi
 | j+2,hj=>simp at hj
theorem mulR_q (n1:Bool) (A1:Option Addr) (c1:Nat) (p1:List Int) (A2:Option Addr) (c2:Nat) (q1:List Int) (n2:Bool) (A3:Option Addr) (c3:Nat) (p2:List Int) (A4:Option Addr) (c4:Nat) (q2:List Int) (w:World)
  (hr1:Kd.C (Kd.int .u32) w A1 p1.length p1) (hc1:p1.length≤c1) (hr2:Kd.C (Kd.int .u32) w A2 q1.length q1) (hc2:q1.length≤c2) (hr3:Kd.C (Kd.int .u32) w A3 p2.length p2) (hc3:p2.length≤c3) (hr4:Kd.C (Kd.int .u32) w A4 q2.length q2) (hc4:q2.length≤c4)
  (hp1:okS p1) (hq1:okS q1) (hp2:okS p2) (hq2:okS q2) :
  Calls Tryz.prog 94 #[.agg #[.bool n1,.slice A1 p1.length c1,.slice A2 q1.length c2],.agg #[.bool n2,.slice A3 p2.length c3,.slice A4 q2.length c4]] w
   (RatPost w (mulQ (nrm n1 (val B32 p1) (val B32 q1)) (nrm n2 (val B32 p2) (val B32 q2)))):=by
 have hu25:=Tryz.underlying27
 have HS:=Aside0.mk (fun (g t:Nat) (W:World) hg (hb:Below w.heap.size w W)=>product_q n1 A1 c1 p1 A2 c2 q1 n2 A3 c3 p2 A4 c4 q2 g t W hg (Kd.C_below hr1 hb) hc1 (Kd.C_below hr2 hb) hc2 (Kd.C_below hr3 hb) hc3 (Kd.C_below hr4 hb) hc4 hp1 hq1 hp2 hq2)
 generalize mulQ (nrm n1 (val B32 p1) (val B32 q1)) (nrm n2 (val B32 p2) (val B32 q2))=r at *
 clear hr1 hr2 hr3 hr4 hp1 hq1 hp2 hq2
 go_enter Tryz.func94,Tryz.ntmps94
 go_wp2_with fail
 have hbox:=alloc3_new w (.cells #[.bool n1,.slice A1 p1.length c1,.slice A2 q1.length c2] 27) (.cells #[.bool n2,.slice A3 p2.length c3,.slice A4 q2.length c4] 27) (.cells #[.bool false,.slice none 0 0,.slice none 0 0] 27)
 have hbw:=zcv w (.cells #[.bool n1,.slice A1 p1.length c1,.slice A2 q1.length c2] 27) (.cells #[.bool n2,.slice A3 p2.length c3,.slice A4 q2.length c4] 27) (.cells #[.bool false,.slice none 0 0,.slice none 0 0] 27)
 have hsz:=alloc3_size w (.cells #[.bool n1,.slice A1 p1.length c1,.slice A2 q1.length c2] 27) (.cells #[.bool n2,.slice A3 p2.length c3,.slice A4 q2.length c4] 27) (.cells #[.bool false,.slice none 0 0,.slice none 0 0] 27)
 generalize (((w.alloc (.cells #[.bool n1,.slice A1 p1.length c1,.slice A2 q1.length c2] 27)).alloc (.cells #[.bool n2,.slice A3 p2.length c3,.slice A4 q2.length c4] 27)).alloc (.cells #[.bool false,.slice none 0 0,.slice none 0 0] 27))=W3 at hbox hbw hsz ⊢
 have hg:=zbI W3 (.cells #[.bool n1,.slice A1 p1.length c1,.slice A2 q1.length c2,.bool n2,.slice A3 p2.length c3,.slice A4 q2.length c4] 27)
 have hb4:Below W3.heap.size W3 (W3.alloc (.cells #[.bool n1,.slice A1 p1.length c1,.slice A2 q1.length c2,.bool n2,.slice A3 p2.length c3,.slice A4 q2.length c4] 27)):=zbn (Below.refl _ _) _
 rw [hsz] at hg
 generalize W3.alloc (.cells #[.bool n1,.slice A1 p1.length c1,.slice A2 q1.length c2,.bool n2,.slice A3 p2.length c3,.slice A4 q2.length c4] 27)=W4 at hg hb4 ⊢
 refine(HS.out _ _ W4 hg (zbm hbw hb4)).mono ?_
 rintro e W5 ⟨v1,v2,rfl,R1,R2,hB⟩
 have HBX:=Aside0.mk (zbr (zbr hbox hb4) hB)
 obtain⟨D1,e1,rfl⟩:=Kd.R_slice R1
 obtain⟨D2,e2,rfl⟩:=Kd.R_slice R2
 have HF:=Aside0.mk (fin_post (zbm hbw hb4) R1 R2 hB HBX.out (by omega))
 obtain⟨⟨x0,x1,x2⟩,y0,y1,y2⟩:=zbH HBX.out
 clear R1 R2 hB hbox hbw hg hb4 hsz
 go_wp2
 refine bodyPost_ret (results_cell_row rfl _ _ (w.heap.size+1+1) 27 _ (0,0) _ rfl (zbM HBX.out _ _ _) Tryz.underlying27 rfl (by kernel_rfl)) rfl ?_
 exact HF.out
theorem okS_dg {n:Nat} (h:(dg B32 n).length≤137438953472):okS (dg B32 n):=⟨dg_ok zby _,h⟩
end Go.Proofs.YtehghijlchpeaaaGreat.Nat1
end
section
namespace Go.Proofs.YtehghijlchpeaaaGreat.Ev
open Go.RowKit YtehghijlchpeaaaGreatW.PrintWords YtehghijlchpeaaaGreatW.PrintLast YtehghijlchpeaaaGreatW.PrintMore L Nt Nat1
def Ev {α:Type} (F:Nat→Option α) (a:α):Prop:=∃ k,∀ k',k≤k'→F k'=some a
theorem Ev.some {α:Type} (a:α):Ev (fun _=>Option.some a) a:=⟨0,fun _ _=>rfl⟩
theorem Ev.bind {α β:Type} {F:Nat→Option α} {G:Nat→α→Option β} {a:α} {b:β} (h:Ev F a) (g:Ev (fun k=>G k a) b):Ev (fun k=>(F k).bind (G k)) b:=by
 obtain⟨k1,h1⟩:=h
 obtain⟨k2,h2⟩:=g
 refine⟨max k1 k2,fun k hk=>?_⟩
 simp only []
 rw [h1 k (by omega),Option.bind_some]
 exact h2 k (by omega)
theorem Ev.succ {α:Type} {F:Nat→Option α} {a:α} (h:Ev (fun k=>F (k+1)) a):Ev F a:=by
 obtain⟨k,h⟩:=h
 refine⟨k+1,fun k' hk=>?_⟩
 have:=h (k'-1) (by omega)
 simp only [] at this
 rwa [show k'-1+1=k' by omega] at this
theorem Ev.congr {α:Type} {F G:Nat→Option α} {a:α} (h:Ev F a) (e:∀ k,G k=F k):Ev G a:=by
 obtain⟨k,h⟩:=h
 exact⟨k,fun k' hk=>(e k').trans (h k' hk)⟩
theorem zb5:2≤10000:=by decide
theorem okD_ (n:Nat):ok 10000 (dg 10000 n):=dg_ok zb5 n
theorem D_zero:dg 10000 0=[]:=zbT _
theorem D_pos {n:Nat} (h:0 < n):dg 10000 n=((n % 10000:Nat):Int) :: dg 10000 (n / 10000):=dg_pos zb5 h
theorem D_nil {n:Nat}:dg 10000 n=[] ↔ n=0:=zcl zb5 n
theorem len_pos {n:Nat}:0 < (dg 10000 n).length ↔ 0 < n:=by
 rw [List.length_pos_iff]
 constructor
 ·
  intro h
  rcases Nat.eq_zero_or_pos n with h0 | h0
  ·
   exact absurd (D_nil.2 h0) h
  ·
   exact h0
 ·
  intro h e
  have:=D_nil.1 e
  omega
theorem len_succ {n:Nat} (h:0 < n):(dg 10000 n).length=(dg 10000 (n / 10000)).length+1:=by rw [D_pos h]; rfl
theorem zb7 (n i:Nat):n / 10000 ^ (i+1)=n / 10000 ^ i / 10000:=by rw [Nat.pow_succ,Nat.div_div_eq_div_mul]
theorem D_at (i:Nat):∀ n:Nat,(i < (dg 10000 n).length ↔ 0 < n / 10000 ^ i)∧(dg 10000 n).getD i 0=((n / 10000 ^ i % 10000:Nat):Int):=by
 induction i with
 | zero =>
  intro n
  rw [Nat.pow_zero,Nat.div_one]
  refine⟨len_pos,?_⟩
  rcases Nat.eq_zero_or_pos n with h | h
  ·
   subst h; rw [D_zero]; rfl
  ·
   rw [D_pos h]; rfl
 | succ i ih =>
  intro n
  rcases Nat.eq_zero_or_pos n with h | h
  ·
   subst h
   rw [D_zero]
   simp
  ·
   have e:n / 10000 ^ (i+1)=n / 10000 / 10000 ^ i:=by rw [Nat.pow_succ,Nat.mul_comm,Nat.div_div_eq_div_mul]
   rw [D_pos h,e]
   obtain⟨h1,h2⟩:=ih (n / 10000)
   exact⟨by rw [List.length_cons,Nat.add_lt_add_iff_right]; exact h1,by rw [List.getD_cons_succ]; exact h2⟩
theorem rd_getD (l:List Int) (i:Nat):rd l (i:Int)=l.getD i 0:=by simp [rd]
theorem rd_D (n i:Nat):rd (dg 10000 n) (i:Int)=((n / 10000 ^ i % 10000:Nat):Int):=by rw [rd_getD]; exact(D_at i n).2
theorem digit_D (n i:Nat):fluxionref01_digit.f (dg 10000 n) (i:Int)=some ((n / 10000 ^ i % 10000:Nat):Int):=by
 unfold fluxionref01_digit.f
 by_cases h:i < (dg 10000 n).length
 ·
  rw [if_pos (by omega),if_pos (by omega),rd_D]
 ·
  rw [if_neg (by omega)]
  have h1:n / 10000 ^ i=0:=by
   rcases Nat.eq_zero_or_pos (n / 10000 ^ i) with h2 | h2
   ·
    exact h2
   ·
    exact absurd ((D_at i n).1.2 h2) h
  rw [h1]
  rfl
theorem w64 {x:Int} (h0:-9223372036854775808≤x) (h1:x < 9223372036854775808):wrap64 x=x:=by unfold wrap64; omega
theorem tmod_nat (n:Nat):Int.tmod ((n:Nat):Int) 10000=((n % 10000:Nat):Int):=rfl
theorem tdiv_nat (n:Nat):Int.tdiv ((n:Nat):Int) 10000=((n / 10000:Nat):Int):=rfl
theorem w_nat {n:Nat} (h:n < 9223372036854775808):wrap64 ((n:Nat):Int)=((n:Nat):Int):=w64 (by omega) (by omega)
theorem w_succ {i:Nat} (h:i < 9223372036854775807):wrap64 ((i:Int)+1)=((i+1:Nat):Int):=by rw [w64 (by omega) (by omega)]; omega
theorem w_pred {i:Nat} (h:i < 9223372036854775807):wrap64 (((i+1:Nat):Int)-1)=(i:Int):=by rw [w64 (by omega) (by omega)]; omega
theorem add_w {x y c:Nat} (hx:x < 10000) (hy:y < 10000) (hc:c≤1):wrap64 ((wrap64 ((x:Int)+(y:Int)))+(c:Int))=((x+y+c:Nat):Int):=by
 rw [w64 (x:=(x:Int)+(y:Int)) (by omega) (by omega),w64 (by omega) (by omega)]
 omega
theorem mul_w {x d c:Nat} (hx:x < 10000) (hd:d≤4294967296) (hc:c≤4294967296):wrap64 ((wrap64 ((x:Int)*(d:Int)))+(c:Int))=((x*d+c:Nat):Int):=by
 have h:x*d≤9999*4294967296:=Nat.mul_le_mul (by omega) hd
 rw [← Int.natCast_mul]
 generalize x*d=v at *
 rw [w64 (x:=(v:Int)) (by omega) (by omega),w64 (by omega) (by omega)]
 omega
theorem trim_loop (l:List Int) (hl:l.length≤4611686018427387904) (i:Nat):i≤l.length→(∀ x∈l.drop i,x=0)→∃ t:Nat,t≤i∧(∀ x∈l.drop t,x=0)∧can (l.take t)∧Ev (fun k=>fluxionref01_trim.l0 k l (i:Int)) (l.take t):=by
 induction i with
 | zero =>
  intro _ hz
  refine⟨0,Nat.le_refl _,hz,by simp [can_nil],Ev.succ (Ev.congr (Ev.some _) (fun k=>?_))⟩
  rw [fluxionref01_trim.l0,if_neg (by omega),if_pos (by omega),if_pos (by omega)]
  rfl
 | succ i ih =>
  intro hi hz
  have ew:wrap64 (((i+1:Nat):Int)-1)=(i:Int):=by rw [w64 (by omega) (by omega)]; omega
  have er:=rd_eq l (i:Int) (by omega) (by rw [Int.toNat_natCast]; omega)
  simp only [Int.toNat_natCast] at er
  by_cases h0:l[i]=0
  ·
   obtain⟨t,h1,h2,h3,h4⟩:=ih (by omega) (drop_pred l i (by omega) hz h0)
   refine⟨t,by omega,h2,h3,Ev.succ (Ev.congr h4 (fun k=>?_))⟩
   rw [fluxionref01_trim.l0,if_pos (by omega),ew,if_pos (by omega),if_pos (by omega),er,if_pos h0]
  ·
   refine⟨i+1,Nat.le_refl _,hz,?_,Ev.succ (Ev.congr (Ev.some _) (fun k=>?_))⟩
   ·
    intro x hx
    rw [List.getLast?_eq_getElem?,List.length_take,Nat.min_eq_left (by omega),List.getElem?_take,if_pos (by omega),Nat.add_sub_cancel,List.getElem?_eq_getElem (by omega)] at hx
    cases hx
    exact h0
   ·
    rw [fluxionref01_trim.l0,if_pos (by omega),ew,if_pos (by omega),if_pos (by omega),er,if_neg h0,if_pos (by omega),if_pos (by omega)]
    rfl
theorem trim_ev {l:List Int} (hl:l.length≤4611686018427387904) (h:ok 10000 l):Ev (fun k=>fluxionref01_trim.f k l) (dg 10000 (val 10000 l)):=by
 obtain⟨t,h1,h2,h3,h4⟩:=trim_loop l hl l.length (Nat.le_refl _) (by simp)
 rw [← top_dg zb5 h h2 h3]
 exact h4
def sm (n:Nat):Prop:=(dg 10000 n).length≤1099511627776
theorem pow_le_of_div {n i:Nat} (h:0 < n / 10000 ^ i):i < (dg 10000 n).length:=(D_at i n).1.2 h
theorem add_round {a b i c:Nat} {k:Nat} {out:List Int} {x y:Nat} (da:fluxionref01_digit.f (dg 10000 a) (i:Int)=some (x:Int)) (db:fluxionref01_digit.f (dg 10000 b) (i:Int)=some (y:Int)) (hx:x < 10000) (hy:y < 10000) (hc:c≤1) (hi:i < 17592186044416) (hl:out.length=i)
  (hgo:i < (dg 10000 a).length∨i < (dg 10000 b).length∨0 < c) :
  fluxionref01_Add.l0 (k+1+1) (dg 10000 a) (dg 10000 b) out (c:Int) (i:Int)=fluxionref01_Add.l0 k (dg 10000 a) (dg 10000 b) (out++[(((x+y+c) % 10000:Nat):Int)]) (((x+y+c) / 10000:Nat):Int) ((i+1:Nat):Int):=by
 have hj:fluxionref01_Add.j1 (k+1) (dg 10000 a) (dg 10000 b) out (c:Int) (i:Int) true=fluxionref01_Add.l0 k (dg 10000 a) (dg 10000 b) (out++[(((x+y+c) % 10000:Nat):Int)]) (((x+y+c) / 10000:Nat):Int) ((i+1:Nat):Int):=by
  rw [fluxionref01_Add.j1,if_pos rfl,da,Option.bind_some,db,Option.bind_some,if_pos (by omega),add_w hx hy hc,tmod_nat,tdiv_nat,w_nat (by omega),w_succ (by omega)]
 rw [fluxionref01_Add.l0]
 by_cases c1:(i:Int) < ((dg 10000 a).length:Int)
 ·
  rw [if_pos c1]; exact hj
 ·
  rw [if_neg c1]
  by_cases c2:(i:Int) < ((dg 10000 b).length:Int)
  ·
   rw [if_pos c2]; exact hj
  ·
   rw [if_neg c2,decide_eq_true (show (c:Int) > 0 by omega)]; exact hj
theorem pow_step {i M M' S:Nat} (h:M'≤M / 10000) (hle:10000 ^ i*M≤S):10000 ^ (i+1)*M'≤S:=by
 refine Nat.le_trans ?_ hle
 rw [Nat.pow_succ,Nat.mul_assoc]
 exact Nat.mul_le_mul_left _ (by omega)
theorem lt_len {i M S:Nat} (h0:0 < M) (hle:10000 ^ i*M≤S):i < (dg 10000 S).length:=by
 refine pow_le_of_div (Nat.div_pos ?_ (Nat.pow_pos (by omega)))
 have:10000 ^ i*1≤10000 ^ i*M:=Nat.mul_le_mul_left _ h0
 omega
theorem add_loop {a b:Nat} (h:(dg 10000 (a+b)).length≤17592186044415) (N:Nat):∀ (i c:Nat) (out:List Int),out.length=i→c≤1→a / 10000 ^ i+b / 10000 ^ i+c=N→10000 ^ i*N≤a+b →
  Ev (fun k=>fluxionref01_Add.l0 k (dg 10000 a) (dg 10000 b) out (c:Int) (i:Int)) (out++dg 10000 N):=by
 induction N using Nat.strongRecOn with
 | _ N ih =>
  intro i c out hi hc hN hle
  have ha:=(D_at i a).1
  have hb:=(D_at i b).1
  have da:=digit_D a i
  have db:=digit_D b i
  have ih':=fun (M:Nat) (hM:M < N) (c':Nat) (out':List Int) h1 h2 h3 h4=>ih M hM (i+1) c' out' h1 h2 h3 h4
  rw [zb7 a i,zb7 b i] at ih'
  clear ih
  generalize a / 10000 ^ i=A at *
  generalize b / 10000 ^ i=C at *
  rcases Nat.eq_zero_or_pos N with h0 | h0
  ·
   subst h0
   rw [zbT,List.append_nil]
   refine Ev.succ (Ev.succ (Ev.congr (Ev.some _) (fun k=>?_)))
   rw [fluxionref01_Add.l0,if_neg (by omega),if_neg (by omega),fluxionref01_Add.j1,decide_eq_false (by omega),if_neg (by decide)]
  ·
   have hi2:=lt_len h0 hle
   have e1:N % 10000=(A % 10000+C % 10000+c) % 10000:=by omega
   have hstep:=ih' (N / 10000) (by omega) ((A % 10000+C % 10000+c) / 10000) (out++[((N % 10000:Nat):Int)]) (by rw [List.length_append,hi]; rfl) (by omega) (by omega) (pow_step (Nat.le_refl _) hle)
   rw [D_pos h0]
   rw [List.append_assoc] at hstep
   refine Ev.succ (Ev.succ (Ev.congr hstep (fun k=>?_)))
   rw [e1]
   exact add_round da db (Nat.mod_lt _ (by omega)) (Nat.mod_lt _ (by omega)) hc (by omega) hi (by omega)
theorem add_ev {a b:Nat} (h:(dg 10000 (a+b)).length≤17592186044415):Ev (fun k=>fluxionref01_Add.f k (dg 10000 a) (dg 10000 b)) (dg 10000 (a+b)):=by
 have:=add_loop h (a+b) 0 0 [] rfl (by omega) (by simp) (by simp)
 exact this
theorem times_round {a d i c:Nat} {k:Nat} {out:List Int} {x:Nat} (da:fluxionref01_digit.f (dg 10000 a) (i:Int)=some (x:Int)) (hx:x < 10000) (hd:d≤4294967296) (hc:c≤4294967296) (hi:i < 17592186044416) (hl:out.length=i)
  (hgo:i < (dg 10000 a).length∨0 < c) :
  fluxionref01_Times.l0 (k+1) (dg 10000 a) (d:Int) out (c:Int) (i:Int)=fluxionref01_Times.l0 k (dg 10000 a) (d:Int) (out++[(((x*d+c) % 10000:Nat):Int)]) (((x*d+c) / 10000:Nat):Int) ((i+1:Nat):Int):=by
 have hb:x*d+c < 9223372036854775808:=by
  have h:x*d≤9999*4294967296:=Nat.mul_le_mul (by omega) hd
  omega
 rw [fluxionref01_Times.l0]
 by_cases c1:(i:Int) < ((dg 10000 a).length:Int)
 ·
  rw [if_pos c1,da,Option.bind_some,if_pos (by omega),mul_w hx hd hc,tmod_nat,tdiv_nat,w_nat (by omega),w_succ (by omega)]
 ·
  rw [if_neg c1,if_pos (by omega),da,Option.bind_some,if_pos (by omega),mul_w hx hd hc,tmod_nat,tdiv_nat,w_nat (by omega),w_succ (by omega)]
theorem times_num {A d c:Nat} (hd:d≤4294967296) (hc:c≤4294967296):A / 10000*(d+1)+(A % 10000*d+c) / 10000≤(A*(d+1)+c) / 10000∧(A % 10000*d+c) / 10000≤4294967296∧A*d+c=(A % 10000*d+c) % 10000+10000*(A / 10000*d+(A % 10000*d+c) / 10000):=by
 have h1:A % 10000*d≤9999*4294967296:=Nat.mul_le_mul (by omega) hd
 have h2:A*d=10000*(A / 10000*d)+A % 10000*d:=by
  have:A=10000*(A / 10000)+A % 10000:=by omega
  conv=>lhs; rw [this,Nat.add_mul,Nat.mul_assoc]
 rw [Nat.mul_add,Nat.mul_add,Nat.mul_one,Nat.mul_one,h2]
 generalize A % 10000*d=v at *
 generalize A / 10000*d=u at *
 omega
theorem times_loop {a d:Nat} (hd:d≤4294967296) (h:sm a) (M:Nat):∀ (i c:Nat) (out:List Int),out.length=i→i≤(dg 10000 (a*(d+1))).length→ok 10000 out→c≤4294967296→a / 10000 ^ i*(d+1)+c=M→10000 ^ i*M≤a*(d+1)→val 10000 out+10000 ^ i*(a / 10000 ^ i*d+c)=a*d →
  Ev (fun k=>fluxionref01_Times.l0 k (dg 10000 a) (d:Int) out (c:Int) (i:Int)) (dg 10000 (a*d)):=by
 have hlen:(dg 10000 (a*(d+1))).length≤1099511627780:=by
  have h1:=dg_length_mul zb5 (m:=a) (n:=d+1)
  have h2:=zbS (k:=3) zb5 (show d+1 < 10000 ^ 3 by omega)
  have h3:(dg 10000 a).length≤1099511627776:=h
  omega
 induction M using Nat.strongRecOn with
 | _ M ih =>
  intro i c out hi hil hok hc hM hle hv
  have ha:=(D_at i a).1
  have da:=digit_D a i
  have ih':=fun (M':Nat) (hM':M' < M) (c':Nat) (out':List Int) h0 h1 h2 h3 h4 h5 h6=>ih M' hM' (i+1) c' out' h0 h1 h2 h3 h4 h5 h6
  rw [zb7 a i] at ih'
  clear ih
  generalize a / 10000 ^ i=A at *
  obtain⟨t1,t2,t3⟩:=times_num (A:=A) hd hc
  rcases Nat.eq_zero_or_pos M with h0 | h0
  ·
   subst h0
   have hA:A=0:=by
    rcases Nat.eq_zero_or_pos A with h1 | h1
    ·
     exact h1
    ·
     have:1*(d+1)≤A*(d+1):=Nat.mul_le_mul_right _ h1
     omega
   have hc0:c=0:=by omega
   subst hA hc0
   have hv':val 10000 out=a*d:=by simpa using hv
   have:=trim_ev (l:=out) (by omega) hok
   rw [hv'] at this
   refine Ev.succ (Ev.congr (Ev.bind this (Ev.some _)) (fun k=>?_))
   rw [fluxionref01_Times.l0,if_neg (by omega),if_neg (by omega)]
  ·
   have hi2:=lt_len h0 hle
   have hA:0 < A∨0 < c:=by
    rcases Nat.eq_zero_or_pos A with h1 | h1
    ·
     right
     subst h1
     omega
    ·
     exact Or.inl h1
   have hstep:=ih' (A / 10000*(d+1)+(A % 10000*d+c) / 10000) (by omega) ((A % 10000*d+c) / 10000) (out++[(((A % 10000*d+c) % 10000:Nat):Int)]) (by rw [List.length_append,hi]; rfl) (by omega) (ok_append.2 ⟨hok,ok_cons.2 ⟨by omega,ok_nil _⟩⟩) t2 rfl (pow_step (by omega) hle) (by
    have e:10000 ^ i*(A*d+c)=10000 ^ i*((A % 10000*d+c) % 10000)+10000 ^ i*10000*(A / 10000*d+(A % 10000*d+c) / 10000):=by rw [Nat.mul_assoc,← Nat.mul_add,← t3]
    rw [val_snoc,hi,Int.toNat_natCast,Nat.pow_succ,Nat.add_assoc,← e]
    exact hv)
   refine Ev.succ (Ev.congr hstep (fun k=>?_))
   exact times_round da (Nat.mod_lt _ (by omega)) hd hc (by omega) hi (by omega)
theorem times_ev {a d:Nat} (hd:d≤4294967296) (h:sm a):Ev (fun k=>fluxionref01_Times.f k (dg 10000 a) (d:Int)) (dg 10000 (a*d)) :=
 times_loop hd h (a*(d+1)) 0 0 [] rfl (Nat.zero_le _) (ok_nil _) (by omega) (by simp) (by simp) (by simp [val])
end Go.Proofs.YtehghijlchpeaaaGreat.Ev
end
section
namespace Go.Proofs.YtehghijlchpeaaaGreat.Ev
open Go.RowKit YtehghijlchpeaaaGreatW.PrintWords YtehghijlchpeaaaGreatW.PrintLast YtehghijlchpeaaaGreatW.PrintMore L Nt Nat1
theorem rd_l (l:List Int) (i:Nat):rd l (i:Int)=lmb l i:=by simp [rd,lmb]
theorem small_loop (n:Nat):∀ (out:List Int),n < 9223372036854775808→out.length+(dg 10000 n).length≤1000→Ev (fun k=>fluxionref01_Small.l0 k (n:Int) out) (out++dg 10000 n):=by
 induction n using Nat.strongRecOn with
 | _ n ih =>
  intro out hn hl
  rcases Nat.eq_zero_or_pos n with h0 | h0
  ·
   subst h0
   rw [zbT,List.append_nil]
   refine Ev.succ (Ev.congr (Ev.some _) (fun k=>?_))
   rw [fluxionref01_Small.l0,if_neg (by omega)]
  ·
   have hls:=len_succ h0
   have:=ih (n / 10000) (by omega) (out++[((n % 10000:Nat):Int)]) (by omega) (by rw [List.length_append]; simp only [List.length_cons,List.length_nil]; omega)
   rw [D_pos h0]
   rw [List.append_assoc] at this
   refine Ev.succ (Ev.congr this (fun k=>?_))
   rw [fluxionref01_Small.l0,if_pos (by omega),if_pos (by omega),tmod_nat,tdiv_nat,w_nat (by omega)]
theorem small_ev {n:Nat} (hn:n < 9223372036854775808):Ev (fun k=>fluxionref01_Small.f k (n:Int)) (dg 10000 n):=by
 have h1:=zbS (k:=5) zb5 (show n < 10000 ^ 5 by omega)
 have:=small_loop n [] hn (by simp only [List.length_nil]; omega)
 exact this
theorem len_of {l:List Int} (h:ok B32 l):(dg 10000 (val B32 l)).length≤3*l.length:=by
 refine zbS zb5 (Nat.lt_of_lt_of_le (val_lt h) ?_)
 rw [Nat.pow_mul]
 exact Nat.pow_le_pow_left (by decide) _
theorem sm_of {l:List Int} (h:ok B32 l) (hl:l.length≤274877906944) (n:Nat) (hn:n≤val B32 l):sm n:=by
 have h1:=len_of h
 have h2:=zbP zb5 hn
 unfold sm
 omega
theorem of_loop {l:List Int} (h:ok B32 l) (hl:l.length≤274877906944) (j:Nat):j≤l.length→Ev (fun k=>fluxionref01_Of.l0 k l (dg 10000 (val B32 (l.drop j))) ((j:Int)-1)) (dg 10000 (val B32 l)):=by
 have hall:∀ i,val B32 (l.drop i)≤val B32 l:=by
  intro i
  rw [val_split l i]
  have h1:1*val B32 (l.drop i)≤B32 ^ i*val B32 (l.drop i):=Nat.mul_le_mul_right _ (Nat.pow_pos (by decide))
  omega
 induction j with
 | zero =>
  intro _
  refine Ev.succ (Ev.congr (Ev.some _) (fun k=>?_))
  rw [fluxionref01_Of.l0,if_neg (by omega)]
  rfl
 | succ j ih =>
  intro hj
  have hih:=ih (by omega)
  have hr:=zbG h j
  have hv:=zcz (l:=l) j
  have hle:=hall j
  have hs1:=sm_of h hl (val B32 (l.drop (j+1))) (hall _)
  generalize hA:val B32 (l.drop (j+1))=A at *
  generalize hC:val B32 (l.drop j)=C at *
  have hB:B32=4294967296:=rfl
  have hs2:sm (A*65536):=sm_of h hl _ (by rw [hB] at hv; omega)
  have e1:=times_ev (a:=A) (d:=65536) (by omega) hs1
  have e2:=times_ev (a:=A*65536) (d:=65536) (by omega) hs2
  have e3:=small_ev (n:=(lmb l j).toNat) (by omega)
  have eC:A*65536*65536+(lmb l j).toNat=C:=by rw [hB] at hv; omega
  have e4:=add_ev (a:=A*65536*65536) (b:=(lmb l j).toNat) (by
   rw [eC]
   have:=sm_of h hl C hle
   unfold sm at this
   omega)
  rw [eC] at e4
  have e5:wrap64 (rd l (j:Int))=(((lmb l j).toNat:Nat):Int):=by rw [rd_l,w64 (by omega) (by omega)]; omega
  have ex:(((j+1:Nat):Int)-1)=(j:Int):=by omega
  have ew:wrap64 ((j:Int)-1)=(j:Int)-1:=w64 (by omega) (by omega)
  rw [ex]
  obtain⟨k1,h1⟩:=e1
  obtain⟨k2,h2⟩:=e2
  obtain⟨k3,h3⟩:=e3
  obtain⟨k4,h4⟩:=e4
  obtain⟨k5,h5⟩:=hih
  dsimp only at h1 h2 h3 h4 h5
  refine Ev.succ ⟨k1+k2+k3+k4+k5,fun k hk=>?_⟩
  dsimp only
  have h1:fluxionref01_Times.f k (dg 10000 A) 65536=some (dg 10000 (A*65536)):=h1 k (by omega)
  have h2:fluxionref01_Times.f k (dg 10000 (A*65536)) 65536=some (dg 10000 (A*65536*65536)):=h2 k (by omega)
  rw [fluxionref01_Of.l0,if_pos (by omega),h1,Option.bind_some,h2,Option.bind_some,if_pos (by omega),if_pos (by omega),e5,h3 k (by omega),Option.bind_some,h4 k (by omega),Option.bind_some,ew]
  exact h5 k (by omega)
theorem of_ev {l:List Int} (h:ok B32 l) (hl:l.length≤274877906944):Ev (fun k=>fluxionref01_Of.f k l) (dg 10000 (val B32 l)):=by
 have:=of_loop h hl l.length (Nat.le_refl _)
 rw [List.drop_eq_nil_of_le (Nat.le_refl _),val_nil,zbT] at this
 refine Ev.congr this (fun k=>?_)
 rw [fluxionref01_Of.f,w64 (by omega) (by omega)]
theorem cmp_loop {a b:Nat} (hl:(dg 10000 a).length=(dg 10000 b).length) (hb:(dg 10000 a).length≤4611686018427387904) (j:Nat):j≤(dg 10000 a).length→a / 10000 ^ j=b / 10000 ^ j →
  Ev (fun k=>fluxionref01_Cmp.l0 k (dg 10000 a) (dg 10000 b) ((j:Int)-1)) (cmpN a b):=by
 induction j with
 | zero =>
  intro _ he
  rw [Nat.pow_zero,Nat.div_one,Nat.div_one] at he
  refine Ev.succ (Ev.congr (Ev.some _) (fun k=>?_))
  rw [fluxionref01_Cmp.l0,if_neg (by omega),he,cmpN,if_neg (by omega),if_neg (by omega)]
 | succ j ih =>
  intro hj he
  have hih:=ih (by omega)
  have ra:=rd_D a j
  have rb:=rd_D b j
  rw [zb7,zb7] at he
  have hp:0 < 10000 ^ j:=Nat.pow_pos (by omega)
  have m1:=Nat.div_add_mod a (10000 ^ j)
  have m2:=Nat.div_add_mod b (10000 ^ j)
  have l1:=Nat.mod_lt a hp
  have l2:=Nat.mod_lt b hp
  generalize a / 10000 ^ j=A at *
  generalize b / 10000 ^ j=C at *
  have ex:(((j+1:Nat):Int)-1)=(j:Int):=by omega
  have ew:wrap64 ((j:Int)-1)=(j:Int)-1:=w64 (by omega) (by omega)
  have key:∀ X Y:Nat,X < Y→∀ x y z w:Nat,10000 ^ j*X+x=z→10000 ^ j*Y+y=w→x < 10000 ^ j→z < w:=by
   intro X Y hXY x y z w h1 h2 h3
   have h4:10000 ^ j*(X+1)≤10000 ^ j*Y:=Nat.mul_le_mul_left _ hXY
   rw [Nat.mul_add,Nat.mul_one] at h4
   omega
  rw [ex]
  rcases Nat.lt_trichotomy A C with hAC | hAC | hAC
  ·
   have:=key A C hAC _ _ _ _ m1 m2 l1
   refine Ev.succ (Ev.congr (Ev.some _) (fun k=>?_))
   rw [fluxionref01_Cmp.l0,if_pos (by omega),if_pos (by omega),if_pos (by omega),if_pos (by omega),ra,rb,if_pos (by omega),cmpN,if_pos this]
  ·
   subst hAC
   refine Ev.succ (Ev.congr (hih rfl) (fun k=>?_))
   rw [fluxionref01_Cmp.l0,if_pos (by omega),if_pos (by omega),if_pos (by omega),if_pos (by omega),ra,rb,if_neg (by omega),if_neg (by omega),ew]
  ·
   have:=key C A hAC _ _ _ _ m2 m1 l2
   refine Ev.succ (Ev.congr (Ev.some _) (fun k=>?_))
   rw [fluxionref01_Cmp.l0,if_pos (by omega),if_pos (by omega),if_pos (by omega),if_pos (by omega),ra,rb,if_neg (by omega),if_pos (by omega),cmpN,if_neg (by omega),if_pos this]
theorem cmp_ev {a b:Nat} (ha:(dg 10000 a).length≤4611686018427387904):Ev (fun k=>fluxionref01_Cmp.f k (dg 10000 a) (dg 10000 b)) (cmpN a b):=by
 by_cases hl:(dg 10000 a).length=(dg 10000 b).length
 ·
  have h1:a / 10000 ^ (dg 10000 a).length=0:=Nat.div_eq_of_lt (lt_dg zb5)
  have h2:b / 10000 ^ (dg 10000 a).length=0:=by rw [hl]; exact Nat.div_eq_of_lt (lt_dg zb5)
  refine Ev.congr (cmp_loop hl ha _ (Nat.le_refl _) (h1.trans h2.symm)) (fun k=>?_)
  rw [fluxionref01_Cmp.f,if_pos (by omega),w64 (by omega) (by omega)]
 ·
  refine Ev.congr (Ev.some _) (fun k=>?_)
  rw [fluxionref01_Cmp.f,if_neg (by omega)]
  rcases Nat.lt_or_ge (dg 10000 a).length (dg 10000 b).length with h | h
  ·
   have:a < b:=by
    rcases Nat.lt_or_ge a b with h1 | h1
    ·
     exact h1
    ·
     have:=zbP zb5 h1
     omega
   rw [if_pos (by omega),cmpN,if_pos this]
  ·
   have:b < a:=by
    rcases Nat.lt_or_ge b a with h1 | h1
    ·
     exact h1
    ·
     have:=zbP zb5 h1
     omega
   rw [if_neg (by omega),cmpN,if_neg (by omega),if_pos this]
theorem canonical_f (l:List Int) (hl:l.length≤4611686018427387904):∃ t:Bool,fluxionref01_Canonical.f l=some t∧(t=true ↔ can l):=by
 unfold fluxionref01_Canonical.f
 rcases Nat.eq_zero_or_pos l.length with h0 | h0
 ·
  have:l=[]:=List.eq_nil_of_length_eq_zero h0
  subst this
  exact⟨true,by simp,by simp [can_nil]⟩
 ·
  obtain⟨n,hn⟩:∃ n,l.length=n+1:=⟨l.length-1,by omega⟩
  have ew:wrap64 ((l.length:Int)-1)=(n:Int):=by rw [hn]; exact w_pred (by omega)
  rw [if_neg (by omega),ew,if_pos (by omega),if_pos (by omega),rd_l]
  refine⟨_,rfl,?_⟩
  have hlast:l.getLast? = some (lmb l n):=by
   rw [List.getLast?_eq_getElem?,hn,Nat.add_sub_cancel]
   unfold lmb
   rw [List.getD_eq_getElem?_getD,List.getElem?_eq_getElem (by omega)]
   rfl
  rw [bne_iff_ne]
  constructor
  ·
   intro h x hx
   rw [hlast] at hx
   cases hx
   exact h
  ·
   intro h
   exact h _ hlast
theorem cmpN_zero {a b:Nat}:(cmpN a b == 0)=decide (a=b):=by
 unfold cmpN
 rcases Nat.lt_trichotomy a b with h | h | h
 ·
  rw [if_pos h,decide_eq_false (by omega)]; rfl
 ·
  rw [if_neg (by omega),if_neg (by omega),decide_eq_true h]; rfl
 ·
  rw [if_neg (by omega),if_pos h,decide_eq_false (by omega)]; rfl
theorem is_ev {n:Nat} {l:List Int} (h:ok B32 l) (hl:l.length≤274877906944):Ev (fun k=>fluxionref01_Is.f k (dg 10000 n) l) (decide (l=dg B32 n)):=by
 obtain⟨t,ht,hc⟩:=canonical_f l (by omega)
 cases t with
 | true =>
  have hcan:=hc.1 rfl
  have e:decide (l=dg B32 n)=decide (val B32 l=n):=by
   rw [decide_eq_decide]
   constructor
   ·
    intro e; rw [e,zbV zby]
   ·
    intro e; rw [← e,dg_val zby h hcan]
  rw [e]
  have hs:=sm_of h hl (val B32 l) (Nat.le_refl _)
  unfold sm at hs
  obtain⟨k1,h1⟩:=of_ev h hl
  obtain⟨k2,h2⟩:=cmp_ev (a:=val B32 l) (b:=n) (by omega)
  dsimp only at h1 h2
  refine⟨k1+k2,fun k hk=>?_⟩
  dsimp only
  rw [fluxionref01_Is.f,ht,Option.bind_some,if_pos rfl,h1 k (by omega),Option.bind_some,h2 k (by omega),Option.bind_some,cmpN_zero]
 | false =>
  have:¬ can l:=fun h=>by have:=hc.2 h; cases this
  have e:decide (l=dg B32 n)=false:=decide_eq_false (fun e=>this (by rw [e]; exact dg_can zby n))
  rw [e]
  refine Ev.congr (Ev.some _) (fun k=>?_)
  rw [fluxionref01_Is.f,ht,Option.bind_some,if_neg (by decide)]
end Go.Proofs.YtehghijlchpeaaaGreat.Ev
end
section
namespace Go.Proofs.YtehghijlchpeaaaGreat.Ev
open Go.RowKit YtehghijlchpeaaaGreatW.PrintWords YtehghijlchpeaaaGreatW.PrintLast YtehghijlchpeaaaGreatW.PrintMore L Nt Nat1
theorem sub_w {x y c:Nat} (hx:x < 10000) (hy:y < 10000) (hc:c≤1):wrap64 ((wrap64 ((x:Int)-(y:Int)))-(c:Int))=(x:Int)-(y:Int)-(c:Int):=by
 rw [w64 (x:=(x:Int)-(y:Int)) (by omega) (by omega),w64 (by omega) (by omega)]
theorem sub_loop {a b:Nat} (hs:sm a) (hab:b≤a) (n:Nat):∀ (i c:Nat) (out:List Int),i+n=(dg 10000 a).length→out.length=i→ok 10000 out→c≤1→val 10000 out+10000 ^ i*(a / 10000 ^ i)=a-b+10000 ^ i*(b / 10000 ^ i+c) →
  Ev (fun k=>fluxionref01_Sub.l0 k (dg 10000 a) (dg 10000 b) out (c:Int) (i:Int)) (dg 10000 (a-b),true):=by
 have hs':(dg 10000 a).length≤1099511627776:=hs
 induction n with
 | zero =>
  intro i c out hi hl hok hc hv
  have ha:=(D_at i a).1
  have h0:a / 10000 ^ i=0:=by
   rcases Nat.eq_zero_or_pos (a / 10000 ^ i) with h2 | h2
   ·
    exact h2
   ·
    exact absurd (ha.2 h2) (by omega)
  have hlt:a < 10000 ^ i:=by
   have:=lt_dg (n:=a) zb5
   rwa [show (dg 10000 a).length=i by omega] at this
  rw [h0,Nat.mul_zero,Nat.add_zero] at hv
  have hvo:=val_lt hok
  rw [hl] at hvo
  have hbc:b / 10000 ^ i+c=0:=by
   rcases Nat.eq_zero_or_pos (b / 10000 ^ i+c) with h2 | h2
   ·
    exact h2
   ·
    exfalso
    have:10000 ^ i*1≤10000 ^ i*(b / 10000 ^ i+c):=Nat.mul_le_mul_left _ h2
    omega
  rw [hbc,Nat.mul_zero,Nat.add_zero] at hv
  have ht:=trim_ev (l:=out) (by omega) hok
  rw [hv] at ht
  obtain⟨k1,h1⟩:=ht
  dsimp only at h1
  refine Ev.succ ⟨k1,fun k hk=>?_⟩
  dsimp only
  rw [fluxionref01_Sub.l0,if_neg (by omega),h1 k hk,Option.bind_some]
 | succ n ih =>
  intro i c out hi hl hok hc hv
  have ih':=fun (c':Nat) (out':List Int) h1 h2 h3 h4 h5=>ih (i+1) c' out' h1 h2 h3 h4 h5
  rw [zb7 a i,zb7 b i,Nat.pow_succ] at ih'
  clear ih
  have ra:=rd_D a i
  have db:=digit_D b i
  generalize a / 10000 ^ i=A at *
  generalize b / 10000 ^ i=C at *
  generalize hx:A % 10000=x at *
  generalize hy:C % 10000=y at *
  have hx1:x < 10000:=by omega
  have hy1:y < 10000:=by omega
  by_cases hlt:x < y+c
  ·
   have hst:=ih' 1 (out++[((x+10000-y-c:Nat):Int)]) (by omega) (by rw [List.length_append,hl]; rfl) (ok_append.2 ⟨hok,ok_cons.2 ⟨by omega,ok_nil _⟩⟩) (by omega) (by
    rw [val_snoc,hl,Int.toNat_natCast]
    have e:x+10000-y-c+10000*(A / 10000)+(C+c)=A+10000*(C / 10000+1):=by omega
    have e2:=congrArg (10000 ^ i * ·) e
    simp only [Nat.mul_add] at e2
    rw [Nat.mul_assoc,Nat.mul_assoc]
    simp only [Nat.mul_add] at hv ⊢
    omega)
   obtain⟨k1,h1⟩:=hst
   dsimp only at h1
   refine Ev.succ ⟨k1,fun k hk=>?_⟩
   dsimp only
   rw [fluxionref01_Sub.l0,if_pos (by omega),if_pos (by omega),db,Option.bind_some,ra,sub_w hx1 hy1 hc,if_pos (by omega),if_pos (by omega),w64 (x:=(x:Int)-(y:Int)-(c:Int)+10000) (by omega) (by omega),w_succ (by omega),show (x:Int)-(y:Int)-(c:Int)+10000=((x+10000-y-c:Nat):Int) by omega]
   exact h1 k hk
  ·
   have hst:=ih' 0 (out++[((x-y-c:Nat):Int)]) (by omega) (by rw [List.length_append,hl]; rfl) (ok_append.2 ⟨hok,ok_cons.2 ⟨by omega,ok_nil _⟩⟩) (by omega) (by
    rw [val_snoc,hl,Int.toNat_natCast]
    have e:x-y-c+10000*(A / 10000)+(C+c)=A+10000*(C / 10000+0):=by omega
    have e2:=congrArg (10000 ^ i * ·) e
    simp only [Nat.mul_add] at e2
    rw [Nat.mul_assoc,Nat.mul_assoc]
    simp only [Nat.mul_add] at hv ⊢
    omega)
   obtain⟨k1,h1⟩:=hst
   dsimp only at h1
   refine Ev.succ ⟨k1,fun k hk=>?_⟩
   dsimp only
   rw [fluxionref01_Sub.l0,if_pos (by omega),if_pos (by omega),db,Option.bind_some,ra,sub_w hx1 hy1 hc,if_neg (by omega),if_pos (by omega),w_succ (by omega),show (x:Int)-(y:Int)-(c:Int)=((x-y-c:Nat):Int) by omega]
   exact h1 k hk
theorem sub_ev {a b:Nat} (hs:sm a) (hab:b≤a):Ev (fun k=>fluxionref01_Sub.f k (dg 10000 a) (dg 10000 b)) (dg 10000 (a-b),true):=by
 have hs':(dg 10000 a).length≤1099511627776:=hs
 obtain⟨k1,h1⟩:=cmp_ev (a:=a) (b:=b) (by omega)
 obtain⟨k2,h2⟩:=sub_loop hs hab (dg 10000 a).length 0 0 [] (by omega) rfl (ok_nil _) (by omega) (by simp [val]; omega)
 dsimp only at h1 h2
 refine⟨k1+k2,fun k hk=>?_⟩
 dsimp only
 rw [fluxionref01_Sub.f,h1 k (by omega),Option.bind_some,if_neg (by unfold cmpN; split; omega; split<;>omega)]
 exact h2 k (by omega)
theorem trim2_loop (l:List Int) (hl:l.length≤4611686018427387904) (i:Nat):i≤l.length→(∀ x∈l.drop i,x=0)→∃ t:Nat,t≤i∧(∀ x∈l.drop t,x=0)∧can (l.take t)∧Ev (fun k=>fluxionref02_trim.l0 k l (i:Int)) (l.take t):=by
 induction i with
 | zero =>
  intro _ hz
  refine⟨0,Nat.le_refl _,hz,by simp [can_nil],Ev.succ (Ev.congr (Ev.some _) (fun k=>?_))⟩
  rw [fluxionref02_trim.l0,if_neg (by omega),if_pos (by omega),if_pos (by omega)]
  rfl
 | succ i ih =>
  intro hi hz
  have ew:wrap64 (((i+1:Nat):Int)-1)=(i:Int):=by rw [w64 (by omega) (by omega)]; omega
  have er:=rd_eq l (i:Int) (by omega) (by rw [Int.toNat_natCast]; omega)
  simp only [Int.toNat_natCast] at er
  by_cases h0:l[i]=0
  ·
   obtain⟨t,h1,h2,h3,h4⟩:=ih (by omega) (drop_pred l i (by omega) hz h0)
   refine⟨t,by omega,h2,h3,Ev.succ (Ev.congr h4 (fun k=>?_))⟩
   rw [fluxionref02_trim.l0,if_pos (by omega),ew,if_pos (by omega),if_pos (by omega),er,if_pos h0]
  ·
   refine⟨i+1,Nat.le_refl _,hz,?_,Ev.succ (Ev.congr (Ev.some _) (fun k=>?_))⟩
   ·
    intro x hx
    rw [List.getLast?_eq_getElem?,List.length_take,Nat.min_eq_left (by omega),List.getElem?_take,if_pos (by omega),Nat.add_sub_cancel,List.getElem?_eq_getElem (by omega)] at hx
    cases hx
    exact h0
   ·
    rw [fluxionref02_trim.l0,if_pos (by omega),ew,if_pos (by omega),if_pos (by omega),er,if_neg h0,if_pos (by omega),if_pos (by omega)]
    rfl
theorem trim2_ev {l:List Int} (hl:l.length≤4611686018427387904) (h:ok 10000 l):Ev (fun k=>fluxionref02_trim.f k l) (dg 10000 (val 10000 l)):=by
 obtain⟨t,h1,h2,h3,h4⟩:=trim2_loop l hl l.length (Nat.le_refl _) (by simp)
 rw [← top_dg zb5 h h2 h3]
 exact h4
theorem mid_w {low high:Nat} (h:low < high) (h2:high≤10000):wrap64 (Int.tdiv (wrap64 ((low:Int)+(high:Int))) 2)=(((low+high) / 2:Nat):Int):=by
 rw [w64 (x:=(low:Int)+(high:Int)) (by omega) (by omega),Int.tdiv_eq_ediv_of_nonneg (by omega),w64 (by omega) (by omega)]
 omega
theorem dif_w {low high:Nat} (h:low < high) (h2:high≤10000):wrap64 ((high:Int)-(low:Int))=((high-low:Nat):Int):=by rw [w64 (by omega) (by omega)]; omega
theorem sm_times {b m:Nat} (hb:sm b) (h:m≤10000):(dg 10000 (b*m)).length≤1099511627778:=by
 have h7:=dg_length_mul zb5 (m:=b) (n:=m)
 have h8:=zbS (k:=2) zb5 (show m < 10000 ^ 2 by omega)
 have h9:(dg 10000 b).length≤1099511627776:=hb
 omega
theorem cmpN_le {x y:Nat} (h:x≤y):cmpN x y≤0:=by
 unfold cmpN
 split
 ·
  omega
 ·
  rw [if_neg (by omega)]; omega
theorem cmpN_gt {x y:Nat} (h:y < x):¬ cmpN x y≤0:=by
 unfold cmpN
 rw [if_neg (by omega),if_pos h]
 omega
theorem find_half {r b low high:Nat} (hb:sm b) (h:low < high) (h2:high≤10000) (h6:high-low > 1):∃ k0,∀ k,k0≤k→fluxionref02_digit.l0 (k+1) (dg 10000 r) (dg 10000 b) (low:Int) (high:Int) =
  if cmpN (b*((low+high) / 2)) r≤0 then fluxionref02_digit.l0 k (dg 10000 r) (dg 10000 b) (((low+high) / 2:Nat):Int) (high:Int) else fluxionref02_digit.l0 k (dg 10000 r) (dg 10000 b) (low:Int) (((low+high) / 2:Nat):Int):=by
 have hm:(low+high) / 2≤10000:=by omega
 have w2:=mid_w h h2
 have w1:=dif_w h h2
 generalize (low+high) / 2=mid at *
 obtain⟨k1,e1⟩:=times_ev (a:=b) (d:=mid) (by omega) hb
 have hs:=sm_times hb hm
 obtain⟨k2,e2⟩:=cmp_ev (a:=b*mid) (b:=r) (by omega)
 dsimp only at e1 e2
 refine⟨k1+k2,fun k hk=>?_⟩
 rw [fluxionref02_digit.l0,w1,if_pos (by omega),w2,e1 k (by omega),Option.bind_some,e2 k (by omega),Option.bind_some]
theorem find_loop {r b:Nat} (hb:sm b) (n:Nat):∀ (low high:Nat),high-low≤n→low < high→high≤10000→low*b≤r→r < high*b →
  Ev (fun k=>fluxionref02_digit.l0 k (dg 10000 r) (dg 10000 b) (low:Int) (high:Int)) ((r / b:Nat):Int):=by
 induction n with
 | zero=>intro low high h1 h2; omega
 | succ n ih =>
  intro low high h1 h2 h3 h4 h5
  by_cases h6:high-low > 1
  ·
   obtain⟨k1,e1⟩:=find_half (r:=r) hb h2 h3 h6
   have hm1:low < (low+high) / 2:=by omega
   have hm2:(low+high) / 2 < high:=by omega
   have hm3:high-(low+high) / 2≤n:=by omega
   have hm4:(low+high) / 2-low≤n:=by omega
   rw [Nat.mul_comm b] at e1
   generalize (low+high) / 2=mid at *
   rcases Nat.lt_or_ge r (mid*b) with h7 | h7
   ·
    obtain⟨k3,e3⟩:=ih low mid hm4 hm1 (by omega) h4 h7
    dsimp only at e3
    refine Ev.succ ⟨k1+k3,fun k hk=>?_⟩
    dsimp only
    rw [e1 k (by omega),if_neg (cmpN_gt h7)]
    exact e3 k (by omega)
   ·
    obtain⟨k3,e3⟩:=ih mid high hm3 hm2 h3 h7 h5
    dsimp only at e3
    refine Ev.succ ⟨k1+k3,fun k hk=>?_⟩
    dsimp only
    rw [e1 k (by omega),if_pos (cmpN_le h7)]
    exact e3 k (by omega)
  ·
   have h7:high=low+1:=by omega
   subst h7
   rw [Nat.div_eq_of_lt_le h4 h5]
   have w1:=dif_w h2 h3
   refine Ev.succ (Ev.congr (Ev.some _) (fun k=>?_))
   rw [fluxionref02_digit.l0,w1,if_neg (by omega)]
theorem find_ev {r b:Nat} (hb:sm b) (hr:r < 10000*b):Ev (fun k=>fluxionref02_digit.f k (dg 10000 r) (dg 10000 b)) ((r / b:Nat):Int) :=
 find_loop hb 10000 0 10000 (Nat.le_refl _) (by decide) (Nat.le_refl _) (by rw [Nat.zero_mul]; exact Nat.zero_le _) hr
end Go.Proofs.YtehghijlchpeaaaGreat.Ev
end
section
namespace Go.Proofs.YtehghijlchpeaaaGreat.Ev
open Go.RowKit YtehghijlchpeaaaGreatW.PrintWords YtehghijlchpeaaaGreatW.PrintLast YtehghijlchpeaaaGreatW.PrintMore L Nt Nat1
def sh (n:Nat):Prop:=(dg 10000 n).length≤549755813888
theorem sh.sm {n:Nat} (h:sh n):sm n:=Nat.le_trans h (by decide)
theorem sh_le {a b:Nat} (h:sh b) (hab:a≤b):sh a:=Nat.le_trans (zbP zb5 hab) h
theorem D_drop (j:Nat):∀ a:Nat,(dg 10000 a).drop j=dg 10000 (a / 10000 ^ j):=by
 induction j with
 | zero=>intro a; simp
 | succ j ih =>
  intro a
  rcases Nat.eq_zero_or_pos a with h | h
  ·
   subst h; rw [zbT]; simp [zbT]
  ·
   rw [D_pos h,List.drop_succ_cons,ih,Nat.div_div_eq_div_mul,Nat.pow_succ,Nat.mul_comm 10000]
theorem D_cons {d r:Nat} (hd:d < 10000):val 10000 ((d:Int) :: dg 10000 r)=d+10000*r:=by rw [zcB,zbV zb5,Int.toNat_natCast]
theorem set_drop (q:List Int) (j:Nat) (x:Int) (hj:j < q.length):(q.set j x).drop j=x :: q.drop (j+1):=by
 rw [List.drop_eq_getElem_cons (by rw [List.length_set]; exact hj),List.getElem_set_self,List.drop_set_of_lt (by omega)]
theorem ok_set' {b:Nat} {us:List Int} (h:ok b us) (i:Nat) {x:Int} (hx:0≤x∧x < (b:Int)):ok b (us.set i x):=by
 intro y hy
 rcases List.mem_or_eq_of_mem_set hy with hy | rfl
 ·
  exact h y hy
 ·
  exact hx
theorem div_num {N M d b:Nat} (hb:0 < b) (hN:N=10000*M+d):N / b=10000*(M / b)+(d+10000*(M % b)) / b∧N % b=(d+10000*(M % b)) % b:=by
 have h:=Nat.div_add_mod M b
 have e:N=b*(10000*(M / b))+(d+10000*(M % b)):=by
  rw [hN]
  have:10000*M=b*(10000*(M / b))+10000*(M % b):=by
   conv=>lhs; rw [← h,Nat.mul_add]
   rw [Nat.mul_left_comm]
  omega
 constructor
 ·
  rw [e,Nat.mul_add_div hb]
 ·
  rw [e,Nat.mul_add_mod]
theorem divmod_loop {a b:Nat} (ha:sh a) (hb:sh b) (hb0:0 < b) (J:Nat):∀ (q:List Int),J≤(dg 10000 a).length→J≤q.length→q.length≤1099511627776→ok 10000 q→val 10000 (q.drop J)=a / 10000 ^ J / b →
  Ev (fun k=>fluxionref02_DivMod.l0 k (dg 10000 a) (dg 10000 b) q (dg 10000 (a / 10000 ^ J % b)) ((J:Int)-1)) (dg 10000 (a / b),dg 10000 (a % b)):=by
 have hlb:(dg 10000 b).length≤549755813888:=hb
 have hla:(dg 10000 a).length≤549755813888:=ha
 induction J with
 | zero =>
  intro q _ _ hql hok hv
  rw [Nat.pow_zero,Nat.div_one,List.drop_zero] at hv
  rw [Nat.pow_zero,Nat.div_one]
  obtain⟨k1,h1⟩:=trim2_ev (l:=q) (by omega) hok
  dsimp only at h1
  rw [hv] at h1
  refine Ev.succ ⟨k1,fun k hk=>?_⟩
  dsimp only
  rw [fluxionref02_DivMod.l0,if_neg (by omega),h1 k hk,Option.bind_some]
 | succ j ih =>
  intro q hj hjq hql hok hv
  have ih':=fun q' h2 h3 h4 h5=>ih q' (by omega) h2 h3 h4 h5
  clear ih
  have ra:=rd_D a j
  rw [zb7] at hv ⊢
  generalize a / 10000 ^ j=N at *
  obtain⟨n1,n2⟩:=div_num (N:=N) (M:=N / 10000) (d:=N % 10000) hb0 (by omega)
  have hd:N % 10000 < 10000:=Nat.mod_lt _ (by omega)
  have hr:N / 10000 % b < b:=Nat.mod_lt _ hb0
  generalize hdd:N % 10000=d at *
  generalize hrr:N / 10000 % b=r at *
  have hR:d+10000*r < 10000*b:=by omega
  have hlr:(dg 10000 (10000*b)).length=(dg 10000 b).length+1:=by
   rw [len_succ (show 0 < 10000*b by omega),Nat.mul_div_cancel_left _ (by omega)]
  have hlR:(dg 10000 (d+10000*r)).length≤549755813889:=by
   have:=zbP zb5 (Nat.le_of_lt hR)
   omega
  have hlr2:(dg 10000 r).length≤549755813888:=Nat.le_trans (zbP zb5 (Nat.le_of_lt hr)) hlb
  have hq9:(d+10000*r) / b < 10000:=(Nat.div_lt_iff_lt_mul hb0).mpr hR
  have hmod:d+10000*r-b*((d+10000*r) / b)=(d+10000*r) % b:=by
   have:=Nat.div_add_mod (d+10000*r) b
   omega
  have hle:b*((d+10000*r) / b)≤d+10000*r:=Nat.mul_div_le _ _
  obtain⟨k1,h1⟩:=trim2_ev (l:=(d:Int) :: dg 10000 r) (by rw [List.length_cons]; omega) (ok_cons.2 ⟨by omega,okD_ r⟩)
  rw [D_cons hd] at h1
  obtain⟨k2,h2⟩:=find_ev (r:=d+10000*r) hb.sm hR
  generalize hR':d+10000*r=R at *
  generalize hqd:R / b=e at *
  obtain⟨k3,h3⟩:=times_ev (a:=b) (d:=e) (by omega) hb.sm
  obtain⟨k4,h4⟩:=sub_ev (a:=R) (b:=b*e) (show (dg 10000 R).length≤1099511627776 by omega) hle
  rw [hmod,← n2] at h4
  obtain⟨k5,h5⟩:=ih' (q.set j (e:Int)) (by rw [List.length_set]; omega) (by rw [List.length_set]; omega) (ok_set' hok _ (by omega)) (by
   rw [set_drop q j _ (by omega),zcB,Int.toNat_natCast,hv,n1]
   omega)
  dsimp only at h1 h2 h3 h4 h5
  refine Ev.succ ⟨k1+k2+k3+k4+k5,fun k hk=>?_⟩
  dsimp only
  have ex:(((j+1:Nat):Int)-1)=(j:Int):=by omega
  have ew:wrap64 ((j:Int)-1)=(j:Int)-1:=w64 (by omega) (by omega)
  rw [ex,fluxionref02_DivMod.l0,if_pos (by omega),if_pos (by omega),if_pos (by omega),Option.bind_some,ra,if_pos (by simp only [List.length_cons,List.length_nil]; omega),List.singleton_append,h1 k (by omega),Option.bind_some,h2 k (by omega),Option.bind_some,if_pos (by omega),h3 k (by omega),Option.bind_some,h4 k (by omega),Option.bind_some,Int.toNat_natCast,ew]
  exact h5 k (by omega)
theorem divmod_ev {a b:Nat} (ha:sh a) (hb:sh b) (hb0:0 < b):Ev (fun k=>fluxionref02_DivMod.f k (dg 10000 a) (dg 10000 b)) (dg 10000 (a / b),dg 10000 (a % b)):=by
 have hlb:(dg 10000 b).length≤549755813888:=hb
 have hla:(dg 10000 a).length≤549755813888:=ha
 obtain⟨J,hJ,hJl,hJr⟩:∃ J:Nat,mx (wrap64 ((wrap64 (((dg 10000 a).length:Int)-((dg 10000 b).length:Int)))+1)) 0=(J:Int)∧J≤(dg 10000 a).length∧a / 10000 ^ J < b:=by
  have hbpos:=len_pos.2 hb0
  have e:mx (wrap64 ((wrap64 (((dg 10000 a).length:Int)-((dg 10000 b).length:Int)))+1)) 0=max ((((dg 10000 a).length:Int)-((dg 10000 b).length:Int))+1) 0:=by
   rw [w64 (x:=((dg 10000 a).length:Int)-((dg 10000 b).length:Int)) (by omega) (by omega),w64 (by omega) (by omega)]
   unfold mx
   split<;>omega
  refine⟨(dg 10000 a).length+1-(dg 10000 b).length,by rw [e]; omega,by omega,?_⟩
  rcases Nat.lt_or_ge (dg 10000 a).length (dg 10000 b).length with h | h
  ·
   rw [show (dg 10000 a).length+1-(dg 10000 b).length=0 by omega,Nat.pow_zero,Nat.div_one]
   rcases Nat.lt_or_ge a b with h1 | h1
   ·
    exact h1
   ·
    have:=zbP zb5 h1
    omega
  ·
   have h1:=lt_dg (n:=a) zb5
   have h2:=pow_le_of_dg zb5 hb0
   refine Nat.lt_of_lt_of_le ?_ h2
   rw [Nat.div_lt_iff_lt_mul (Nat.pow_pos (by omega)),← Nat.pow_add]
   rwa [show (dg 10000 b).length-1+((dg 10000 a).length+1-(dg 10000 b).length)=(dg 10000 a).length by omega]
 have hl:=divmod_loop ha hb hb0 J (List.replicate J 0) hJl (by rw [List.length_replicate]; exact Nat.le_refl _) (by rw [List.length_replicate]; omega) (fun x hx=>by rw [List.eq_of_mem_replicate hx]; decide) (by
  rw [List.drop_eq_nil_of_le (by rw [List.length_replicate]; exact Nat.le_refl _),val_nil,Nat.div_eq_of_lt hJr])
 rw [Nat.mod_eq_of_lt hJr] at hl
 refine Ev.congr hl (fun k=>?_)
 have hlen:=D_drop J a
 have hll:(dg 10000 (a / 10000 ^ J)).length≤(dg 10000 a).length:=zbP zb5 (Nat.div_le_self _ _)
 rw [fluxionref02_DivMod.f,hJ,if_pos (by omega),if_pos (by omega),Option.bind_some,if_pos (by omega),Int.toNat_natCast,hlen,if_pos (by simp only [List.length_nil]; omega),List.nil_append,w64 (x:=(J:Int)-1) (by omega) (by omega)]
theorem gcd_loop {b:Nat}:∀ {a:Nat},sh a→sh b→Ev (fun k=>fluxionref02_Gcd.l0 k (dg 10000 a) (dg 10000 b)) (dg 10000 (Nat.gcd a b)):=by
 induction b using Nat.strongRecOn with
 | _ b ih =>
  intro a ha hb
  rcases Nat.eq_zero_or_pos b with h0 | h0
  ·
   subst h0
   rw [Nat.gcd_zero_right]
   refine Ev.succ (Ev.congr (Ev.some _) (fun k=>?_))
   rw [zbT,fluxionref02_Gcd.l0,if_neg (by simp)]
  ·
   have hpos:=len_pos.2 h0
   obtain⟨k1,h1⟩:=divmod_ev ha hb h0
   obtain⟨k2,h2⟩:=ih (a % b) (Nat.mod_lt _ h0) (a:=b) hb (sh_le hb (Nat.le_of_lt (Nat.mod_lt _ h0)))
   rw [Nat.gcd_comm b,← Nat.gcd_rec b a,Nat.gcd_comm] at h2
   dsimp only at h1 h2
   refine Ev.succ ⟨k1+k2,fun k hk=>?_⟩
   dsimp only
   rw [fluxionref02_Gcd.l0,if_pos (by omega),h1 k (by omega),Option.bind_some]
   exact h2 k (by omega)
theorem gcd_ev {a b:Nat} (ha:sh a) (hb:sh b):Ev (fun k=>fluxionref02_Gcd.f k (dg 10000 a) (dg 10000 b)) (dg 10000 (Nat.gcd a b)):=gcd_loop ha hb
end Go.Proofs.YtehghijlchpeaaaGreat.Ev
end
section
namespace Go.Proofs.YtehghijlchpeaaaGreat.Ev
open Go.RowKit YtehghijlchpeaaaGreatW.PrintWords YtehghijlchpeaaaGreatW.PrintLast YtehghijlchpeaaaGreatW.PrintMore L Nt Nat1
def DR (r:QN):Bool×List Int×List Int:=(r.1,dg 10000 r.2.1,dg 10000 r.2.2)
theorem D_one:dg 10000 1=[1]:=by rw [D_pos (by decide),show 1 / 10000=0 by decide,zbT]; rfl
theorem make_ev {n:Bool} {a b:Nat} (ha:sh a) (hb:sh b):Ev (fun k=>fluxionref03_Make.f k n (dg 10000 a) (dg 10000 b)) (DR (nrm n a b)):=by
 unfold DR nrm
 by_cases h0:b=0∨a=0
 ·
  rw [if_pos h0]
  simp only []
  rw [zbT,D_one]
  refine Ev.succ (Ev.congr (Ev.some _) (fun k=>?_))
  rw [fluxionref03_Make.f]
  by_cases ha0:a=0
  ·
   rw [ha0,zbT,if_pos (by rfl),fluxionref03_Make.j0,if_pos rfl]
  ·
   have:=len_pos.2 (Nat.pos_of_ne_zero ha0)
   rw [if_neg (by omega),show b=0 by omega,zbT]
   rw [show (((([]:List Int).length:Nat):Int) == 0)=true by rfl,fluxionref03_Make.j0,if_pos rfl]
 ·
  rw [if_neg h0]
  simp only []
  have ha0:0 < a:=by omega
  have hb0:0 < b:=by omega
  have hg:0 < Nat.gcd a b:=Nat.gcd_pos_of_pos_right _ hb0
  have hgs:sh (Nat.gcd a b):=sh_le ha (Nat.gcd_le_left _ ha0)
  obtain⟨k1,h1⟩:=gcd_ev ha hb
  obtain⟨k2,h2⟩:=divmod_ev ha hgs hg
  obtain⟨k3,h3⟩:=divmod_ev hb hgs hg
  dsimp only at h1 h2 h3
  refine Ev.succ ⟨k1+k2+k3,fun k hk=>?_⟩
  dsimp only
  have l1:=len_pos.2 ha0
  have l2:=len_pos.2 hb0
  rw [fluxionref03_Make.f,if_neg (by omega),show (((dg 10000 b).length:Int) == 0)=false by rw [beq_eq_false_iff_ne]; omega,fluxionref03_Make.j0,if_neg (by decide),h1 k (by omega),Option.bind_some,h2 k (by omega),Option.bind_some,h3 k (by omega),Option.bind_some]
def okE (l:List Int):Prop:=ok B32 l∧l.length≤137438953472
theorem okE.sh {l:List Int} (h:okE l):sh (val B32 l):=by
 have h1:=len_of h.1
 have h2:=h.2
 unfold Ev.sh
 omega
theorem ofR_ev {n:Bool} {p q:List Int} (hp:okE p) (hq:okE q):Ev (fun k=>fluxionref03_Of.f k n p q) (DR (nrm n (val B32 p) (val B32 q))):=by
 obtain⟨k1,h1⟩:=of_ev hp.1 (Nat.le_trans hp.2 (by decide))
 obtain⟨k2,h2⟩:=of_ev hq.1 (Nat.le_trans hq.2 (by decide))
 obtain⟨k3,h3⟩:=make_ev (n:=n) hp.sh hq.sh
 dsimp only at h1 h2 h3
 refine⟨k1+k2+k3,fun k hk=>?_⟩
 dsimp only
 rw [fluxionref03_Of.f,h1 k (by omega),Option.bind_some,h2 k (by omega),Option.bind_some,h3 k (by omega),Option.bind_some]
theorem isR_ev {r:QN} {n:Bool} {p q:List Int} (hp:okE p) (hq:okE q):Ev (fun k=>fluxionref03_Is.f k r.1 (dg 10000 r.2.1) (dg 10000 r.2.2) n p q) (decide (n=r.1∧p=dg B32 r.2.1∧q=dg B32 r.2.2)):=by
 obtain⟨k1,h1⟩:=is_ev (n:=r.2.1) hp.1 (Nat.le_trans hp.2 (by decide))
 obtain⟨k2,h2⟩:=is_ev (n:=r.2.2) hq.1 (Nat.le_trans hq.2 (by decide))
 dsimp only at h1 h2
 refine⟨k1+k2,fun k hk=>?_⟩
 dsimp only
 rw [fluxionref03_Is.f]
 by_cases c1:n=r.1
 ·
  rw [if_pos (by rw [c1]; simp),h1 k (by omega),Option.bind_some]
  by_cases c2:p=dg B32 r.2.1
  ·
   rw [decide_eq_true c2,if_pos rfl,h2 k (by omega),Option.bind_some]
   congr 1
   rw [decide_eq_decide]
   exact⟨fun h=>⟨c1,c2,h⟩,fun h=>h.2.2⟩
  ·
   rw [decide_eq_false c2,if_neg (by decide),decide_eq_false (fun h=>c2 h.2.1)]
 ·
  rw [if_neg (by simpa using c1),decide_eq_false (fun h=>c1 h.1)]
theorem mayR_ev {n:Bool} {p q:List Int} (hp:okE p) (hq:okE q):Ev (fun k=>fluxionref03_May.f k n p q) (if n=(nrm n (val B32 p) (val B32 q)).1∧p=dg B32 (nrm n (val B32 p) (val B32 q)).2.1∧q=dg B32 (nrm n (val B32 p) (val B32 q)).2.2 then 0 else 6):=by
 obtain⟨k1,h1⟩:=ofR_ev (n:=n) hp hq
 obtain⟨k2,h2⟩:=isR_ev (r:=nrm n (val B32 p) (val B32 q)) (n:=n) hp hq
 dsimp only at h1 h2
 refine⟨k1+k2,fun k hk=>?_⟩
 dsimp only
 have e:=h1 k (by omega)
 unfold DR at e
 rw [fluxionref03_May.f,e,Option.bind_some,h2 k (by omega),Option.bind_some]
 by_cases c:n=(nrm n (val B32 p) (val B32 q)).1∧p=dg B32 (nrm n (val B32 p) (val B32 q)).2.1∧q=dg B32 (nrm n (val B32 p) (val B32 q)).2.2
 ·
  rw [decide_eq_true c,if_pos rfl,if_pos c]
 ·
  rw [decide_eq_false c,if_neg (by decide),if_neg c]
theorem size_ev {x:Int} (h0:-9223372036854775808≤x) (h1:x < 9223372036854775808):Ev (fun k=>fluxionref03_size.f k x) (dg 10000 x.natAbs):=by
 by_cases hn:x < 0
 ·
  obtain⟨m,hm⟩:∃ m:Nat,(m:Int)=-(x+1):=⟨(-(x+1)).toNat,by omega⟩
  have e1:wrap64 (-(wrap64 (x+1)))=(m:Int):=by rw [w64 (x:=x+1) (by omega) (by omega),w64 (by omega) (by omega),hm]
  have e2:m+1=x.natAbs:=by omega
  obtain⟨k1,h1⟩:=small_ev (n:=m) (by omega)
  have hl:=zbS (k:=5) zb5 (show m+1 < 10000 ^ 5 by omega)
  obtain⟨k2,h2⟩:=add_ev (a:=m) (b:=1) (by omega)
  rw [D_one,e2] at h2
  dsimp only at h1 h2
  refine⟨k1+k2,fun k hk=>?_⟩
  dsimp only
  rw [fluxionref03_size.f,if_pos hn,e1,h1 k (by omega),Option.bind_some,h2 k (by omega),Option.bind_some]
 ·
  obtain⟨m,rfl⟩:=Int.eq_ofNat_of_zero_le (show 0≤x by omega)
  obtain⟨k1,h1⟩:=small_ev (n:=m) (by omega)
  dsimp only at h1
  refine⟨k1,fun k hk=>?_⟩
  dsimp only
  rw [fluxionref03_size.f,if_neg hn,h1 k (by omega),Option.bind_some,Int.natAbs_natCast]
theorem int_ev {x:Int} (h0:-9223372036854775808≤x) (h1:x < 9223372036854775808):Ev (fun k=>fluxionref03_Int.f k x) (DR (decide (x < 0),x.natAbs,1)):=by
 obtain⟨k1,e1⟩:=size_ev h0 h1
 dsimp only at e1
 refine⟨k1,fun k hk=>?_⟩
 dsimp only
 rw [fluxionref03_Int.f,e1 k (by omega),Option.bind_some]
 unfold DR
 simp only []
 rw [D_one]
end Go.Proofs.YtehghijlchpeaaaGreat.Ev
end
section
namespace Go.Proofs.YtehghijlchpeaaaGreat.Nat1
open Go.RowKit YtehghijlchpeaaaGreatW.PrintWords YtehghijlchpeaaaGreatW.PrintLast YtehghijlchpeaaaGreatW.PrintMore L Nt Ev
theorem dg_of_len {l:List Int} (h:ok B32 l) (hl:l.length=(dg B32 (val B32 l)).length):l=dg B32 (val B32 l):=by
 refine(dg_val zby h ?_).symm
 intro x hx e
 subst e
 rcases Nat.eq_zero_or_pos l.length with h0 | h0
 ·
  have:l=[]:=List.eq_nil_of_length_eq_zero h0
  subst this
  simp at hx
 ·
  obtain⟨n,hn⟩:∃ n,l.length=n+1:=⟨l.length-1,by omega⟩
  have e:=val_top hn
  have hlast:lmb l n=0:=by
   rw [List.getLast?_eq_getElem?,hn,Nat.add_sub_cancel] at hx
   unfold lmb
   rw [List.getD_eq_getElem?_getD,hx]
   rfl
  rw [hlast] at e
  have h1:=zcs h n
  have h2:0 < val B32 l:=by
   rcases Nat.eq_zero_or_pos (val B32 l) with h3 | h3
   ·
    rw [h3,zbT] at hl; simp only [List.length_nil] at hl; omega
   ·
    exact h3
  have h3:=pow_le_of_dg zby h2
  rw [← hl,hn,Nat.add_sub_cancel] at h3
  simp only [Int.toNat_zero,Nat.zero_mul,Nat.add_zero] at e
  rw [← e] at h1
  exact absurd h3 (Nat.not_le.mpr h1)
theorem limbs_f {n:Nat} {l:List Int} (hn:okD (dg B32 n)) (hl:okD l):H.rat_limbs.f (dg B32 n) l=some (decide (l=dg B32 n)):=by
 unfold H.rat_limbs.f
 by_cases h:((dg B32 n).length:Int)=(l.length:Int)
 ·
  rw [if_pos h,nat_Cmp.f,if_pos ⟨hn.okL,hl.okL⟩,Option.bind_some,zbV zby,cmpN_zero]
  congr 1
  rw [decide_eq_decide]
  constructor
  ·
   intro e
   have:=dg_of_len hl.1 (by rw [← e]; omega)
   rw [← e] at this
   exact this
  ·
   intro e
   rw [e,zbV zby]
 ·
  rw [if_neg h]
  congr 1
  refine(decide_eq_false fun e=>h ?_).symm
  rw [e]
theorem okQ_D {X:QN} (h:okQ X):okD (dg B32 X.2.1)∧okD (dg B32 X.2.2):=⟨zcu h.1 (by decide),zcu h.2 (by decide)⟩
def mayV (n:Bool) (p q:List Int):Int:=if n=(nrm n (val B32 p) (val B32 q)).1∧p=dg B32 (nrm n (val B32 p) (val B32 q)).2.1∧q=dg B32 (nrm n (val B32 p) (val B32 q)).2.2 then 0 else 6
theorem may_f {n:Bool} {p q:List Int} (hp:okS p) (hq:okS q):J.rat_May.f n p q=some (mayV n p q):=by
 have hk:=okQ_D (okQ_nrm (n:=n) hp hq)
 unfold J.rat_May.f mayV
 rw [norm_f hp.okD hq.okD,Option.bind_some]
 simp only []
 by_cases h1:n=(nrm n (val B32 p) (val B32 q)).1
 ·
  rw [if_neg (by rw [← h1]; simp),limbs_f hk.1 hp.okD,Option.bind_some]
  by_cases h2:p=dg B32 (nrm n (val B32 p) (val B32 q)).2.1
  ·
   rw [decide_eq_true h2,if_pos rfl,limbs_f hk.2 hq.okD,Option.bind_some]
   by_cases h3:q=dg B32 (nrm n (val B32 p) (val B32 q)).2.2
   ·
    rw [decide_eq_true h3,if_pos rfl,if_pos ⟨h1,h2,h3⟩]
   ·
    rw [decide_eq_false h3,if_neg (by decide),if_neg (fun h=>h3 h.2.2)]
  ·
   rw [decide_eq_false h2,if_neg (by decide),if_neg (fun h=>h2 h.2.1)]
 ·
  rw [if_pos (by rw [bne_iff_ne]; exact fun e=>h1 e.symm),if_neg (fun h=>h1 h.1)]
theorem size_f {x:Int} (h0:-9223372036854775808≤x) (h1:x < 9223372036854775808):H.rat_size.f x=some (dg B32 x.natAbs):=by
 unfold H.rat_size.f
 by_cases hn:x < 0
 ·
  have e1:wrap64 (-(wrap64 (x+1)))=-(x+1):=by rw [w64 (x:=x+1) (by omega) (by omega),w64 (by omega) (by omega)]
  have e2:IntKind.u64.wrap (IntKind.u64.wrap (-(x+1))+1)=((x.natAbs:Nat):Int):=by rw [zci,zci]; omega
  rw [if_pos hn,e1,e2,nat_Of.f,if_pos (by omega),Option.bind_some,Int.toNat_natCast]
 ·
  have e2:IntKind.u64.wrap x=((x.natAbs:Nat):Int):=by rw [zci]; omega
  rw [if_neg hn,e2,nat_Of.f,if_pos (by omega),Option.bind_some,Int.toNat_natCast]
def QT (w:World) (base:Nat) (v:Value) (r:QN):Prop :=
 ∃ v1 v2:Value,v=.agg #[.bool r.1,v1,v2]∧Kd.R (Kd.int .i64) 3 w base (fun _=>True) v1 (dg 10000 r.2.1)∧Kd.R (Kd.int .i64) 3 w base (fun _=>True) v2 (dg 10000 r.2.2)
theorem QT.below {w w':World} {base:Nat} {v:Value} {r:QN} (h:QT w base v r) (hb:Below w.heap.size w w'):QT w' base v r:=by
 obtain⟨v1,v2,he,h1,h2⟩:=h
 exact⟨v1,v2,he,Kd.R_below h1 hb,Kd.R_below h2 hb⟩
theorem okE_dg {n:Nat} (h:(dg B32 n).length≤137438953472):okE (dg B32 n):=⟨dg_ok zby _,h⟩
theorem ref_is_q {w:World} {b1 b2:Nat} {u v:Value} {r x:QN} (hu:QT w b1 u r) (hv:RT w b2 v x) (hx:okQ x) :
  Calls Tryz.prog 36 #[u,v] w fun e w'=>e=.returned (.bool (decide (x.1=r.1∧dg B32 x.2.1=dg B32 r.2.1∧dg B32 x.2.2=dg B32 r.2.2)))∧Below w.heap.size w w':=by
 obtain⟨k,hk⟩:=isR_ev (r:=r) (n:=x.1) (okE_dg hx.1) (okE_dg hx.2)
 have hk:=hk k (Nat.le_refl _)
 obtain⟨u1,u2,rfl,R1,R2⟩:=hu
 obtain⟨A1,c1,rfl⟩:=Kd.R_slice R1
 obtain⟨A2,c2,rfl⟩:=Kd.R_slice R2
 obtain⟨B1,d1,B2,d2,rfl,S1,S2⟩:=hv.args
 exact fluxionref03_Is.calls k r.1 A1 c1 _ A2 c2 _ x.1 B1 d1 _ B2 d2 _ _ w (Kd.R_reads' R1).2.2 (Kd.R_reads' R1).2.1 (Kd.R_reads' R2).2.2 (Kd.R_reads' R2).2.1 (Kd.R_reads' S1).2.2 (Kd.R_reads' S1).2.1 (Kd.R_reads' S2).2.2 (Kd.R_reads' S2).2.1 hk
theorem ref_is_same {w:World} {b1 b2:Nat} {u v:Value} {r x:QN} (hu:QT w b1 u r) (hv:RT w b2 v x) (hx:okQ x) (e:x=r) :
  Calls Tryz.prog 36 #[u,v] w fun e w'=>e=.returned (.bool true)∧Below w.heap.size w w':=by
 have:=ref_is_q hu hv hx
 rwa [decide_eq_true (by rw [e]; exact⟨rfl,rfl,rfl⟩)] at this
theorem LeO_le {α:Type} (F:Nat→Option α) (h:∀ k,LeO (F k) (F (k+1))) {a b:Nat} (hab:a≤b):LeO (F a) (F b):=by
 induction b with
 | zero =>
  have:a=0:=by omega
  subst this
  exact LeO.refl _
 | succ b ih =>
  rcases Nat.lt_or_ge b a with h1 | h1
  ·
   have:a=b+1:=by omega
   subst this
   exact LeO.refl _
  ·
   exact LeO.trans (ih h1) (h b)
theorem bits_f {n:Bool} {p q:List Int} (hp:okS p) (hq:okS q):∃ k,J.rat_Bits.f k n p q=some (mx (nb (nrm n (val B32 p) (val B32 q)).2.1:Int) (nb (nrm n (val B32 p) (val B32 q)).2.2:Int)):=by
 have hk:=okQ_D (okQ_nrm (n:=n) hp hq)
 obtain⟨k1,e1⟩:=bits_spec hk.1.okL
 obtain⟨k2,e2⟩:=bits_spec hk.2.okL
 have m1:=LeO_le (fun k=>H.nat_Bits.f k (dg B32 (nrm n (val B32 p) (val B32 q)).2.1)) (H.nat_Bits.mono _) (Nat.le_max_left k1 k2) _ e1
 have m2:=LeO_le (fun k=>H.nat_Bits.f k (dg B32 (nrm n (val B32 p) (val B32 q)).2.2)) (H.nat_Bits.mono _) (Nat.le_max_right k1 k2) _ e2
 refine⟨max k1 k2,?_⟩
 unfold J.rat_Bits.f
 rw [norm_f hp.okD hq.okD,Option.bind_some]
 simp only []
 rw [m1,Option.bind_some,m2,Option.bind_some,zbV zby,zbV zby]
end Go.Proofs.YtehghijlchpeaaaGreat.Nat1
end
section
namespace Go.Proofs.YtehghijlchpeaaaGreat.Nat1
open Go.RowKit YtehghijlchpeaaaGreatW.PrintWords YtehghijlchpeaaaGreatW.PrintLast YtehghijlchpeaaaGreatW.PrintMore L Nt Ev
def RTPost (w:World) (r:QN) (e:Ending) (w':World):Prop:=∃ v,e=.returned v∧RT w' w.heap.size v r∧Below w.heap.size w w'
theorem RatPost.rtp {w:World} {r:QN} {e:Ending} {w':World} (h:RatPost w r e w'):RTPost w r e w':=h.rt
section
variable {W:World} {b1 b2:Nat} {u v:Value} {X Y:QN} (hu:RT W b1 u X) (hv:RT W b2 v Y) (rX:red X) (rY:red Y) (kX:okQ X) (kY:okQ Y)
include hu rX kX
include hv rY kY
def RTE (w:World) (r:QN) (c:Int) (e:Ending) (w':World):Prop:=∃ A1 c1 A2 c2,e=.returned (.tuple #[.agg #[.bool r.1,.slice A1 (dg B32 r.2.1).length c1,.slice A2 (dg B32 r.2.2).length c2],.int .i64 c]) ∧
 RT w' w.heap.size (.agg #[.bool r.1,.slice A1 (dg B32 r.2.1).length c1,.slice A2 (dg B32 r.2.2).length c2]) r∧Below w.heap.size w w'
end
theorem okQ_small {X:QN} (h1:X.2.1 < 4294967296) (h2:X.2.2 < 4294967296):okQ X:=by
 have e1:=zbS (k:=1) zby (show X.2.1 < B32 ^ 1 by unfold B32; omega)
 have e2:=zbS (k:=1) zby (show X.2.2 < B32 ^ 1 by unfold B32; omega)
 exact⟨by omega,by omega⟩
end Go.Proofs.YtehghijlchpeaaaGreat.Nat1
end
