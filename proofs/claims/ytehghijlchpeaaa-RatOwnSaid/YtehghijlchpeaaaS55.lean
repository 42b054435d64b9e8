/- Part 6 of the proof of ratOwn_holds: what it uses, in build order. -/
import Derived.Test.YtehghijlchpeaaaS54
import Derived.Below
import Derived.ChangeOld
import Derived.Lib.SmallJoins
import Derived.OpenShut
import Derived.ProofKit
import Derived.SizedLaws
import Derived.Test.YtehghijlchpeaaaRows
import Derived.WalkKit
section
namespace Go.Proofs.Ytehghijlchpeaaa.Nat1
open Go.ChangeShapes Go.WideShapes Go.ChangeAt Go.RowKit Go.Joins Go.Proofs.YtehghijlchpeaaaW.PrintWords Go.Proofs.YtehghijlchpeaaaW.PrintLast Go.Proofs.YtehghijlchpeaaaW.PrintMore Go.Proofs.Ytehghijlchpeaaa.L Go.Proofs.Ytehghijlchpeaaa.Nt
set_option linter.unusedVariables false
set_option linter.unusedSimpArgs false
set_option linter.unusedSectionVars false
theorem nat_arg {H:Type} {enc:TypeId×Value→H} {W:World} {m:Nat} {v:Value} {y:DataW H×List MemPlace} (h:DataW.trod enc Try.prog W 0 (fun _=>true) true m 23 [v]=some y) :
  ∃ (A:Option Addr) (c:Nat) (l:List Int),v=.slice A l.length c∧Kd.C (Kd.int .u32) W A l.length l∧l.length≤c∧ok B32 l:=by
 obtain⟨a,len,cap,zs,rfl,hz⟩:∃ a len cap zs,v=.slice a len cap∧((a=none∧len=0∧cap=0∧zs=[])∨∃ x,a=some x∧len≤cap∧cap≤maxLen∧zs.length=cap∧(∀ i,i < zs.length→W.cell? (x.add i)=some (.int .u32 (zs.getD i 0)))∧∀ n∈zs,(Lit.int .u32 n).wf=true):=by
  rcases open_ints Try.underlying23 Try.underlying63 (by kernel_rfl) h with ⟨hcs,_⟩ | ⟨x,l,c,zs,hcs,_,hl,hm,hz,_,hcell,hwz⟩
  ·
   injection hcs with hcs _
   exact⟨none,0,0,[],hcs,.inl ⟨rfl,rfl,rfl,rfl⟩⟩
  ·
   injection hcs with hcs _
   exact⟨some x,l,c,zs,hcs,.inr ⟨_,rfl,hl,hm,by simpa using hz,hcell,hwz⟩⟩
 obtain⟨l,rfl,hr,hm,hw,hc⟩:=za1.ofRowC hz
 refine⟨a,cap,l,rfl,Kd.C_of_reads (d:=(0:Int)) (h1:=fun _=>rfl) hr,hc,fun x hx=>?_⟩
 have:=hw x hx
 simp [Lit.wf,IntKind.min,IntKind.max,IntKind.bits,IntKind.signed] at this
 unfold B32
 omega
set_option maxRecDepth 100000 in
theorem rat_arg {H:Type} {enc:TypeId×Value→H} {W:World} {r:Reach} {b0:Nat} {v:Value} {d:DataW H} {p:List MemPlace} (hv:Value.okWide Try.prog W r b0 25 v) (h:DataW.Trod enc Try.prog W 0 (fun _=>true) true 25 v d p) :
  ∃ (n:Bool) (A1:Option Addr) (c1:Nat) (p:List Int) (A2:Option Addr) (c2:Nat) (q:List Int),v=.agg #[.bool n,.slice A1 p.length c1,.slice A2 q.length c2] ∧
   (Kd.C (Kd.int .u32) W A1 p.length p∧p.length≤c1∧ok B32 p)∧(Kd.C (Kd.int .u32) W A2 q.length q∧q.length≤c2∧ok B32 q):=by
 obtain⟨b0,b1,b2,y0,y1,y2,m,rfl,rfl,rfl,hy0,hy1,hy2⟩:=open_agg3 Try.underlying25 (by kernel_rfl) (by kernel_rfl) hv h
 obtain⟨n,e0,_⟩:=DataW.trod_bool Try.underlying4 hy0
 obtain⟨A1,c1,p,rfl,h1⟩:=nat_arg hy1
 obtain⟨A2,c2,q,rfl,h2⟩:=nat_arg hy2
 simp at e0
 subst e0
 exact⟨n,A1,c1,p,A2,c2,q,rfl,h1,h2⟩
end Go.Proofs.Ytehghijlchpeaaa.Nat1
end
section
namespace Go.Proofs.Ytehghijlchpeaaa.Nat1
open Go.RowKit Go.Proofs.YtehghijlchpeaaaW.PrintWords Go.Proofs.YtehghijlchpeaaaW.PrintLast Go.Proofs.YtehghijlchpeaaaW.PrintMore Go.Proofs.Ytehghijlchpeaaa.L Go.Proofs.Ytehghijlchpeaaa.Nt Go.Proofs.Ytehghijlchpeaaa.Ev
set_option linter.unusedVariables false
set_option linter.unusedSimpArgs false
set_option linter.unusedSectionVars false
set_option maxHeartbeats 1000000 in
set_option maxRecDepth 100000 in
theorem own_q (A0:Option Addr) (c0:Nat) (l0:List Int) (w:World) (hr0:Kd.C (Kd.int .u32) w A0 l0.length l0) (hc0:l0.length≤c0) (hl:l0.length≤1099511627776) :
  Calls Try.prog 23 #[.slice A0 l0.length c0] w fun e w'=>∃ v0_:Value,e=.returned (v0_)∧Kd.R (Kd.int .u32) 63 w' w.heap.size (fun _=>True) v0_ l0∧Below w.heap.size w w':=by
 have HR:=Aside0.mk hr0
 clear hr0
 go_enter Try.func23,Try.ntmps23
 go_wp2_with ((with_reducible refine zaI (b:=.append) rfl ?_); go_must (refine Kd.R_append_row (Value.int .u32) (0:Int) w.heap.size rfl _ _ 23 63 (.int .u32 0) 4 rfl Try.underlying23 infoU32 rfl (by omega) (.slice none 0 0) [] l0 A0 l0.length c0 (fun _=>True) rfl rfl (fun _ _=>trivial) (Kd.R_nil _ _ _ _ _) HR.out (Below.refl _ _) (Nat.le_refl _) (by simp only [List.length_nil]; omega) ?_); intro v1 w1 hR hB hx1 hx2; clear hx1 hx2; obtain⟨A,c,rfl⟩:=Kd.R_slice hR; have HR1:=Aside0.mk hR; have HB1:=Aside0.mk hB; clear hR hB)
 go_ret
 exact⟨_,rfl,HR1.out,HB1.out⟩
set_option maxHeartbeats 2000000 in
set_option maxRecDepth 100000 in
theorem ownR_q (n:Bool) (A1:Option Addr) (c1:Nat) (p:List Int) (A2:Option Addr) (c2:Nat) (q:List Int) (w:World) (hr1:Kd.C (Kd.int .u32) w A1 p.length p) (hc1:p.length≤c1) (hr2:Kd.C (Kd.int .u32) w A2 q.length q) (hc2:q.length≤c2) (hp:p.length≤1099511627776) (hq:q.length≤1099511627776) :
  Calls Try.prog 17 #[.agg #[.bool n,.slice A1 p.length c1,.slice A2 q.length c2]] w fun e w'=>∃ v1 v2,e=.returned (.agg #[.bool n,v1,v2])∧Kd.R (Kd.int .u32) 63 w' w.heap.size (fun k_=>some k_≠v2.ownBlock) v1 p∧Kd.R (Kd.int .u32) 63 w' w.heap.size (fun k_=>some k_≠v1.ownBlock) v2 q∧Below w.heap.size w w':=by
 have hu25:=Try.underlying25
 have H1:=Aside0.mk (fun (W:World) (hb:Below w.heap.size w W)=>own_q A1 c1 p W (Kd.C_below hr1 hb) hc1 hp)
 have H2:=Aside0.mk (fun (W:World) (hb:Below w.heap.size w W)=>own_q A2 c2 q W (Kd.C_below hr2 hb) hc2 hq)
 clear hr1 hr2 hp hq
 go_enter Try.func17,Try.ntmps17
 go_wp2_with fail
 have hb1:=zae (zbp w (.cells #[.bool n,.slice A1 p.length c1,.slice A2 q.length c2] 25)) (.cells #[.bool false,.slice none 0 0,.slice none 0 0] 25)
 have hb2:=zbp (w.alloc (.cells #[.bool n,.slice A1 p.length c1,.slice A2 q.length c2] 25)) (.cells #[.bool false,.slice none 0 0,.slice none 0 0] 25)
 have hs:(w.alloc (.cells #[.bool n,.slice A1 p.length c1,.slice A2 q.length c2] 25)).heap.size=w.heap.size+1:=by simp
 rw [hs] at hb2
 have hbw:Below w.heap.size w ((w.alloc (.cells #[.bool n,.slice A1 p.length c1,.slice A2 q.length c2] 25)).alloc (.cells #[.bool false,.slice none 0 0,.slice none 0 0] 25)):=zab (zab (Below.refl _ _) _) _
 have HX0:=Aside0.mk (And.intro (zah hb1) (And.intro (zah hb2) (zac hbw)))
 clear hb1 hb2 hbw hs
 generalize (w.alloc (.cells #[.bool n,.slice A1 p.length c1,.slice A2 q.length c2] 25)).alloc (.cells #[.bool false,.slice none 0 0,.slice none 0 0] 25)=W0 at HX0 ⊢
 refine start_ (n:=10) (S:=fun w'=>(w'.cell? ⟨w.heap.size,0,none⟩=some (.bool n)∧w'.cell? ⟨w.heap.size,1,none⟩=some (.slice A1 p.length c1)∧w'.cell? ⟨w.heap.size,2,none⟩=some (.slice A2 q.length c2))) (ds:=[9]) #[false,false,false,false,false,false,false,false,false,false] (by kernel_rfl) rfl rfl (⟨(zai HX0.out.1 0).trans rfl,(zai HX0.out.1 1).trans rfl,(zai HX0.out.1 2).trans rfl⟩) (fun hHeld=>?_)
 generalize W0.drew=V0 at HX0 hHeld ⊢
 refine zaA (i:=0) (N:=some 3) (v:=?_) (a':=?_) #[true,false,false,false,false,false,false,false,false,false] rfl rfl (by kernel_rfl) (fun _ _ _ h=>h) (Or.inl ⟨by rfl,?_⟩) ?_ ?_
 rotate_left
 ·
  intro w'
  go_simp
  with_reducible rfl
 rotate_left
 ·
  simp only [Act.put,List.setIfInBounds_toArray,List.set_cons_zero,List.set_cons_succ,zaq,zar]
  rfl
 refine zaA (i:=2) (N:=some 5) (v:=?_) (a':=?_) #[true,false,true,false,false,false,false,false,false,false] rfl rfl (by kernel_rfl) (fun _ _ _ h=>h) (Or.inl ⟨by rfl,?_⟩) ?_ ?_
 rotate_left
 ·
  intro w'
  go_simp
  with_reducible rfl
 rotate_left
 ·
  simp only [Act.put,List.setIfInBounds_toArray,List.set_cons_zero,List.set_cons_succ,zaq,zar]
  rfl
 refine zaA (i:=5) (N:=some 8) (v:=?_) (a':=?_) #[true,false,true,false,false,true,false,false,false,false] rfl rfl (by kernel_rfl) (fun _ _ _ h=>h) (Or.inl ⟨by rfl,?_⟩) ?_ ?_
 rotate_left
 ·
  intro w'
  go_simp
  with_reducible rfl
 rotate_left
 ·
  simp only [Act.put,List.setIfInBounds_toArray,List.set_cons_zero,List.set_cons_succ,zaq,zar]
  rfl
 refine take_ (i:=1) (N:=some 4) (v:=?_) (a':=?_) #[true,true,true,false,false,true,false,false,false,false] rfl rfl (by kernel_rfl) (fun _ _ _ h=>h) (Or.inl ⟨by rfl,?_⟩) hHeld ?_ ?_
 rotate_left
 ·
  intro w' s0
  go_simp
  with_reducible rfl
 rotate_left
 ·
  simp only [Act.put,List.setIfInBounds_toArray,List.set_cons_zero,List.set_cons_succ,zaq,zar]
  rfl
 refine take_ (i:=3) (N:=some 6) (v:=?_) (a':=?_) #[true,true,true,true,false,true,false,false,false,false] rfl rfl (by kernel_rfl) (fun _ _ _ h=>h) (Or.inl ⟨by rfl,?_⟩) hHeld ?_ ?_
 rotate_left
 ·
  intro w' s0
  go_simp
  with_reducible rfl
 rotate_left
 ·
  simp only [Act.put,List.setIfInBounds_toArray,List.set_cons_zero,List.set_cons_succ,zaq,zar]
  rfl
 refine take_ (i:=6) (N:=some 9) (v:=?_) (a':=?_) #[true,true,true,true,false,true,true,false,false,false] rfl rfl (by kernel_rfl) (fun _ _ _ h=>h) (Or.inl ⟨by rfl,?_⟩) hHeld ?_ ?_
 rotate_left
 ·
  intro w' s0
  go_simp
  with_reducible rfl
 rotate_left
 ·
  simp only [Act.put,List.setIfInBounds_toArray,List.set_cons_zero,List.set_cons_succ,zaq,zar]
  rfl
 refine one_ (i:=4) (N:=some 7) #[true,true,true,true,true,true,true,false,false,false] rfl rfl (by kernel_rfl) (by decide) (fun K hK=>?_)
 refine za7 Try.func23 (by kernel_rfl) rfl #[.slice A1 p.length c1] (by rfl) rfl rfl (by (try simp only [List.map_toArray,List.map_cons,List.map_nil]); first | done | rfl) ?_
 refine(H1.out V0 HX0.out.2.2).mono ?_
 rintro e V1 ⟨v,rfl,hR,hB⟩
 refine⟨_,rfl,?_⟩
 obtain⟨B0,d0,rfl⟩:=Kd.R_slice hR
 have HX1:=Aside0.mk (And.intro (zal HX0.out.1 hB) (And.intro (zal HX0.out.2.1 hB) (zag HX0.out.2.2 hB)))
 have HR1:=Aside0.mk (Kd.R_lower hR HX0.out.2.2.size)
 clear hR hB HX0
 refine hK.out _ _ (⟨(zai HX1.out.1 0).trans rfl,(zai HX1.out.1 1).trans rfl,(zai HX1.out.1 2).trans rfl⟩) (fun hHeld=>?_)
 clear hK K
 refine zaS (a':=?_) ?_ ?_
 rotate_left
 ·
  show Act.put _ (some 7) _=_
  simp only [Act.put,List.setIfInBounds_toArray,List.set_cons_zero,List.set_cons_succ,zaq,zar]
  rfl
 refine one_ (i:=7) (N:=some 10) #[true,true,true,true,true,true,true,true,false,false] rfl rfl (by kernel_rfl) (by decide) (fun K hK=>?_)
 refine za7 Try.func23 (by kernel_rfl) rfl #[.slice A2 q.length c2] (by rfl) rfl rfl (by (try simp only [List.map_toArray,List.map_cons,List.map_nil]); first | done | rfl) ?_
 refine(H2.out V1 HX1.out.2.2).mono ?_
 rintro e V2 ⟨v,rfl,hR,hB⟩
 refine⟨_,rfl,?_⟩
 obtain⟨B1,d1,rfl⟩:=Kd.R_slice hR
 have HX2:=Aside0.mk (And.intro (zal HX1.out.1 hB) (And.intro (zal HX1.out.2.1 hB) (zag HX1.out.2.2 hB)))
 have HRR:=Aside0.mk (two_apart HR1.out hR hB HX1.out.2.2.size)
 clear hR hB HX1
 refine hK.out _ _ (⟨(zai HX2.out.1 0).trans rfl,(zai HX2.out.1 1).trans rfl,(zai HX2.out.1 2).trans rfl⟩) (fun hHeld=>?_)
 clear hK K
 refine zaS (a':=?_) ?_ ?_
 rotate_left
 ·
  show Act.put _ (some 10) _=_
  simp only [Act.put,List.setIfInBounds_toArray,List.set_cons_zero,List.set_cons_succ,zaq,zar]
  rfl
 refine zaA (i:=8) (N:=some 11) (v:=?_) (a':=?_) #[true,true,true,true,true,true,true,true,true,false] rfl rfl (by kernel_rfl) (fun _ _ _ h=>h) (Or.inl ⟨by rfl,?_⟩) ?_ ?_
 rotate_left
 ·
  intro w'
  go_simp
  with_reducible rfl
 rotate_left
 ·
  simp only [Act.put,List.setIfInBounds_toArray,List.set_cons_zero,List.set_cons_succ,zaq,zar]
  rfl
 refine last_ (i:=9) (N:=none) #[true,true,true,true,true,true,true,true,true,true] rfl rfl (by kernel_rfl) (by decide) (fun K hK=>?_)
 obtain⟨⟨x0,x1,x2⟩,y0,y1,y2⟩:=zat HX2.out.2.1
 refine skip_ (w1:=?_) (by rfl) rfl ?_ ?_
 rotate_left
 ·
  go_simp
  rfl
 refine hK.out _ _ ?_
 clear hK K
 refine done_ (by kernel_rfl) ?_
 clear hHeld
 go_wp2
 refine bodyPost_ret (results_cell_row rfl _ _ (w.heap.size+1) 25 _ (0,0) _ rfl (zaK HX2.out.2.1 _ _ _) Try.underlying25 rfl (by kernel_rfl)) rfl ?_
 exact⟨_,_,rfl,zbr HRR.out.1 HX2.out.2.1 _ _ _,zbr HRR.out.2 HX2.out.2.1 _ _ _,zaL HX2.out.2.2 (by omega) _ _ _⟩
end Go.Proofs.Ytehghijlchpeaaa.Nat1
end
section
namespace Go.Proofs.Ytehghijlchpeaaa.Ev
open Go.RowKit Go.Proofs.YtehghijlchpeaaaW.PrintWords Go.Proofs.YtehghijlchpeaaaW.PrintLast Go.Proofs.YtehghijlchpeaaaW.PrintMore Go.Proofs.Ytehghijlchpeaaa.L Go.Proofs.Ytehghijlchpeaaa.Nt Go.Proofs.Ytehghijlchpeaaa.Nat1
set_option linter.unusedVariables false
set_option linter.unusedSimpArgs false
set_option linter.unusedSectionVars false
def fewB (ls:List (List Int)):Bool:=ls.all (fun l=>decide (l.length≤60))
theorem few_loop (ls:List (List Int)) (hl:ls.length≤1000000) (j:Nat):∀ i,i+j=ls.length→Ev (fun k=>fluxionlaw03_few.l0 k ls (i:Int)) (fewB (ls.drop i)):=by
 induction j with
 | zero =>
  intro i hi
  rw [List.drop_eq_nil_of_le (by omega)]
  refine Ev.succ (Ev.congr (Ev.some _) (fun k=>?_))
  rw [fluxionlaw03_few.l0,if_neg (by omega)]
  rfl
 | succ j ih =>
  intro i hi
  have hlt:i < ls.length:=by omega
  have hr:rd_L2 ls (i:Int)=ls[i]:=by
   unfold rd_L2
   rw [Int.toNat_natCast,List.getD_eq_getElem?_getD,List.getElem?_eq_getElem hlt]
   rfl
  have e:fewB (ls.drop i)=(decide (ls[i].length≤60) && fewB (ls.drop (i+1))):=by
   rw [List.drop_eq_getElem_cons hlt]
   rfl
  rw [e]
  by_cases h:ls[i].length > 60
  ·
   rw [decide_eq_false (by omega),Bool.false_and]
   refine Ev.succ (Ev.congr (Ev.some _) (fun k=>?_))
   rw [fluxionlaw03_few.l0,if_pos (by omega),if_pos (by omega),hr,if_pos (by omega)]
  ·
   rw [decide_eq_true (by omega),Bool.true_and]
   refine Ev.succ (Ev.congr (ih (i+1) (by omega)) (fun k=>?_))
   rw [fluxionlaw03_few.l0,if_pos (by omega),if_pos (by omega),hr,if_neg (by omega),w_succ (by omega)]
end Go.Proofs.Ytehghijlchpeaaa.Ev
namespace Go.Proofs.Ytehghijlchpeaaa.Nat1
open Go.RowKit Go.Proofs.YtehghijlchpeaaaW.PrintWords Go.Proofs.YtehghijlchpeaaaW.PrintLast Go.Proofs.YtehghijlchpeaaaW.PrintMore Go.Proofs.Ytehghijlchpeaaa.L Go.Proofs.Ytehghijlchpeaaa.Nt Go.Proofs.Ytehghijlchpeaaa.Ev
abbrev SL:=Option Addr×Nat×List Int
def slV (x:SL):Value:=.slice x.1 x.2.2.length x.2.1
theorem few_q (xs:List SL) (g:Nat) (t:TypeId) (W:World) (hg:W.heap[g]? = some (.cells (xs.map slV).toArray t (0,0))) (hC:∀ x∈xs,Kd.C (Kd.int .u32) W x.1 x.2.2.length x.2.2∧x.2.2.length≤x.2.1) (hn:xs.length≤1000000) :
  Calls Try.prog 14 #[.slice (some ⟨g,0,none⟩) xs.length xs.length] W fun e w'=>e=.returned (.bool (fewB (xs.map (fun x=>x.2.2))))∧Drawn0 W w':=by
 obtain⟨k,hk⟩:=few_loop (xs.map (fun x=>x.2.2)) (by rw [List.length_map]; exact hn) xs.length 0 (by rw [List.length_map]; omega)
 have hk:fluxionlaw03_few.f k (xs.map (fun x=>x.2.2))=_:=hk k (Nat.le_refl _)
 have:=fluxionlaw03_few.calls k (some ⟨g,0,none⟩) xs.length (xs.map (fun x=>x.2.2)) _ W ⟨rfl,by rw [List.length_map]; omega,fun _=>⟨_,rfl,fun j p hj=>?_⟩⟩ (by rw [List.length_map]; exact Nat.le_refl _) hk
 ·
  rw [List.length_map,List.drop_zero] at this
  exact this
 ·
  rw [List.getElem?_map] at hj
  obtain⟨x,hx,rfl⟩:=Option.map_eq_some_iff.1 hj
  have hm:=List.mem_of_getElem? hx
  refine⟨[slV x],rfl,⟨x.1,x.2.1,rfl,(hC x hm).2,(hC x hm).1⟩,fun i u hi=>?_⟩
  match i,hi with
  | 0,hi =>
   cases hi
   have hc:=zai hg j
   rw [List.getElem?_toArray,List.getElem?_map,hx] at hc
   have ea:(⟨g,0,none⟩:Addr).add (j*1+0)=⟨g,j,none⟩:=by
    cases j with
    | zero=>rfl
    | succ j=>simp [Addr.add]
   have es:(Kd.slice 63 (Kd.int .u32)).sz=1:=rfl
   rw [es,ea,hc]
   rfl
  | i+1,hi=>simp at hi
end Go.Proofs.Ytehghijlchpeaaa.Nat1
end
section
namespace Go.Proofs.Ytehghijlchpeaaa.Nat1
open Go.RowKit Go.Proofs.YtehghijlchpeaaaW.PrintWords Go.Proofs.YtehghijlchpeaaaW.PrintLast Go.Proofs.YtehghijlchpeaaaW.PrintMore Go.Proofs.Ytehghijlchpeaaa.L Go.Proofs.Ytehghijlchpeaaa.Nt Go.Proofs.Ytehghijlchpeaaa.Ev
set_option linter.unusedVariables false
set_option linter.unusedSimpArgs false
set_option linter.unusedSectionVars false
section
variable {W:World} {u v:Value} {X Y:QN} (hu:NR W u X) (hv:NR W v Y)
include hu
theorem norm_n:Calls Try.prog 16 #[u] W (RTPost W X):=by
 obtain⟨n,A1,c1,p,A2,c2,q,rfl,h1,h2,rfl⟩:=hu
 exact(norm_q n A1 c1 p A2 c2 q W h1.1 h1.2.1 h2.1 h2.2.1 h1.2.2.okD h2.2.2.okD).mono (fun e w' h=>h.rtp)
theorem neg_n:Calls Try.prog 37 #[u] W (RTPost W (ngt X)):=by
 obtain⟨n,A1,c1,p,A2,c2,q,rfl,h1,h2,rfl⟩:=hu
 exact(neg_q n A1 c1 p A2 c2 q W h1.1 h1.2.1 h2.1 h2.2.1 h1.2.2.okD h2.2.2.okD).mono (fun e w' h=>h.rtp)
include hv
theorem add_n:Calls Try.prog 31 #[u,v] W (RTPost W (addQ X Y)):=by
 obtain⟨n,A1,c1,p,A2,c2,q,rfl,h1,h2,rfl⟩:=hu
 obtain⟨m,A3,c3,r,A4,c4,s,rfl,h3,h4,rfl⟩:=hv
 have:=addR_q n A1 c1 p A2 c2 q m A3 c3 r A4 c4 s W h1.1 h1.2.1 h2.1 h2.2.1 h3.1 h3.2.1 h4.1 h4.2.1 h1.2.2 h2.2.2 h3.2.2 h4.2.2
 rw [if_neg (by decide)] at this
 exact this.mono (fun e w' h=>h.rtp)
theorem sub_n:Calls Try.prog 33 #[u,v] W (RTPost W (addQ X (ngt Y))):=by
 obtain⟨n,A1,c1,p,A2,c2,q,rfl,h1,h2,rfl⟩:=hu
 obtain⟨m,A3,c3,r,A4,c4,s,rfl,h3,h4,rfl⟩:=hv
 have:=subR_q n A1 c1 p A2 c2 q m A3 c3 r A4 c4 s W h1.1 h1.2.1 h2.1 h2.2.1 h3.1 h3.2.1 h4.1 h4.2.1 h1.2.2 h2.2.2 h3.2.2 h4.2.2
 rw [if_pos rfl] at this
 exact this.mono (fun e w' h=>h.rtp)
theorem mul_n:Calls Try.prog 35 #[u,v] W (RTPost W (mulQ X Y)):=by
 obtain⟨n,A1,c1,p,A2,c2,q,rfl,h1,h2,rfl⟩:=hu
 obtain⟨m,A3,c3,r,A4,c4,s,rfl,h3,h4,rfl⟩:=hv
 exact(mulR_q n A1 c1 p A2 c2 q m A3 c3 r A4 c4 s W h1.1 h1.2.1 h2.1 h2.2.1 h3.1 h3.2.1 h4.1 h4.2.1 h1.2.2 h2.2.2 h3.2.2 h4.2.2).mono (fun e w' h=>h.rtp)
theorem div_n:Calls Try.prog 38 #[u,v] W (MakePost W (divP X Y)):=by
 obtain⟨n,A1,c1,p,A2,c2,q,rfl,h1,h2,rfl⟩:=hu
 obtain⟨m,A3,c3,r,A4,c4,s,rfl,h3,h4,rfl⟩:=hv
 exact divR_q n A1 c1 p A2 c2 q m A3 c3 r A4 c4 s W h1.1 h1.2.1 h2.1 h2.2.1 h3.1 h3.2.1 h4.1 h4.2.1 h1.2.2 h2.2.2 h3.2.2 h4.2.2
end
theorem okS60 {l:List Int} (h:ok B32 l) (hl:l.length≤60):okS l:=⟨h,by omega⟩
def NL (w:World) (v:Value) (l:List Int):Prop:=∃ (A:Option Addr) (c:Nat),v=.slice A l.length c∧Kd.C (Kd.int .u32) w A l.length l∧l.length≤c
theorem NR.of {w:World} {n:Bool} {v1 v2:Value} {p q:List Int} (h1:NL w v1 p) (h2:NL w v2 q) (k1:okS p) (k2:okS q):NR w (.agg #[.bool n,v1,v2]) (nrm n (val B32 p) (val B32 q)):=by
 obtain⟨A1,c1,rfl,a1,b1⟩:=h1
 obtain⟨A2,c2,rfl,a2,b2⟩:=h2
 exact⟨n,A1,c1,p,A2,c2,q,rfl,⟨a1,b1,k1⟩,⟨a2,b2,k2⟩,rfl⟩
theorem make_n {W:World} {n:Bool} {u v:Value} {p q:List Int} (hu:NL W u p) (hv:NL W v q) (hp:okD p) (hq:okD q):Calls Try.prog 22 #[.bool n,u,v] W (MakePost W (mkR n (val B32 p) (val B32 q))):=by
 obtain⟨A1,c1,rfl,a1,b1⟩:=hu
 obtain⟨A2,c2,rfl,a2,b2⟩:=hv
 exact make_q n A1 c1 p A2 c2 q W a1 b1 a2 b2 hp hq
end Go.Proofs.Ytehghijlchpeaaa.Nat1
end
section
namespace Go.Proofs.Ytehghijlchpeaaa.Ev
open Go.RowKit Go.Proofs.YtehghijlchpeaaaW.PrintWords Go.Proofs.YtehghijlchpeaaaW.PrintLast Go.Proofs.YtehghijlchpeaaaW.PrintMore Go.Proofs.Ytehghijlchpeaaa.L Go.Proofs.Ytehghijlchpeaaa.Nt Go.Proofs.Ytehghijlchpeaaa.Nat1
set_option linter.unusedVariables false
set_option linter.unusedSimpArgs false
set_option linter.unusedSectionVars false
theorem equal_loop {l:List Int} (hl:l.length≤4611686018427387904) (n:Nat):∀ i,i+n=l.length→Ev (fun k=>fluxionref01_Equal.l0 k l l (i:Int)) true:=by
 induction n with
 | zero =>
  intro i hi
  refine Ev.succ (Ev.succ (Ev.congr (Ev.some _) (fun k=>?_)))
  rw [fluxionref01_Equal.l0,if_neg (by omega),fluxionref01_Equal.j1,if_neg (by rw [decide_eq_false (by omega)]; decide)]
 | succ n ih =>
  intro i hi
  refine Ev.succ (Ev.succ (Ev.succ (Ev.congr (ih (i+1) (by omega)) (fun k=>?_))))
  rw [fluxionref01_Equal.l0,if_pos (by omega),fluxionref01_Equal.j1,if_pos rfl,if_pos (by omega),if_pos (by omega),fluxionref01_Equal.j2,if_pos (by omega),if_pos (by omega),if_pos rfl,w_succ (by omega)]
theorem equal_ev {l:List Int} (hl:l.length≤4611686018427387904):Ev (fun k=>fluxionref01_Equal.f k l l) true:=equal_loop hl l.length 0 (by omega)
end Go.Proofs.Ytehghijlchpeaaa.Ev
namespace Go.Proofs.Ytehghijlchpeaaa.Nat1
open Go.RowKit Go.Proofs.YtehghijlchpeaaaW.PrintWords Go.Proofs.YtehghijlchpeaaaW.PrintLast Go.Proofs.YtehghijlchpeaaaW.PrintMore Go.Proofs.Ytehghijlchpeaaa.L Go.Proofs.Ytehghijlchpeaaa.Nt Go.Proofs.Ytehghijlchpeaaa.Ev
theorem equal_n {W:World} {u v:Value} {l:List Int} (hu:NL W u l) (hv:NL W v l) (hl:l.length≤4611686018427387904):Calls Try.prog 49 #[u,v] W fun e w'=>e=.returned (.bool true)∧Below W.heap.size W w':=by
 obtain⟨A1,c1,rfl,a1,b1⟩:=hu
 obtain⟨A2,c2,rfl,a2,b2⟩:=hv
 obtain⟨k,hk⟩:=equal_ev hl
 refine(fluxionref01_Equal.calls k A1 c1 _ A2 c2 _ _ W a1 b1 a2 b2 (hk k (Nat.le_refl _))).mono ?_
 rintro e w' ⟨rfl,hD⟩
 obtain⟨m,rfl⟩:=hD.out
 exact⟨rfl,zaa (Below.refl _ _) m⟩
end Go.Proofs.Ytehghijlchpeaaa.Nat1
end
section
noncomputable section
namespace Go.Proofs.Ytehghijlchpeaaa.J
open Go.RowKit Ytehghijlchpeaaa.H Ytehghijlchpeaaa.L Ytehghijlchpeaaa.Nat1 Go.Proofs.YtehghijlchpeaaaW.PrintWords Go.Proofs.YtehghijlchpeaaaW.PrintLast Go.Proofs.YtehghijlchpeaaaW.PrintMore
attribute [local go_sem] zaX zaU zbc za9 zaN zaM zaW zaV   -- for this text's walks alone
set_option linter.unusedVariables false
set_option linter.unusedSimpArgs false
def rat_Pow.f (k:Nat) (a0_0:Bool) (l0_1:List Int) (l0_2:List Int) (a1:Int):Option (Bool×List Int×List Int):=(rat_Norm.f a0_0 l0_1 l0_2).bind fun bt217=>(if bt217.1=true then (if a1 > 0 then ((quo_Pow.f k bt217.2.1 a1).bind fun t224=>((quo_Pow.f k bt217.2.2 a1).bind fun t227=>(some (((Int.tmod a1 2) == 1),t224,t227)))) else ((quo_Pow.f k bt217.2.1 a1).bind fun t230=>((quo_Pow.f k bt217.2.2 a1).bind fun t233=>(some (false,t230,t233))))) else ((quo_Pow.f k bt217.2.1 a1).bind fun t236=>((quo_Pow.f k bt217.2.2 a1).bind fun t239=>(some (false,t236,t239)))))
def rat_Pow.T2:Bool×List (List Nat×List Nat):=(true,[([],[]),([0],[0]),([1],[1]),([2],[2]),([3,2],[2,3]),([2,4],[2,4]),([5,2],[5]),([6],[6]),([7,6],[6,7]),([8,6],[6,8]),([6,9],[6,9]),([],[]),([11],[11]),([],[]),([12,13,6],[12,13]),([],[]),([15],[15]),([],[]),([16,17,14],[16,17]),([10,14,18],[10,14,18]),([19,18,0,1,2,3,4,5,6,7,8,9,10,11,12,13,14,15,16,17,18,19],[19])])
def rat_Pow.B2:List Nat:=[0,1,3,7,15,31,63,127,255,511,1023,0,2048,0,14463,0,32768,0,260223,524287,1048575]
theorem rat_Pow.tab2:rtab .any (opsOf Try.f48 2)=rat_Pow.T2:=by kernel_rfl
theorem rat_Pow.bits2:waitsOk rat_Pow.T2.2 rat_Pow.B2=true:=by kernel_rfl
set_option maxHeartbeats 8000000 in
set_option maxRecDepth 100000 in
theorem rat_Pow.calls (k:Nat) (a0_0:Bool) (A0_1:Option Addr) (c0_1:Nat) (l0_1:List Int) (A0_2:Option Addr) (c0_2:Nat) (l0_2:List Int) (a1:Int) (r1:Bool) (r2:List Int) (r3:List Int) (w:World) (hr0_1:Kd.C (Kd.int .u32) w A0_1 l0_1.length l0_1) (hc0_1:l0_1.length≤c0_1) (hr0_2:Kd.C (Kd.int .u32) w A0_2 l0_2.length l0_2) (hc0_2:l0_2.length≤c0_2) (h:rat_Pow.f k a0_0 l0_1 l0_2 a1=some (r1,r2,r3)) :
  Calls Try.prog 48 #[.agg #[.bool a0_0,.slice A0_1 l0_1.length c0_1,.slice A0_2 l0_2.length c0_2],.int .i64 a1] w fun e w'=>∃ v1_ v2_:Value,e=.returned (.agg #[.bool r1,v1_,v2_])∧Kd.R (Kd.int .u32) 63 w' w.heap.size (fun k_=>some k_≠(v2_:Value).ownBlock) v1_ r2∧Kd.R (Kd.int .u32) 63 w' w.heap.size (fun k_=>some k_≠(v1_:Value).ownBlock) v2_ r3∧Below w.heap.size w w':=by
 have hu25:=Try.underlying25
 have HR0_1:=Aside0.mk hr0_1
 have HC0_1:=Aside0.mk hc0_1
 clear hr0_1 hc0_1
 have HR0_2:=Aside0.mk hr0_2
 have HC0_2:=Aside0.mk hc0_2
 clear hr0_2 hc0_2
 have HB:=Aside0.mk (Below.refl w.heap.size w)
 have H:((rat_Norm.f a0_0 l0_1 l0_2).bind fun bt217=>(if bt217.1=true then (if a1 > 0 then ((quo_Pow.f k bt217.2.1 a1).bind fun t224=>((quo_Pow.f k bt217.2.2 a1).bind fun t227=>(some (((Int.tmod a1 2) == 1),t224,t227)))) else ((quo_Pow.f k bt217.2.1 a1).bind fun t230=>((quo_Pow.f k bt217.2.2 a1).bind fun t233=>(some (false,t230,t233))))) else ((quo_Pow.f k bt217.2.1 a1).bind fun t236=>((quo_Pow.f k bt217.2.2 a1).bind fun t239=>(some (false,t236,t239))))))=some (r1,r2,r3):=h
 clear h
 replace H:=Option.bind_eq_some_iff.mp H
 obtain⟨⟨t217,t218,t221⟩,A30,H⟩:=H
 replace H:(if t217=true then (if a1 > 0 then ((quo_Pow.f k t218 a1).bind fun t224=>((quo_Pow.f k t221 a1).bind fun t227=>(some (((Int.tmod a1 2) == 1),t224,t227)))) else ((quo_Pow.f k t218 a1).bind fun t230=>((quo_Pow.f k t221 a1).bind fun t233=>(some (false,t230,t233))))) else ((quo_Pow.f k t218 a1).bind fun t236=>((quo_Pow.f k t221 a1).bind fun t239=>(some (false,t236,t239)))))=some (r1,r2,r3):=H
 have A3:=Aside0.mk A30
 clear A30
 by_cases c4:t217=true
 ·
  subst c4
  have H1:(if a1 > 0 then ((quo_Pow.f k t218 a1).bind fun t224=>((quo_Pow.f k t221 a1).bind fun t227=>(some (((Int.tmod a1 2) == 1),t224,t227)))) else ((quo_Pow.f k t218 a1).bind fun t230=>((quo_Pow.f k t221 a1).bind fun t233=>(some (false,t230,t233)))))=some (r1,r2,r3):=by rw [if_pos rfl] at H; exact H
  clear H
  have H:=H1
  clear H1
  by_cases c5:a1 > 0
  ·
   rw [if_pos c5] at H
   have c5b0:decide (0 < a1)=true:=decide_eq_true c5
   clear c5
   replace H:=Option.bind_eq_some_iff.mp H
   obtain⟨t224,A60,H⟩:=H
   replace H:((quo_Pow.f k t221 a1).bind fun t227=>(some (((Int.tmod a1 2) == 1),t224,t227)))=some (r1,r2,r3):=H
   have A6:=Aside0.mk A60
   clear A60
   replace H:=Option.bind_eq_some_iff.mp H
   obtain⟨t227,A70,H⟩:=H
   replace H:(some (((Int.tmod a1 2) == 1),t224,t227))=some (r1,r2,r3):=H
   have A7:=Aside0.mk A70
   clear A70
   simp only [Option.some.injEq,Prod.mk.injEq] at H
   obtain⟨rfl,rfl,rfl⟩:=H
   go_enter Try.func48,Try.ntmps48
   try go_wp2_with (first | ((with_reducible refine zav (N:=2) rfl ?_); refine zax ?hg (N:=2) ?hd (cs:=#[.bool a0_0,.slice A0_1 l0_1.length c0_1,.slice A0_2 l0_2.length c0_2]) (t:=25) ?hr ?_; (case hd=>rfl); (case hg=>rfl); (case hr=>first | (go_simp; done) | (go_simp; rfl)); intro gb215 hg w8 hbox hb; have n0_:=Aside0.mk (zag (by repeat (first | (with_reducible first | exact HB.out | apply zab | apply zaa | apply zac) | exact HB.out)) hb); have n1_:=Aside0.mk (hbox); have n2_:=Aside0.mk ((by rw [hg]; exact(zaj (by repeat (first | (with_reducible first | exact HB.out | apply zab | apply zaa | apply zac) | exact HB.out))):w.heap.size≤gb215)); have n3_:=Aside0.mk ((by rw [hg]; exact(zaj (by repeat (first | (with_reducible first | exact HB.out | apply zab | apply zaa | apply zac) | exact HB.out))):w.heap.size≤gb215)); clear HB; have HB:=n0_; have BK215:=n1_; have GW215:=n2_; have GE215:=n3_; clear n0_ n1_ n2_ n3_; clear hb hbox hg) | ((with_reducible refine zav (N:=4) rfl ?_); refine zax ?hg (N:=4) ?hd (cs:=#[.bool false,.slice none 0 0,.slice none 0 0]) (t:=25) ?hr ?_; (case hd=>rfl); (case hg=>rfl); (case hr=>first | (go_simp; done) | (go_simp; rfl)); intro gb216 hg w9 hbox hb; have n0_:=Aside0.mk (zal (g:=gb215) (o:=.cells #[.bool a0_0,.slice A0_1 l0_1.length c0_1,.slice A0_2 l0_2.length c0_2] 25 (0,0)) (by (with_reducible repeat (first | refine zaf ?_ _ | refine zah ?_ | refine zae ?_ _)); exact BK215.out) hb); have n1_:=Aside0.mk (zag (by repeat (first | (with_reducible first | exact HB.out | apply zab | apply zaa | apply zac | refine zad ?_ GE215.out) | exact HB.out)) hb); have n2_:=Aside0.mk (hbox); have n3_:=Aside0.mk ((by rw [hg]; exact(zaj (by repeat (first | (with_reducible first | exact HB.out | apply zab | apply zaa | apply zac | refine zad ?_ GE215.out) | exact HB.out))):w.heap.size≤gb216)); have n4_:=Aside0.mk ((by rw [hg]; exact(zaj (by repeat (first | (with_reducible first | exact HB.out | apply zab | apply zaa | apply zac | refine zad ?_ GE215.out) | exact HB.out))):w.heap.size≤gb216)); have n5_:=Aside0.mk ((by rw [hg]; exact Nat.ne_of_lt (zaD (g:=gb215) (o:=.cells #[.bool a0_0,.slice A0_1 l0_1.length c0_1,.slice A0_2 l0_2.length c0_2] 25 (0,0)) (by (with_reducible repeat (first | refine zaf ?_ _ | refine zah ?_ | refine zae ?_ _)); exact BK215.out)):gb215≠gb216)); have n6_:=Aside0.mk ((by rw [hg]; exact Nat.ne_of_gt (zaD (g:=gb215) (o:=.cells #[.bool a0_0,.slice A0_1 l0_1.length c0_1,.slice A0_2 l0_2.length c0_2] 25 (0,0)) (by (with_reducible repeat (first | refine zaf ?_ _ | refine zah ?_ | refine zae ?_ _)); exact BK215.out)):gb216≠gb215)); clear BK215; clear HB; have BK215:=n0_; have HB:=n1_; have BK216:=n2_; have GW216:=n3_; have GE216:=n4_; have NB215_216:=n5_; have NB216_215:=n6_; clear n0_ n1_ n2_ n3_ n4_ n5_ n6_; clear hb hbox hg; have hnb10:=NB215_216.out; have hnc10:=NB216_215.out; have hcz11_0:w9.cell? ⟨gb215,0,none⟩=some (.bool a0_0):=(zai BK215.out 0).trans rfl; have hcz11_1:w9.cell? ⟨gb215,1,none⟩=some (.slice A0_1 l0_1.length c0_1):=(zai BK215.out 1).trans rfl; have hcz11_2:w9.cell? ⟨gb215,2,none⟩=some (.slice A0_2 l0_2.length c0_2):=(zai BK215.out 2).trans rfl; have hfz11_0:=zak BK215.out 0; have hfz11_1:=zak BK215.out 1; have hfz11_2:=zak BK215.out 2) | ((with_reducible refine zap (f:=16) rfl ?_); refine zaC (some 6) rfl rfl Try.func16 (by kernel_rfl) rfl #[.agg #[.bool a0_0,.slice A0_1 l0_1.length c0_1,.slice A0_2 l0_2.length c0_2]] rfl (by (try simp only [List.map_toArray,List.map_cons,List.map_nil]); first | done | rfl | (simp only [List.length_drop,List.length_take]; rfl)) ?_; (with_reducible refine(rat_Norm.calls a0_0 _ _ l0_1 _ _ l0_2 true t218 t221 _ ?side1 ?side2 ?side3 ?side4 A3.out).mono ?_); (case side1=>repeat (first | exact(Kd.C_below HR0_1.out HB.out) | (with_reducible refine Kd.C_alloc ?_ _) | (with_reducible refine Kd.C_drewN ?_ _) | (with_reducible refine Kd.C_drew ?_))); (case side2=>exact HC0_1.out); (case side3=>repeat (first | exact(Kd.C_below HR0_2.out HB.out) | (with_reducible refine Kd.C_alloc ?_ _) | (with_reducible refine Kd.C_drewN ?_ _) | (with_reducible refine Kd.C_drew ?_))); (case side4=>exact HC0_2.out); rintro e w12 ⟨v219,v222,rfl,ho0,ho1,hb⟩; refine⟨_,rfl,?_⟩; have n0_:=Aside0.mk (Kd.R_lower ho0 (zaj (by repeat (first | (with_reducible first | exact HB.out | apply zab | apply zaa | apply zac | refine zad ?_ GE215.out | refine zad ?_ GE216.out) | exact HB.out)))); have n1_:=Aside0.mk (Kd.R_lower ho1 (zaj (by repeat (first | (with_reducible first | exact HB.out | apply zab | apply zaa | apply zac | refine zad ?_ GE215.out | refine zad ?_ GE216.out) | exact HB.out)))); have n2_:=Aside0.mk (zal (g:=gb215) (o:=.cells #[.bool a0_0,.slice A0_1 l0_1.length c0_1,.slice A0_2 l0_2.length c0_2] 25 (0,0)) (by (with_reducible repeat (first | refine zaf ?_ _ | refine zah ?_ | refine zae ?_ _)); exact BK215.out) hb); have n3_:=Aside0.mk (zal (g:=gb216) (o:=.cells #[.bool false,.slice none 0 0,.slice none 0 0] 25 (0,0)) (by (with_reducible repeat (first | refine zaf ?_ _ | refine zah ?_ | refine zae ?_ _)); exact BK216.out) hb); have n4_:=Aside0.mk (zag (by repeat (first | (with_reducible first | exact HB.out | apply zab | apply zaa | apply zac | refine zad ?_ GE215.out | refine zad ?_ GE216.out) | exact HB.out)) hb); clear BK215; clear BK216; clear HB; have HO220:=n0_; have HO223:=n1_; have BK215:=n2_; have BK216:=n3_; have HB:=n4_; clear n0_ n1_ n2_ n3_ n4_; (try clear hb); (try clear hb2); (try clear hk); (try clear hi); (try clear ho0); (try clear ho1); have hcz13_0:w12.cell? ⟨gb215,0,none⟩=some (.bool a0_0):=(zai BK215.out 0).trans rfl; have hcz13_1:w12.cell? ⟨gb215,1,none⟩=some (.slice A0_1 l0_1.length c0_1):=(zai BK215.out 1).trans rfl; have hcz13_2:w12.cell? ⟨gb215,2,none⟩=some (.slice A0_2 l0_2.length c0_2):=(zai BK215.out 2).trans rfl; have hfz13_0:=zak BK215.out 0; have hfz13_1:=zak BK215.out 1; have hfz13_2:=zak BK215.out 2; obtain⟨Ao14,co14,eo14⟩:=Kd.R_slice HO220.out; subst eo14; obtain⟨Ao15,co15,eo15⟩:=Kd.R_slice HO223.out; subst eo15))
   have n0_:Aside0 (Kd.R (Kd.int .u32) 63 (((w12.setCell ⟨gb215,0,none⟩ (.bool true)).setCell ⟨gb215,1,none⟩ (.slice Ao14 t218.length co14)).setCell ⟨gb215,2,none⟩ (.slice Ao15 t221.length co15)) w.heap.size (fun k_=>some k_≠(.slice Ao15 t221.length co15:Value).ownBlock) (.slice Ao14 t218.length co14) t218):=⟨by (with_reducible repeat (first | apply Kd.R_alloc | apply Kd.R_drewN | apply Kd.R_drew)); exact Kd.R_mono (Kd.R_far (p:=⟨gb215,2,none⟩) (Kd.R_far (p:=⟨gb215,1,none⟩) (Kd.R_far (p:=⟨gb215,0,none⟩) (Kd.R_types HO220.out BK215.out (by decide)) (fun _ hk=>hk.2) (.bool true)) (fun _ hk=>hk.2) (.slice Ao14 t218.length co14)) (fun _ hk=>hk.2) (.slice Ao15 t221.length co15)) (fun _ hk=>hk.1)⟩
   have n1_:Aside0 (Kd.R (Kd.int .u32) 63 (((w12.setCell ⟨gb215,0,none⟩ (.bool true)).setCell ⟨gb215,1,none⟩ (.slice Ao14 t218.length co14)).setCell ⟨gb215,2,none⟩ (.slice Ao15 t221.length co15)) w.heap.size (fun k_=>some k_≠(.slice Ao14 t218.length co14:Value).ownBlock) (.slice Ao15 t221.length co15) t221):=⟨by (with_reducible repeat (first | apply Kd.R_alloc | apply Kd.R_drewN | apply Kd.R_drew)); exact Kd.R_mono (Kd.R_far (p:=⟨gb215,2,none⟩) (Kd.R_far (p:=⟨gb215,1,none⟩) (Kd.R_far (p:=⟨gb215,0,none⟩) (Kd.R_types HO223.out BK215.out (by decide)) (fun _ hk=>hk.2) (.bool true)) (fun _ hk=>hk.2) (.slice Ao14 t218.length co14)) (fun _ hk=>hk.2) (.slice Ao15 t221.length co15)) (fun _ hk=>hk.1)⟩
   have n2_:Aside0 ((((w12.setCell ⟨gb215,0,none⟩ (.bool true)).setCell ⟨gb215,1,none⟩ (.slice Ao14 t218.length co14)).setCell ⟨gb215,2,none⟩ (.slice Ao15 t221.length co15)).heap[gb215]? = some (.cells #[.bool true,.slice Ao14 t218.length co14,.slice Ao15 t221.length co15] 25 (0,0))):=⟨by (with_reducible repeat (first | refine zaf ?_ _ | refine zah ?_ | refine zae ?_ _)); refine zau (cs:=#[.bool true,.slice Ao14 t218.length co14,.slice A0_2 l0_2.length c0_2]) ?_ 2 _ rfl; (with_reducible repeat (first | refine zaf ?_ _ | refine zah ?_ | refine zae ?_ _)); refine zau (cs:=#[.bool true,.slice A0_1 l0_1.length c0_1,.slice A0_2 l0_2.length c0_2]) ?_ 1 _ rfl; (with_reducible repeat (first | refine zaf ?_ _ | refine zah ?_ | refine zae ?_ _)); refine zau (cs:=#[.bool a0_0,.slice A0_1 l0_1.length c0_1,.slice A0_2 l0_2.length c0_2]) ?_ 0 _ rfl; (with_reducible repeat (first | refine zaf ?_ _ | refine zah ?_ | refine zae ?_ _)); exact BK215.out⟩
   have n3_:Aside0 ((((w12.setCell ⟨gb215,0,none⟩ (.bool true)).setCell ⟨gb215,1,none⟩ (.slice Ao14 t218.length co14)).setCell ⟨gb215,2,none⟩ (.slice Ao15 t221.length co15)).heap[gb216]? = some (.cells #[.bool false,.slice none 0 0,.slice none 0 0] 25 (0,0))):=⟨by (with_reducible repeat (first | refine zaf ?_ _ | refine zah ?_ | refine zae ?_ _)); refine zaB ?_ NB216_215.out _; (with_reducible repeat (first | refine zaf ?_ _ | refine zah ?_ | refine zae ?_ _)); refine zaB ?_ NB216_215.out _; (with_reducible repeat (first | refine zaf ?_ _ | refine zah ?_ | refine zae ?_ _)); refine zaB ?_ NB216_215.out _; (with_reducible repeat (first | refine zaf ?_ _ | refine zah ?_ | refine zae ?_ _)); exact BK216.out⟩
   have n4_:Aside0 (Below w.heap.size w (((w12.setCell ⟨gb215,0,none⟩ (.bool true)).setCell ⟨gb215,1,none⟩ (.slice Ao14 t218.length co14)).setCell ⟨gb215,2,none⟩ (.slice Ao15 t221.length co15))):=⟨by repeat (first | (with_reducible first | exact HB.out | apply zab | apply zaa | apply zac | refine zad ?_ GE215.out | refine zad ?_ GE216.out) | exact HB.out)⟩
   (try clear HO220)
   (try clear HO223)
   (try clear BK215)
   (try clear BK216)
   (try clear HB)
   generalize (((w12.setCell ⟨gb215,0,none⟩ (.bool true)).setCell ⟨gb215,1,none⟩ (.slice Ao14 t218.length co14)).setCell ⟨gb215,2,none⟩ (.slice Ao15 t221.length co15))=w16 at n0_ n1_ n2_ n3_ n4_ ⊢
   have HO220:=n0_
   have HO223:=n1_
   have BK215:=n2_
   have BK216:=n3_
   have HB:=n4_
   clear n0_ n1_ n2_ n3_ n4_
   have n0_:=Aside0.mk (Kd.R_drew HO220.out)
   have n1_:=Aside0.mk (Kd.R_drew HO223.out)
   have n2_:=Aside0.mk (zah BK215.out)
   have n3_:=Aside0.mk (zah BK216.out)
   have n4_:=Aside0.mk (zac HB.out)
   clear HO220
   clear HO223
   clear BK215
   clear BK216
   clear HB
   have HO220:=n0_
   have HO223:=n1_
   have BK215:=n2_
   have BK216:=n3_
   have HB:=n4_
   clear n0_ n1_ n2_ n3_ n4_
   refine start_ (n:=21) (S:=fun w'=>w'.cell? ⟨gb215,0,none⟩=some (.bool true)∧w'.cell? ⟨gb215,1,none⟩=some (.slice Ao14 t218.length co14)∧w'.cell? ⟨gb215,2,none⟩=some (.slice Ao15 t221.length co15)) (ds:=[]) #[false,false,false,false,false,false,false,false,false,false,false,false,false,false,false,false,false,false,false,false,false] (by kernel_rfl) rfl rfl ⟨(zai BK215.out 0).trans rfl,(zai BK215.out 1).trans rfl,(zai BK215.out 2).trans rfl⟩ (fun hHeld=>?_); refine with_tabW rat_Pow.tab2 rat_Pow.bits2 (fun HT_ HW_=>?_)
   generalize w16.drew=w17 at HO220 HO223 BK215 BK216 HB hHeld ⊢
   refine zaA (i:=0) (N:=some 7) (v:=?_) (a':=?_) #[true,false,false,false,false,false,false,false,false,false,false,false,false,false,false,false,false,false,false,false,false] rfl rfl (zay HT_.out (by kernel_rfl)) (fun _ _ _ h=>h) (Or.inl ⟨by rfl,?_⟩) ?_ ?_
   rotate_left
   ·
    intro w'
    go_simp
    with_reducible rfl
   rotate_left
   ·
    simp only [Act.put,List.setIfInBounds_toArray,List.set_cons_zero,List.set_cons_succ,zaq,zar]
    rfl
   refine zaA (i:=11) (N:=some 18) (v:=?_) (a':=?_) #[true,false,false,false,false,false,false,false,false,false,false,true,false,false,false,false,false,false,false,false,false] rfl rfl (zay HT_.out (by kernel_rfl)) (fun _ _ _ h=>h) (Or.inl ⟨by rfl,?_⟩) ?_ ?_
   rotate_left
   ·
    intro w'
    go_simp
    with_reducible rfl
   rotate_left
   ·
    simp only [Act.put,List.setIfInBounds_toArray,List.set_cons_zero,List.set_cons_succ,zaq,zar]
    rfl
   refine zaA (i:=13) (N:=some 20) (v:=?_) (a':=?_) #[true,false,false,false,false,false,false,false,false,false,false,true,false,true,false,false,false,false,false,false,false] rfl rfl (zay HT_.out (by kernel_rfl)) (fun _ _ _ h=>h) (Or.inl ⟨by rfl,?_⟩) ?_ ?_
   rotate_left
   ·
    intro w'
    go_simp
    with_reducible rfl
   rotate_left
   ·
    simp only [Act.put,List.setIfInBounds_toArray,List.set_cons_zero,List.set_cons_succ,zaq,zar]
    rfl
   refine zaA (i:=15) (N:=some 22) (v:=?_) (a':=?_) #[true,false,false,false,false,false,false,false,false,false,false,true,false,true,false,true,false,false,false,false,false] rfl rfl (zay HT_.out (by kernel_rfl)) (fun _ _ _ h=>h) (Or.inl ⟨by rfl,?_⟩) ?_ ?_
   rotate_left
   ·
    intro w'
    go_simp
    with_reducible rfl
   rotate_left
   ·
    simp only [Act.put,List.setIfInBounds_toArray,List.set_cons_zero,List.set_cons_succ,zaq,zar]
    rfl
   refine zaA (i:=17) (N:=some 24) (v:=?_) (a':=?_) #[true,false,false,false,false,false,false,false,false,false,false,true,false,true,false,true,false,true,false,false,false] rfl rfl (zay HT_.out (by kernel_rfl)) (fun _ _ _ h=>h) (Or.inl ⟨by rfl,?_⟩) ?_ ?_
   rotate_left
   ·
    intro w'
    go_simp
    with_reducible rfl
   rotate_left
   ·
    simp only [Act.put,List.setIfInBounds_toArray,List.set_cons_zero,List.set_cons_succ,zaq,zar]
    rfl
   refine take_ (i:=1) (N:=some 8) (v:=?_) (a':=?_) #[true,true,false,false,false,false,false,false,false,false,false,true,false,true,false,true,false,true,false,false,false] rfl rfl (zaQ HT_.out HW_.out (by kernel_rfl)) (fun _ _ _ h=>h) (Or.inl ⟨by rfl,?_⟩) hHeld ?_ ?_
   rotate_left
   ·
    rintro w' ⟨s0,s1,s2⟩
    go_simp
    with_reducible rfl
   rotate_left
   ·
    simp only [Act.put,List.setIfInBounds_toArray,List.set_cons_zero,List.set_cons_succ,zaq,zar]
    rfl
   refine zaA (i:=2) (N:=some 9) (v:=?_) (a':=?_) #[true,true,true,false,false,false,false,false,false,false,false,true,false,true,false,true,false,true,false,false,false] rfl rfl (zay HT_.out (by kernel_rfl)) (fun _ _ _ h=>h) (Or.inl ⟨by rfl,?_⟩) ?_ ?_
   rotate_left
   ·
    intro w'
    go_simp
    with_reducible rfl
   rotate_left
   ·
    simp only [Act.put,List.setIfInBounds_toArray,List.set_cons_zero,List.set_cons_succ,zaq,zar]
    rfl
   refine zaA (i:=3) (N:=some 10) (v:=?_) (a':=?_) #[true,true,true,true,false,false,false,false,false,false,false,true,false,true,false,true,false,true,false,false,false] rfl rfl (zay HT_.out (by kernel_rfl)) (fun _ _ _ h=>h) (Or.inl ⟨by rfl,?_⟩) ?_ ?_
   rotate_left
   ·
    intro w'
    go_simp
    with_reducible rfl
   rotate_left
   ·
    simp only [Act.put,List.setIfInBounds_toArray,List.set_cons_zero,List.set_cons_succ,zaq,zar]
    rfl
   refine zaA (i:=4) (N:=some 11) (v:=?_) (a':=?_) #[true,true,true,true,true,false,false,false,false,false,false,true,false,true,false,true,false,true,false,false,false] rfl rfl (zay HT_.out (by kernel_rfl)) (fun _ _ _ h=>h) (Or.inl ⟨by rfl,?_⟩) ?_ ?_
   rotate_left
   ·
    intro w'
    go_simp
    with_reducible rfl
   rotate_left
   ·
    simp only [Act.put,List.setIfInBounds_toArray,List.set_cons_zero,List.set_cons_succ,zaq,zar]
    rfl
   refine zaA (i:=5) (N:=some 12) (v:=?_) (a':=?_) #[true,true,true,true,true,true,false,false,false,false,false,true,false,true,false,true,false,true,false,false,false] rfl rfl (zay HT_.out (by kernel_rfl)) (fun _ _ _ h=>h) (Or.inl ⟨by rfl,?_⟩) ?_ ?_
   rotate_left
   ·
    intro w'
    go_simp
    with_reducible rfl
   rotate_left
   ·
    simp only [Act.put,List.setIfInBounds_toArray,List.set_cons_zero,List.set_cons_succ,zaq,zar]
    rfl
   refine zaA (i:=6) (N:=some 13) (v:=?_) (a':=?_) #[true,true,true,true,true,true,true,false,false,false,false,true,false,true,false,true,false,true,false,false,false] rfl rfl (zay HT_.out (by kernel_rfl)) (fun _ _ _ h=>h) (Or.inl ⟨by rfl,?_⟩) ?_ ?_
   rotate_left
   ·
    intro w'
    go_simp
    with_reducible rfl
   rotate_left
   ·
    simp only [Act.put,List.setIfInBounds_toArray,List.set_cons_zero,List.set_cons_succ,zaq,zar]
    rfl
   refine zaA (i:=7) (N:=some 14) (v:=?_) (a':=?_) #[true,true,true,true,true,true,true,true,false,false,false,true,false,true,false,true,false,true,false,false,false] rfl rfl (zay HT_.out (by kernel_rfl)) (fun _ _ _ h=>h) (Or.inl ⟨by rfl,?_⟩) ?_ ?_
   rotate_left
   ·
    intro w'
    go_simp
    with_reducible rfl
   rotate_left
   ·
    simp only [Act.put,List.setIfInBounds_toArray,List.set_cons_zero,List.set_cons_succ,zaq,zar]
    rfl
   refine zaA (i:=8) (N:=some 15) (v:=?_) (a':=?_) #[true,true,true,true,true,true,true,true,true,false,false,true,false,true,false,true,false,true,false,false,false] rfl rfl (zay HT_.out (by kernel_rfl)) (fun _ _ _ h=>h) (Or.inl ⟨by rfl,?_⟩) ?_ ?_
   rotate_left
   ·
    intro w'
    go_simp
    with_reducible rfl
   rotate_left
   ·
    simp only [Act.put,List.setIfInBounds_toArray,List.set_cons_zero,List.set_cons_succ,zaq,zar]
    rfl
   refine zaA (i:=9) (N:=some 16) (v:=?_) (a':=?_) #[true,true,true,true,true,true,true,true,true,true,false,true,false,true,false,true,false,true,false,false,false] rfl rfl (zay HT_.out (by kernel_rfl)) (fun _ _ _ h=>h) (Or.inl ⟨by rfl,?_⟩) ?_ ?_
   rotate_left
   ·
    intro w'
    go_simp
    with_reducible rfl
   rotate_left
   ·
    simp only [Act.put,List.setIfInBounds_toArray,List.set_cons_zero,List.set_cons_succ,zaq,zar]
    rfl
   refine zaA (i:=10) (N:=some 17) (v:=?_) (a':=?_) #[true,true,true,true,true,true,true,true,true,true,true,true,false,true,false,true,false,true,false,false,false] rfl rfl (zay HT_.out (by kernel_rfl)) (fun _ _ _ h=>h) (Or.inl ⟨by rfl,?_⟩) ?_ ?_
   rotate_left
   ·
    intro w'
    go_simp
    with_reducible rfl
   rotate_left
   ·
    simp only [Act.put,List.setIfInBounds_toArray,List.set_cons_zero,List.set_cons_succ,zaq,zar]
    rfl
   refine take_ (i:=12) (N:=some 19) (v:=?_) (a':=?_) #[true,true,true,true,true,true,true,true,true,true,true,true,true,true,false,true,false,true,false,false,false] rfl rfl (zaQ HT_.out HW_.out (by kernel_rfl)) (fun _ _ _ h=>h) (Or.inl ⟨by rfl,?_⟩) hHeld ?_ ?_
   rotate_left
   ·
    rintro w' ⟨s0,s1,s2⟩
    go_simp
    with_reducible rfl
   rotate_left
   ·
    simp only [Act.put,List.setIfInBounds_toArray,List.set_cons_zero,List.set_cons_succ,zaq,zar]
    rfl
   refine take_ (i:=16) (N:=some 23) (v:=?_) (a':=?_) #[true,true,true,true,true,true,true,true,true,true,true,true,true,true,false,true,true,true,false,false,false] rfl rfl (zaQ HT_.out HW_.out (by kernel_rfl)) (fun _ _ _ h=>h) (Or.inl ⟨by rfl,?_⟩) hHeld ?_ ?_
   rotate_left
   ·
    rintro w' ⟨s0,s1,s2⟩
    go_simp
    with_reducible rfl
   rotate_left
   ·
    simp only [Act.put,List.setIfInBounds_toArray,List.set_cons_zero,List.set_cons_succ,zaq,zar]
    rfl
   refine one_ (i:=14) (N:=some 21) #[true,true,true,true,true,true,true,true,true,true,true,true,true,true,true,true,true,true,false,false,false] rfl rfl (zaO HT_.out (by kernel_rfl)) (by decide) (fun K hK=>?_)
   refine za7 Try.func81 (by kernel_rfl) rfl #[.slice Ao14 t218.length co14,.int .i64 a1] (by rfl) rfl rfl (by (try simp only [List.map_toArray,List.map_cons,List.map_nil]); first | done | rfl | (simp only [List.length_drop,List.length_take]; rfl)) ?_
   with_reducible refine(quo_Pow.calls k _ _ t218 a1 t224 _ ?side1 ?side2 A6.out).mono ?_
   (case side1=>repeat (first | exact(Kd.R_reads' HO220.out).2.2 | (with_reducible refine Kd.C_alloc ?_ _) | (with_reducible refine Kd.C_drewN ?_ _) | (with_reducible refine Kd.C_drew ?_)))
   (case side2=>exact(Kd.R_reads' HO220.out).2.1)
   rintro e w18 ⟨v225,rfl,ho0,hb⟩
   refine⟨_,rfl,?_⟩
   have n0_:=Aside0.mk (Kd.R_elder' (by (with_reducible repeat (first | apply Kd.R_alloc | apply Kd.R_drewN | apply Kd.R_drew)); exact HO220.out) (Kd.R_base ho0) hb)
   have n1_:=Aside0.mk (Kd.R_elder' (by (with_reducible repeat (first | apply Kd.R_alloc | apply Kd.R_drewN | apply Kd.R_drew)); exact HO223.out) (Kd.R_base ho0) hb)
   have n2_:=Aside0.mk (Kd.R_lower (Kd.R_new' (Kd.R_new' ho0 (Kd.R_lt (by (with_reducible repeat (first | apply Kd.R_alloc | apply Kd.R_drewN | apply Kd.R_drew)); exact HO220.out))) (Kd.R_lt (by (with_reducible repeat (first | apply Kd.R_alloc | apply Kd.R_drewN | apply Kd.R_drew)); exact HO223.out))) (zaj (by repeat (first | (with_reducible first | exact HB.out | apply zab | apply zaa | apply zac | refine zad ?_ GE215.out | refine zad ?_ GE216.out) | exact HB.out))))
   have n3_:=Aside0.mk (zal (g:=gb215) (o:=.cells #[.bool true,.slice Ao14 t218.length co14,.slice Ao15 t221.length co15] 25 (0,0)) (by (with_reducible repeat (first | refine zaf ?_ _ | refine zah ?_ | refine zae ?_ _)); exact BK215.out) hb)
   have n4_:=Aside0.mk (zal (g:=gb216) (o:=.cells #[.bool false,.slice none 0 0,.slice none 0 0] 25 (0,0)) (by (with_reducible repeat (first | refine zaf ?_ _ | refine zah ?_ | refine zae ?_ _)); exact BK216.out) hb)
   have n5_:=Aside0.mk (zag (by repeat (first | (with_reducible first | exact HB.out | apply zab | apply zaa | apply zac | refine zad ?_ GE215.out | refine zad ?_ GE216.out) | exact HB.out)) hb)
   clear HO220
   clear HO223
   clear BK215
   clear BK216
   clear HB
   have HO220:=n0_
   have HO223:=n1_
   have HO226:=n2_
   have BK215:=n3_
   have BK216:=n4_
   have HB:=n5_
   clear n0_ n1_ n2_ n3_ n4_ n5_
   (try clear hb)
   (try clear hb2)
   (try clear hk)
   (try clear hi)
   (try clear ho0)
   refine hK.out _ _ ⟨(zai BK215.out 0).trans rfl,(zai BK215.out 1).trans rfl,(zai BK215.out 2).trans rfl⟩ (fun hHeld=>?_)
   clear hK K
   refine zaS (a':=?_) ?_ ?_
   rotate_left
   ·
    show Act.put _ (some 21) _=_
    simp only [Act.put,List.setIfInBounds_toArray,List.set_cons_zero,List.set_cons_succ,zaq,zar]
    rfl
   refine one_ (i:=18) (N:=some 25) #[true,true,true,true,true,true,true,true,true,true,true,true,true,true,true,true,true,true,true,false,false] rfl rfl (zaO HT_.out (by kernel_rfl)) (by decide) (fun K hK=>?_)
   refine za7 Try.func81 (by kernel_rfl) rfl #[.slice Ao15 t221.length co15,.int .i64 a1] (by rfl) rfl rfl (by (try simp only [List.map_toArray,List.map_cons,List.map_nil]); first | done | rfl | (simp only [List.length_drop,List.length_take]; rfl)) ?_
   with_reducible refine(quo_Pow.calls k _ _ t221 a1 t227 _ ?side1 ?side2 A7.out).mono ?_
   (case side1=>repeat (first | exact(Kd.R_reads' HO223.out).2.2 | (with_reducible refine Kd.C_alloc ?_ _) | (with_reducible refine Kd.C_drewN ?_ _) | (with_reducible refine Kd.C_drew ?_)))
   (case side2=>exact(Kd.R_reads' HO223.out).2.1)
   rintro e w19 ⟨v228,rfl,ho0,hb⟩
   refine⟨_,rfl,?_⟩
   have n0_:=Aside0.mk (Kd.R_elder' (by (with_reducible repeat (first | apply Kd.R_alloc | apply Kd.R_drewN | apply Kd.R_drew)); exact HO220.out) (Kd.R_base ho0) hb)
   have n1_:=Aside0.mk (Kd.R_elder' (by (with_reducible repeat (first | apply Kd.R_alloc | apply Kd.R_drewN | apply Kd.R_drew)); exact HO223.out) (Kd.R_base ho0) hb)
   have n2_:=Aside0.mk (Kd.R_elder' (by (with_reducible repeat (first | apply Kd.R_alloc | apply Kd.R_drewN | apply Kd.R_drew)); exact HO226.out) (Kd.R_base ho0) hb)
   have n3_:=Aside0.mk (Kd.R_lower (Kd.R_new' (Kd.R_new' (Kd.R_new' ho0 (Kd.R_lt (by (with_reducible repeat (first | apply Kd.R_alloc | apply Kd.R_drewN | apply Kd.R_drew)); exact HO220.out))) (Kd.R_lt (by (with_reducible repeat (first | apply Kd.R_alloc | apply Kd.R_drewN | apply Kd.R_drew)); exact HO223.out))) (Kd.R_lt (by (with_reducible repeat (first | apply Kd.R_alloc | apply Kd.R_drewN | apply Kd.R_drew)); exact HO226.out))) (zaj (by repeat (first | (with_reducible first | exact HB.out | apply zab | apply zaa | apply zac | refine zad ?_ GE215.out | refine zad ?_ GE216.out) | exact HB.out))))
   have n4_:=Aside0.mk (zal (g:=gb215) (o:=.cells #[.bool true,.slice Ao14 t218.length co14,.slice Ao15 t221.length co15] 25 (0,0)) (by (with_reducible repeat (first | refine zaf ?_ _ | refine zah ?_ | refine zae ?_ _)); exact BK215.out) hb)
   have n5_:=Aside0.mk (zal (g:=gb216) (o:=.cells #[.bool false,.slice none 0 0,.slice none 0 0] 25 (0,0)) (by (with_reducible repeat (first | refine zaf ?_ _ | refine zah ?_ | refine zae ?_ _)); exact BK216.out) hb)
   have n6_:=Aside0.mk (zag (by repeat (first | (with_reducible first | exact HB.out | apply zab | apply zaa | apply zac | refine zad ?_ GE215.out | refine zad ?_ GE216.out) | exact HB.out)) hb)
   clear HO220
   clear HO223
   clear HO226
   clear BK215
   clear BK216
   clear HB
   have HO220:=n0_
   have HO223:=n1_
   have HO226:=n2_
   have HO229:=n3_
   have BK215:=n4_
   have BK216:=n5_
   have HB:=n6_
   clear n0_ n1_ n2_ n3_ n4_ n5_ n6_
   (try clear hb)
   (try clear hb2)
   (try clear hk)
   (try clear hi)
   (try clear ho0)
   obtain⟨Ao20,co20,eo20⟩:=Kd.R_slice HO229.out
   (first | subst eo20 | (injection eo20 with f1_ f2_ f3_; have f4_:=f1_.symm; have f5_:=f3_.symm; clear f1_ f2_ f3_; subst f4_; subst f5_))
   obtain⟨Ao21,co21,eo21⟩:=Kd.R_slice HO226.out
   (first | subst eo21 | (injection eo21 with f1_ f2_ f3_; have f4_:=f1_.symm; have f5_:=f3_.symm; clear f1_ f2_ f3_; subst f4_; subst f5_))
   refine hK.out _ _ ⟨(zai BK215.out 0).trans rfl,(zai BK215.out 1).trans rfl,(zai BK215.out 2).trans rfl⟩ (fun hHeld=>?_)
   clear hK K
   refine zaS (a':=?_) ?_ ?_
   rotate_left
   ·
    show Act.put _ (some 25) _=_
    simp only [Act.put,List.setIfInBounds_toArray,List.set_cons_zero,List.set_cons_succ,zaq,zar]
    rfl
   refine zaA (i:=19) (N:=some 26) (v:=?_) (a':=?_) #[true,true,true,true,true,true,true,true,true,true,true,true,true,true,true,true,true,true,true,true,false] rfl rfl (zay HT_.out (by kernel_rfl)) (fun _ _ _ h=>h) (Or.inl ⟨by rfl,?_⟩) ?_ ?_
   rotate_left
   ·
    intro w'
    go_simp
    with_reducible rfl
   rotate_left
   ·
    simp only [Act.put,List.setIfInBounds_toArray,List.set_cons_zero,List.set_cons_succ,zaq,zar]
    rfl
   refine one_ (i:=20) (N:=none) #[true,true,true,true,true,true,true,true,true,true,true,true,true,true,true,true,true,true,true,true,true] rfl rfl (zaO HT_.out (by kernel_rfl)) (by decide) (fun K hK=>?_)
   have hs22:w19.cell? ⟨gb216,0,none⟩=some (.bool false):=(zai BK216.out 0).trans rfl
   have hfs22:=zak BK216.out 0
   have hns22_0:=NB215_216.out
   have hms22_0:=NB216_215.out
   have hs23:w19.cell? ⟨gb216,1,none⟩=some (.slice none 0 0):=(zai BK216.out 1).trans rfl
   have hfs23:=zak BK216.out 1
   have hns23_0:=NB215_216.out
   have hms23_0:=NB216_215.out
   have hs24:w19.cell? ⟨gb216,2,none⟩=some (.slice none 0 0):=(zai BK216.out 2).trans rfl
   have hfs24:=zak BK216.out 2
   have hns24_0:=NB215_216.out
   have hms24_0:=NB216_215.out
   refine skip_ (w1:=?_) (by rfl) rfl ?_ ?_
   rotate_left
   ·
    go_simp
    rfl
   refine hK.out _ _ ⟨((cell_far (p:=⟨gb216,_,none⟩) NB215_216.out _).trans (((cell_far (p:=⟨gb216,_,none⟩) NB215_216.out _).trans (((cell_far (p:=⟨gb216,_,none⟩) NB215_216.out _).trans (hHeld.1)))))),((cell_far (p:=⟨gb216,_,none⟩) NB215_216.out _).trans (((cell_far (p:=⟨gb216,_,none⟩) NB215_216.out _).trans (((cell_far (p:=⟨gb216,_,none⟩) NB215_216.out _).trans (hHeld.2.1)))))),((cell_far (p:=⟨gb216,_,none⟩) NB215_216.out _).trans (((cell_far (p:=⟨gb216,_,none⟩) NB215_216.out _).trans (((cell_far (p:=⟨gb216,_,none⟩) NB215_216.out _).trans (hHeld.2.2))))))⟩ (fun hHeld=>?_)
   clear hK K
   refine done_ (done_of HT_.out (by kernel_rfl)) ?_
   try go_wp2
   refine bodyPost_ret (results_cell_row rfl _ _ gb216 25 #[.bool ((Int.tmod a1 2) == 1),.slice Ao21 t224.length co21,.slice Ao20 t227.length co20] (0,0) _ rfl (by (with_reducible repeat (first | refine zaf ?_ _ | refine zah ?_ | refine zae ?_ _)); refine zau (cs:=#[.bool ((Int.tmod a1 2) == 1),.slice Ao21 t224.length co21,.slice none 0 0]) ?_ 2 _ rfl; (with_reducible repeat (first | refine zaf ?_ _ | refine zah ?_ | refine zae ?_ _)); refine zau (cs:=#[.bool ((Int.tmod a1 2) == 1),.slice none 0 0,.slice none 0 0]) ?_ 1 _ rfl; (with_reducible repeat (first | refine zaf ?_ _ | refine zah ?_ | refine zae ?_ _)); refine zau (cs:=#[.bool false,.slice none 0 0,.slice none 0 0]) ?_ 0 _ rfl; (with_reducible repeat (first | refine zaf ?_ _ | refine zah ?_ | refine zae ?_ _)); exact BK216.out) Try.underlying25 rfl (by kernel_rfl)) rfl ?_
   exact⟨_,_,by first | rfl | (simp [zan,zao]<;>rfl) | (simp [*,zan,zao]<;>rfl),by (with_reducible repeat (first | apply Kd.R_alloc | apply Kd.R_drewN | apply Kd.R_drew)); exact Kd.R_mono (Kd.R_far (p:=⟨gb216,2,none⟩) (Kd.R_far (p:=⟨gb216,1,none⟩) (Kd.R_far (p:=⟨gb216,0,none⟩) (Kd.R_types HO226.out BK216.out (by decide)) (fun _ hk=>hk.2) (.bool ((Int.tmod a1 2) == 1))) (fun _ hk=>hk.2) (.slice Ao21 t224.length co21)) (fun _ hk=>hk.2) (.slice Ao20 t227.length co20)) (fun _ hk=>hk.1.2),by (with_reducible repeat (first | apply Kd.R_alloc | apply Kd.R_drewN | apply Kd.R_drew)); exact Kd.R_mono (Kd.R_far (p:=⟨gb216,2,none⟩) (Kd.R_far (p:=⟨gb216,1,none⟩) (Kd.R_far (p:=⟨gb216,0,none⟩) (Kd.R_types HO229.out BK216.out (by decide)) (fun _ hk=>hk.2) (.bool ((Int.tmod a1 2) == 1))) (fun _ hk=>hk.2) (.slice Ao21 t224.length co21)) (fun _ hk=>hk.2) (.slice Ao20 t227.length co20)) (fun _ hk=>hk.1.2),by repeat (first | (with_reducible first | exact HB.out | apply zab | apply zaa | apply zac | refine zad ?_ GE215.out | refine zad ?_ GE216.out) | exact HB.out)⟩
  ·
   rw [if_neg c5] at H
   have c5b0:decide (0 < a1)=false:=decide_eq_false c5
   clear c5
   replace H:=Option.bind_eq_some_iff.mp H
   obtain⟨t230,A250,H⟩:=H
   replace H:((quo_Pow.f k t221 a1).bind fun t233=>(some (false,t230,t233)))=some (r1,r2,r3):=H
   have A25:=Aside0.mk A250
   clear A250
   replace H:=Option.bind_eq_some_iff.mp H
   obtain⟨t233,A260,H⟩:=H
   replace H:(some (false,t230,t233))=some (r1,r2,r3):=H
   have A26:=Aside0.mk A260
   clear A260
   simp only [Option.some.injEq,Prod.mk.injEq] at H
   obtain⟨rfl,rfl,rfl⟩:=H
   go_enter Try.func48,Try.ntmps48
   try go_wp2_with (first | ((with_reducible refine zav (N:=2) rfl ?_); refine zax ?hg (N:=2) ?hd (cs:=#[.bool a0_0,.slice A0_1 l0_1.length c0_1,.slice A0_2 l0_2.length c0_2]) (t:=25) ?hr ?_; (case hd=>rfl); (case hg=>rfl); (case hr=>first | (go_simp; done) | (go_simp; rfl)); intro gb215 hg w27 hbox hb; have n0_:=Aside0.mk (zag (by repeat (first | (with_reducible first | exact HB.out | apply zab | apply zaa | apply zac) | exact HB.out)) hb); have n1_:=Aside0.mk (hbox); have n2_:=Aside0.mk ((by rw [hg]; exact(zaj (by repeat (first | (with_reducible first | exact HB.out | apply zab | apply zaa | apply zac) | exact HB.out))):w.heap.size≤gb215)); have n3_:=Aside0.mk ((by rw [hg]; exact(zaj (by repeat (first | (with_reducible first | exact HB.out | apply zab | apply zaa | apply zac) | exact HB.out))):w.heap.size≤gb215)); clear HB; have HB:=n0_; have BK215:=n1_; have GW215:=n2_; have GE215:=n3_; clear n0_ n1_ n2_ n3_; clear hb hbox hg) | ((with_reducible refine zav (N:=4) rfl ?_); refine zax ?hg (N:=4) ?hd (cs:=#[.bool false,.slice none 0 0,.slice none 0 0]) (t:=25) ?hr ?_; (case hd=>rfl); (case hg=>rfl); (case hr=>first | (go_simp; done) | (go_simp; rfl)); intro gb216 hg w28 hbox hb; have n0_:=Aside0.mk (zal (g:=gb215) (o:=.cells #[.bool a0_0,.slice A0_1 l0_1.length c0_1,.slice A0_2 l0_2.length c0_2] 25 (0,0)) (by (with_reducible repeat (first | refine zaf ?_ _ | refine zah ?_ | refine zae ?_ _)); exact BK215.out) hb); have n1_:=Aside0.mk (zag (by repeat (first | (with_reducible first | exact HB.out | apply zab | apply zaa | apply zac | refine zad ?_ GE215.out) | exact HB.out)) hb); have n2_:=Aside0.mk (hbox); have n3_:=Aside0.mk ((by rw [hg]; exact(zaj (by repeat (first | (with_reducible first | exact HB.out | apply zab | apply zaa | apply zac | refine zad ?_ GE215.out) | exact HB.out))):w.heap.size≤gb216)); have n4_:=Aside0.mk ((by rw [hg]; exact(zaj (by repeat (first | (with_reducible first | exact HB.out | apply zab | apply zaa | apply zac | refine zad ?_ GE215.out) | exact HB.out))):w.heap.size≤gb216)); have n5_:=Aside0.mk ((by rw [hg]; exact Nat.ne_of_lt (zaD (g:=gb215) (o:=.cells #[.bool a0_0,.slice A0_1 l0_1.length c0_1,.slice A0_2 l0_2.length c0_2] 25 (0,0)) (by (with_reducible repeat (first | refine zaf ?_ _ | refine zah ?_ | refine zae ?_ _)); exact BK215.out)):gb215≠gb216)); have n6_:=Aside0.mk ((by rw [hg]; exact Nat.ne_of_gt (zaD (g:=gb215) (o:=.cells #[.bool a0_0,.slice A0_1 l0_1.length c0_1,.slice A0_2 l0_2.length c0_2] 25 (0,0)) (by (with_reducible repeat (first | refine zaf ?_ _ | refine zah ?_ | refine zae ?_ _)); exact BK215.out)):gb216≠gb215)); clear BK215; clear HB; have BK215:=n0_; have HB:=n1_; have BK216:=n2_; have GW216:=n3_; have GE216:=n4_; have NB215_216:=n5_; have NB216_215:=n6_; clear n0_ n1_ n2_ n3_ n4_ n5_ n6_; clear hb hbox hg; have hnb29:=NB215_216.out; have hnc29:=NB216_215.out; have hcz30_0:w28.cell? ⟨gb215,0,none⟩=some (.bool a0_0):=(zai BK215.out 0).trans rfl; have hcz30_1:w28.cell? ⟨gb215,1,none⟩=some (.slice A0_1 l0_1.length c0_1):=(zai BK215.out 1).trans rfl; have hcz30_2:w28.cell? ⟨gb215,2,none⟩=some (.slice A0_2 l0_2.length c0_2):=(zai BK215.out 2).trans rfl; have hfz30_0:=zak BK215.out 0; have hfz30_1:=zak BK215.out 1; have hfz30_2:=zak BK215.out 2) | ((with_reducible refine zap (f:=16) rfl ?_); refine zaC (some 6) rfl rfl Try.func16 (by kernel_rfl) rfl #[.agg #[.bool a0_0,.slice A0_1 l0_1.length c0_1,.slice A0_2 l0_2.length c0_2]] rfl (by (try simp only [List.map_toArray,List.map_cons,List.map_nil]); first | done | rfl | (simp only [List.length_drop,List.length_take]; rfl)) ?_; (with_reducible refine(rat_Norm.calls a0_0 _ _ l0_1 _ _ l0_2 true t218 t221 _ ?side1 ?side2 ?side3 ?side4 A3.out).mono ?_); (case side1=>repeat (first | exact(Kd.C_below HR0_1.out HB.out) | (with_reducible refine Kd.C_alloc ?_ _) | (with_reducible refine Kd.C_drewN ?_ _) | (with_reducible refine Kd.C_drew ?_))); (case side2=>exact HC0_1.out); (case side3=>repeat (first | exact(Kd.C_below HR0_2.out HB.out) | (with_reducible refine Kd.C_alloc ?_ _) | (with_reducible refine Kd.C_drewN ?_ _) | (with_reducible refine Kd.C_drew ?_))); (case side4=>exact HC0_2.out); rintro e w31 ⟨v219,v222,rfl,ho0,ho1,hb⟩; refine⟨_,rfl,?_⟩; have n0_:=Aside0.mk (Kd.R_lower ho0 (zaj (by repeat (first | (with_reducible first | exact HB.out | apply zab | apply zaa | apply zac | refine zad ?_ GE215.out | refine zad ?_ GE216.out) | exact HB.out)))); have n1_:=Aside0.mk (Kd.R_lower ho1 (zaj (by repeat (first | (with_reducible first | exact HB.out | apply zab | apply zaa | apply zac | refine zad ?_ GE215.out | refine zad ?_ GE216.out) | exact HB.out)))); have n2_:=Aside0.mk (zal (g:=gb215) (o:=.cells #[.bool a0_0,.slice A0_1 l0_1.length c0_1,.slice A0_2 l0_2.length c0_2] 25 (0,0)) (by (with_reducible repeat (first | refine zaf ?_ _ | refine zah ?_ | refine zae ?_ _)); exact BK215.out) hb); have n3_:=Aside0.mk (zal (g:=gb216) (o:=.cells #[.bool false,.slice none 0 0,.slice none 0 0] 25 (0,0)) (by (with_reducible repeat (first | refine zaf ?_ _ | refine zah ?_ | refine zae ?_ _)); exact BK216.out) hb); have n4_:=Aside0.mk (zag (by repeat (first | (with_reducible first | exact HB.out | apply zab | apply zaa | apply zac | refine zad ?_ GE215.out | refine zad ?_ GE216.out) | exact HB.out)) hb); clear BK215; clear BK216; clear HB; have HO220:=n0_; have HO223:=n1_; have BK215:=n2_; have BK216:=n3_; have HB:=n4_; clear n0_ n1_ n2_ n3_ n4_; (try clear hb); (try clear hb2); (try clear hk); (try clear hi); (try clear ho0); (try clear ho1); have hcz32_0:w31.cell? ⟨gb215,0,none⟩=some (.bool a0_0):=(zai BK215.out 0).trans rfl; have hcz32_1:w31.cell? ⟨gb215,1,none⟩=some (.slice A0_1 l0_1.length c0_1):=(zai BK215.out 1).trans rfl; have hcz32_2:w31.cell? ⟨gb215,2,none⟩=some (.slice A0_2 l0_2.length c0_2):=(zai BK215.out 2).trans rfl; have hfz32_0:=zak BK215.out 0; have hfz32_1:=zak BK215.out 1; have hfz32_2:=zak BK215.out 2; obtain⟨Ao33,co33,eo33⟩:=Kd.R_slice HO220.out; subst eo33; obtain⟨Ao34,co34,eo34⟩:=Kd.R_slice HO223.out; subst eo34))
   have n0_:Aside0 (Kd.R (Kd.int .u32) 63 (((w31.setCell ⟨gb215,0,none⟩ (.bool true)).setCell ⟨gb215,1,none⟩ (.slice Ao33 t218.length co33)).setCell ⟨gb215,2,none⟩ (.slice Ao34 t221.length co34)) w.heap.size (fun k_=>some k_≠(.slice Ao34 t221.length co34:Value).ownBlock) (.slice Ao33 t218.length co33) t218):=⟨by (with_reducible repeat (first | apply Kd.R_alloc | apply Kd.R_drewN | apply Kd.R_drew)); exact Kd.R_mono (Kd.R_far (p:=⟨gb215,2,none⟩) (Kd.R_far (p:=⟨gb215,1,none⟩) (Kd.R_far (p:=⟨gb215,0,none⟩) (Kd.R_types HO220.out BK215.out (by decide)) (fun _ hk=>hk.2) (.bool true)) (fun _ hk=>hk.2) (.slice Ao33 t218.length co33)) (fun _ hk=>hk.2) (.slice Ao34 t221.length co34)) (fun _ hk=>hk.1)⟩
   have n1_:Aside0 (Kd.R (Kd.int .u32) 63 (((w31.setCell ⟨gb215,0,none⟩ (.bool true)).setCell ⟨gb215,1,none⟩ (.slice Ao33 t218.length co33)).setCell ⟨gb215,2,none⟩ (.slice Ao34 t221.length co34)) w.heap.size (fun k_=>some k_≠(.slice Ao33 t218.length co33:Value).ownBlock) (.slice Ao34 t221.length co34) t221):=⟨by (with_reducible repeat (first | apply Kd.R_alloc | apply Kd.R_drewN | apply Kd.R_drew)); exact Kd.R_mono (Kd.R_far (p:=⟨gb215,2,none⟩) (Kd.R_far (p:=⟨gb215,1,none⟩) (Kd.R_far (p:=⟨gb215,0,none⟩) (Kd.R_types HO223.out BK215.out (by decide)) (fun _ hk=>hk.2) (.bool true)) (fun _ hk=>hk.2) (.slice Ao33 t218.length co33)) (fun _ hk=>hk.2) (.slice Ao34 t221.length co34)) (fun _ hk=>hk.1)⟩
   have n2_:Aside0 ((((w31.setCell ⟨gb215,0,none⟩ (.bool true)).setCell ⟨gb215,1,none⟩ (.slice Ao33 t218.length co33)).setCell ⟨gb215,2,none⟩ (.slice Ao34 t221.length co34)).heap[gb215]? = some (.cells #[.bool true,.slice Ao33 t218.length co33,.slice Ao34 t221.length co34] 25 (0,0))):=⟨by (with_reducible repeat (first | refine zaf ?_ _ | refine zah ?_ | refine zae ?_ _)); refine zau (cs:=#[.bool true,.slice Ao33 t218.length co33,.slice A0_2 l0_2.length c0_2]) ?_ 2 _ rfl; (with_reducible repeat (first | refine zaf ?_ _ | refine zah ?_ | refine zae ?_ _)); refine zau (cs:=#[.bool true,.slice A0_1 l0_1.length c0_1,.slice A0_2 l0_2.length c0_2]) ?_ 1 _ rfl; (with_reducible repeat (first | refine zaf ?_ _ | refine zah ?_ | refine zae ?_ _)); refine zau (cs:=#[.bool a0_0,.slice A0_1 l0_1.length c0_1,.slice A0_2 l0_2.length c0_2]) ?_ 0 _ rfl; (with_reducible repeat (first | refine zaf ?_ _ | refine zah ?_ | refine zae ?_ _)); exact BK215.out⟩
   have n3_:Aside0 ((((w31.setCell ⟨gb215,0,none⟩ (.bool true)).setCell ⟨gb215,1,none⟩ (.slice Ao33 t218.length co33)).setCell ⟨gb215,2,none⟩ (.slice Ao34 t221.length co34)).heap[gb216]? = some (.cells #[.bool false,.slice none 0 0,.slice none 0 0] 25 (0,0))):=⟨by (with_reducible repeat (first | refine zaf ?_ _ | refine zah ?_ | refine zae ?_ _)); refine zaB ?_ NB216_215.out _; (with_reducible repeat (first | refine zaf ?_ _ | refine zah ?_ | refine zae ?_ _)); refine zaB ?_ NB216_215.out _; (with_reducible repeat (first | refine zaf ?_ _ | refine zah ?_ | refine zae ?_ _)); refine zaB ?_ NB216_215.out _; (with_reducible repeat (first | refine zaf ?_ _ | refine zah ?_ | refine zae ?_ _)); exact BK216.out⟩
   have n4_:Aside0 (Below w.heap.size w (((w31.setCell ⟨gb215,0,none⟩ (.bool true)).setCell ⟨gb215,1,none⟩ (.slice Ao33 t218.length co33)).setCell ⟨gb215,2,none⟩ (.slice Ao34 t221.length co34))):=⟨by repeat (first | (with_reducible first | exact HB.out | apply zab | apply zaa | apply zac | refine zad ?_ GE215.out | refine zad ?_ GE216.out) | exact HB.out)⟩
   (try clear HO220)
   (try clear HO223)
   (try clear BK215)
   (try clear BK216)
   (try clear HB)
   generalize (((w31.setCell ⟨gb215,0,none⟩ (.bool true)).setCell ⟨gb215,1,none⟩ (.slice Ao33 t218.length co33)).setCell ⟨gb215,2,none⟩ (.slice Ao34 t221.length co34))=w35 at n0_ n1_ n2_ n3_ n4_ ⊢
   have HO220:=n0_
   have HO223:=n1_
   have BK215:=n2_
   have BK216:=n3_
   have HB:=n4_
   clear n0_ n1_ n2_ n3_ n4_
   have n0_:=Aside0.mk (Kd.R_drew HO220.out)
   have n1_:=Aside0.mk (Kd.R_drew HO223.out)
   have n2_:=Aside0.mk (zah BK215.out)
   have n3_:=Aside0.mk (zah BK216.out)
   have n4_:=Aside0.mk (zac HB.out)
   clear HO220
   clear HO223
   clear BK215
   clear BK216
   clear HB
   have HO220:=n0_
   have HO223:=n1_
   have BK215:=n2_
   have BK216:=n3_
   have HB:=n4_
   clear n0_ n1_ n2_ n3_ n4_
   refine start_ (n:=21) (S:=fun w'=>w'.cell? ⟨gb215,0,none⟩=some (.bool true)∧w'.cell? ⟨gb215,1,none⟩=some (.slice Ao33 t218.length co33)∧w'.cell? ⟨gb215,2,none⟩=some (.slice Ao34 t221.length co34)) (ds:=[]) #[false,false,false,false,false,false,false,false,false,false,false,false,false,false,false,false,false,false,false,false,false] (by kernel_rfl) rfl rfl ⟨(zai BK215.out 0).trans rfl,(zai BK215.out 1).trans rfl,(zai BK215.out 2).trans rfl⟩ (fun hHeld=>?_); refine with_tabW rat_Pow.tab2 rat_Pow.bits2 (fun HT_ HW_=>?_)
   generalize w35.drew=w36 at HO220 HO223 BK215 BK216 HB hHeld ⊢
   refine zaA (i:=0) (N:=some 7) (v:=?_) (a':=?_) #[true,false,false,false,false,false,false,false,false,false,false,false,false,false,false,false,false,false,false,false,false] rfl rfl (zay HT_.out (by kernel_rfl)) (fun _ _ _ h=>h) (Or.inl ⟨by rfl,?_⟩) ?_ ?_
   rotate_left
   ·
    intro w'
    go_simp
    with_reducible rfl
   rotate_left
   ·
    simp only [Act.put,List.setIfInBounds_toArray,List.set_cons_zero,List.set_cons_succ,zaq,zar]
    rfl
   refine zaA (i:=11) (N:=some 18) (v:=?_) (a':=?_) #[true,false,false,false,false,false,false,false,false,false,false,true,false,false,false,false,false,false,false,false,false] rfl rfl (zay HT_.out (by kernel_rfl)) (fun _ _ _ h=>h) (Or.inl ⟨by rfl,?_⟩) ?_ ?_
   rotate_left
   ·
    intro w'
    go_simp
    with_reducible rfl
   rotate_left
   ·
    simp only [Act.put,List.setIfInBounds_toArray,List.set_cons_zero,List.set_cons_succ,zaq,zar]
    rfl
   refine zaA (i:=13) (N:=some 20) (v:=?_) (a':=?_) #[true,false,false,false,false,false,false,false,false,false,false,true,false,true,false,false,false,false,false,false,false] rfl rfl (zay HT_.out (by kernel_rfl)) (fun _ _ _ h=>h) (Or.inl ⟨by rfl,?_⟩) ?_ ?_
   rotate_left
   ·
    intro w'
    go_simp
    with_reducible rfl
   rotate_left
   ·
    simp only [Act.put,List.setIfInBounds_toArray,List.set_cons_zero,List.set_cons_succ,zaq,zar]
    rfl
   refine zaA (i:=15) (N:=some 22) (v:=?_) (a':=?_) #[true,false,false,false,false,false,false,false,false,false,false,true,false,true,false,true,false,false,false,false,false] rfl rfl (zay HT_.out (by kernel_rfl)) (fun _ _ _ h=>h) (Or.inl ⟨by rfl,?_⟩) ?_ ?_
   rotate_left
   ·
    intro w'
    go_simp
    with_reducible rfl
   rotate_left
   ·
    simp only [Act.put,List.setIfInBounds_toArray,List.set_cons_zero,List.set_cons_succ,zaq,zar]
    rfl
   refine zaA (i:=17) (N:=some 24) (v:=?_) (a':=?_) #[true,false,false,false,false,false,false,false,false,false,false,true,false,true,false,true,false,true,false,false,false] rfl rfl (zay HT_.out (by kernel_rfl)) (fun _ _ _ h=>h) (Or.inl ⟨by rfl,?_⟩) ?_ ?_
   rotate_left
   ·
    intro w'
    go_simp
    with_reducible rfl
   rotate_left
   ·
    simp only [Act.put,List.setIfInBounds_toArray,List.set_cons_zero,List.set_cons_succ,zaq,zar]
    rfl
   refine take_ (i:=1) (N:=some 8) (v:=?_) (a':=?_) #[true,true,false,false,false,false,false,false,false,false,false,true,false,true,false,true,false,true,false,false,false] rfl rfl (zaQ HT_.out HW_.out (by kernel_rfl)) (fun _ _ _ h=>h) (Or.inl ⟨by rfl,?_⟩) hHeld ?_ ?_
   rotate_left
   ·
    rintro w' ⟨s0,s1,s2⟩
    go_simp
    with_reducible rfl
   rotate_left
   ·
    simp only [Act.put,List.setIfInBounds_toArray,List.set_cons_zero,List.set_cons_succ,zaq,zar]
    rfl
   refine zaA (i:=2) (N:=some 9) (v:=?_) (a':=?_) #[true,true,true,false,false,false,false,false,false,false,false,true,false,true,false,true,false,true,false,false,false] rfl rfl (zay HT_.out (by kernel_rfl)) (fun _ _ _ h=>h) (Or.inl ⟨by rfl,?_⟩) ?_ ?_
   rotate_left
   ·
    intro w'
    go_simp
    with_reducible rfl
   rotate_left
   ·
    simp only [Act.put,List.setIfInBounds_toArray,List.set_cons_zero,List.set_cons_succ,zaq,zar]
    rfl
   refine zaA (i:=3) (N:=some 10) (v:=?_) (a':=?_) #[true,true,true,true,false,false,false,false,false,false,false,true,false,true,false,true,false,true,false,false,false] rfl rfl (zay HT_.out (by kernel_rfl)) (fun _ _ _ h=>h) (Or.inl ⟨by rfl,?_⟩) ?_ ?_
   rotate_left
   ·
    intro w'
    go_simp
    with_reducible rfl
   rotate_left
   ·
    simp only [Act.put,List.setIfInBounds_toArray,List.set_cons_zero,List.set_cons_succ,zaq,zar]
    rfl
   refine zaA (i:=4) (N:=some 11) (v:=?_) (a':=?_) #[true,true,true,true,true,false,false,false,false,false,false,true,false,true,false,true,false,true,false,false,false] rfl rfl (zay HT_.out (by kernel_rfl)) (fun _ _ _ h=>h) (Or.inl ⟨by rfl,?_⟩) ?_ ?_
   rotate_left
   ·
    intro w'
    go_simp
    with_reducible rfl
   rotate_left
   ·
    simp only [Act.put,List.setIfInBounds_toArray,List.set_cons_zero,List.set_cons_succ,zaq,zar]
    rfl
   refine zaA (i:=5) (N:=some 12) (v:=?_) (a':=?_) #[true,true,true,true,true,true,false,false,false,false,false,true,false,true,false,true,false,true,false,false,false] rfl rfl (zay HT_.out (by kernel_rfl)) (fun _ _ _ h=>h) (Or.inl ⟨by rfl,?_⟩) ?_ ?_
   rotate_left
   ·
    intro w'
    go_simp
    with_reducible rfl
   rotate_left
   ·
    simp only [Act.put,List.setIfInBounds_toArray,List.set_cons_zero,List.set_cons_succ,zaq,zar]
    rfl
   refine zaA (i:=6) (N:=some 13) (v:=?_) (a':=?_) #[true,true,true,true,true,true,true,false,false,false,false,true,false,true,false,true,false,true,false,false,false] rfl rfl (zay HT_.out (by kernel_rfl)) (fun _ _ _ h=>h) (Or.inl ⟨by rfl,?_⟩) ?_ ?_
   rotate_left
   ·
    intro w'
    go_simp
    with_reducible rfl
   rotate_left
   ·
    simp only [Act.put,List.setIfInBounds_toArray,List.set_cons_zero,List.set_cons_succ,zaq,zar]
    rfl
   refine zaA (i:=7) (N:=some 14) (v:=undef) (a':=?_) #[true,true,true,true,true,true,true,true,false,false,false,true,false,true,false,true,false,true,false,false,false] rfl rfl (zay HT_.out (by kernel_rfl)) (fun _ _ _ h=>h) (Or.inr ⟨by rfl,rfl⟩) ?_ ?_
   rotate_left
   ·
    simp only [Act.put,List.setIfInBounds_toArray,List.set_cons_zero,List.set_cons_succ,zaq,zar]
    rfl
   refine zaA (i:=8) (N:=some 15) (v:=undef) (a':=?_) #[true,true,true,true,true,true,true,true,true,false,false,true,false,true,false,true,false,true,false,false,false] rfl rfl (zay HT_.out (by kernel_rfl)) (fun _ _ _ h=>h) (Or.inr ⟨by rfl,rfl⟩) ?_ ?_
   rotate_left
   ·
    simp only [Act.put,List.setIfInBounds_toArray,List.set_cons_zero,List.set_cons_succ,zaq,zar]
    rfl
   refine zaA (i:=9) (N:=some 16) (v:=undef) (a':=?_) #[true,true,true,true,true,true,true,true,true,true,false,true,false,true,false,true,false,true,false,false,false] rfl rfl (zay HT_.out (by kernel_rfl)) (fun _ _ _ h=>h) (Or.inr ⟨by rfl,rfl⟩) ?_ ?_
   rotate_left
   ·
    simp only [Act.put,List.setIfInBounds_toArray,List.set_cons_zero,List.set_cons_succ,zaq,zar]
    rfl
   refine zaA (i:=10) (N:=some 17) (v:=?_) (a':=?_) #[true,true,true,true,true,true,true,true,true,true,true,true,false,true,false,true,false,true,false,false,false] rfl rfl (zay HT_.out (by kernel_rfl)) (fun _ _ _ h=>h) (Or.inl ⟨by rfl,?_⟩) ?_ ?_
   rotate_left
   ·
    intro w'
    go_simp
    with_reducible rfl
   rotate_left
   ·
    simp only [Act.put,List.setIfInBounds_toArray,List.set_cons_zero,List.set_cons_succ,zaq,zar]
    rfl
   refine take_ (i:=12) (N:=some 19) (v:=?_) (a':=?_) #[true,true,true,true,true,true,true,true,true,true,true,true,true,true,false,true,false,true,false,false,false] rfl rfl (zaQ HT_.out HW_.out (by kernel_rfl)) (fun _ _ _ h=>h) (Or.inl ⟨by rfl,?_⟩) hHeld ?_ ?_
   rotate_left
   ·
    rintro w' ⟨s0,s1,s2⟩
    go_simp
    with_reducible rfl
   rotate_left
   ·
    simp only [Act.put,List.setIfInBounds_toArray,List.set_cons_zero,List.set_cons_succ,zaq,zar]
    rfl
   refine take_ (i:=16) (N:=some 23) (v:=?_) (a':=?_) #[true,true,true,true,true,true,true,true,true,true,true,true,true,true,false,true,true,true,false,false,false] rfl rfl (zaQ HT_.out HW_.out (by kernel_rfl)) (fun _ _ _ h=>h) (Or.inl ⟨by rfl,?_⟩) hHeld ?_ ?_
   rotate_left
   ·
    rintro w' ⟨s0,s1,s2⟩
    go_simp
    with_reducible rfl
   rotate_left
   ·
    simp only [Act.put,List.setIfInBounds_toArray,List.set_cons_zero,List.set_cons_succ,zaq,zar]
    rfl
   refine one_ (i:=14) (N:=some 21) #[true,true,true,true,true,true,true,true,true,true,true,true,true,true,true,true,true,true,false,false,false] rfl rfl (zaO HT_.out (by kernel_rfl)) (by decide) (fun K hK=>?_)
   refine za7 Try.func81 (by kernel_rfl) rfl #[.slice Ao33 t218.length co33,.int .i64 a1] (by rfl) rfl rfl (by (try simp only [List.map_toArray,List.map_cons,List.map_nil]); first | done | rfl | (simp only [List.length_drop,List.length_take]; rfl)) ?_
   with_reducible refine(quo_Pow.calls k _ _ t218 a1 t230 _ ?side1 ?side2 A25.out).mono ?_
   (case side1=>repeat (first | exact(Kd.R_reads' HO220.out).2.2 | (with_reducible refine Kd.C_alloc ?_ _) | (with_reducible refine Kd.C_drewN ?_ _) | (with_reducible refine Kd.C_drew ?_)))
   (case side2=>exact(Kd.R_reads' HO220.out).2.1)
   rintro e w37 ⟨v231,rfl,ho0,hb⟩
   refine⟨_,rfl,?_⟩
   have n0_:=Aside0.mk (Kd.R_elder' (by (with_reducible repeat (first | apply Kd.R_alloc | apply Kd.R_drewN | apply Kd.R_drew)); exact HO220.out) (Kd.R_base ho0) hb)
   have n1_:=Aside0.mk (Kd.R_elder' (by (with_reducible repeat (first | apply Kd.R_alloc | apply Kd.R_drewN | apply Kd.R_drew)); exact HO223.out) (Kd.R_base ho0) hb)
   have n2_:=Aside0.mk (Kd.R_lower (Kd.R_new' (Kd.R_new' ho0 (Kd.R_lt (by (with_reducible repeat (first | apply Kd.R_alloc | apply Kd.R_drewN | apply Kd.R_drew)); exact HO220.out))) (Kd.R_lt (by (with_reducible repeat (first | apply Kd.R_alloc | apply Kd.R_drewN | apply Kd.R_drew)); exact HO223.out))) (zaj (by repeat (first | (with_reducible first | exact HB.out | apply zab | apply zaa | apply zac | refine zad ?_ GE215.out | refine zad ?_ GE216.out) | exact HB.out))))
   have n3_:=Aside0.mk (zal (g:=gb215) (o:=.cells #[.bool true,.slice Ao33 t218.length co33,.slice Ao34 t221.length co34] 25 (0,0)) (by (with_reducible repeat (first | refine zaf ?_ _ | refine zah ?_ | refine zae ?_ _)); exact BK215.out) hb)
   have n4_:=Aside0.mk (zal (g:=gb216) (o:=.cells #[.bool false,.slice none 0 0,.slice none 0 0] 25 (0,0)) (by (with_reducible repeat (first | refine zaf ?_ _ | refine zah ?_ | refine zae ?_ _)); exact BK216.out) hb)
   have n5_:=Aside0.mk (zag (by repeat (first | (with_reducible first | exact HB.out | apply zab | apply zaa | apply zac | refine zad ?_ GE215.out | refine zad ?_ GE216.out) | exact HB.out)) hb)
   clear HO220
   clear HO223
   clear BK215
   clear BK216
   clear HB
   have HO220:=n0_
   have HO223:=n1_
   have HO232:=n2_
   have BK215:=n3_
   have BK216:=n4_
   have HB:=n5_
   clear n0_ n1_ n2_ n3_ n4_ n5_
   (try clear hb)
   (try clear hb2)
   (try clear hk)
   (try clear hi)
   (try clear ho0)
   refine hK.out _ _ ⟨(zai BK215.out 0).trans rfl,(zai BK215.out 1).trans rfl,(zai BK215.out 2).trans rfl⟩ (fun hHeld=>?_)
   clear hK K
   refine zaS (a':=?_) ?_ ?_
   rotate_left
   ·
    show Act.put _ (some 21) _=_
    simp only [Act.put,List.setIfInBounds_toArray,List.set_cons_zero,List.set_cons_succ,zaq,zar]
    rfl
   refine one_ (i:=18) (N:=some 25) #[true,true,true,true,true,true,true,true,true,true,true,true,true,true,true,true,true,true,true,false,false] rfl rfl (zaO HT_.out (by kernel_rfl)) (by decide) (fun K hK=>?_)
   refine za7 Try.func81 (by kernel_rfl) rfl #[.slice Ao34 t221.length co34,.int .i64 a1] (by rfl) rfl rfl (by (try simp only [List.map_toArray,List.map_cons,List.map_nil]); first | done | rfl | (simp only [List.length_drop,List.length_take]; rfl)) ?_
   with_reducible refine(quo_Pow.calls k _ _ t221 a1 t233 _ ?side1 ?side2 A26.out).mono ?_
   (case side1=>repeat (first | exact(Kd.R_reads' HO223.out).2.2 | (with_reducible refine Kd.C_alloc ?_ _) | (with_reducible refine Kd.C_drewN ?_ _) | (with_reducible refine Kd.C_drew ?_)))
   (case side2=>exact(Kd.R_reads' HO223.out).2.1)
   rintro e w38 ⟨v234,rfl,ho0,hb⟩
   refine⟨_,rfl,?_⟩
   have n0_:=Aside0.mk (Kd.R_elder' (by (with_reducible repeat (first | apply Kd.R_alloc | apply Kd.R_drewN | apply Kd.R_drew)); exact HO220.out) (Kd.R_base ho0) hb)
   have n1_:=Aside0.mk (Kd.R_elder' (by (with_reducible repeat (first | apply Kd.R_alloc | apply Kd.R_drewN | apply Kd.R_drew)); exact HO223.out) (Kd.R_base ho0) hb)
   have n2_:=Aside0.mk (Kd.R_elder' (by (with_reducible repeat (first | apply Kd.R_alloc | apply Kd.R_drewN | apply Kd.R_drew)); exact HO232.out) (Kd.R_base ho0) hb)
   have n3_:=Aside0.mk (Kd.R_lower (Kd.R_new' (Kd.R_new' (Kd.R_new' ho0 (Kd.R_lt (by (with_reducible repeat (first | apply Kd.R_alloc | apply Kd.R_drewN | apply Kd.R_drew)); exact HO220.out))) (Kd.R_lt (by (with_reducible repeat (first | apply Kd.R_alloc | apply Kd.R_drewN | apply Kd.R_drew)); exact HO223.out))) (Kd.R_lt (by (with_reducible repeat (first | apply Kd.R_alloc | apply Kd.R_drewN | apply Kd.R_drew)); exact HO232.out))) (zaj (by repeat (first | (with_reducible first | exact HB.out | apply zab | apply zaa | apply zac | refine zad ?_ GE215.out | refine zad ?_ GE216.out) | exact HB.out))))
   have n4_:=Aside0.mk (zal (g:=gb215) (o:=.cells #[.bool true,.slice Ao33 t218.length co33,.slice Ao34 t221.length co34] 25 (0,0)) (by (with_reducible repeat (first | refine zaf ?_ _ | refine zah ?_ | refine zae ?_ _)); exact BK215.out) hb)
   have n5_:=Aside0.mk (zal (g:=gb216) (o:=.cells #[.bool false,.slice none 0 0,.slice none 0 0] 25 (0,0)) (by (with_reducible repeat (first | refine zaf ?_ _ | refine zah ?_ | refine zae ?_ _)); exact BK216.out) hb)
   have n6_:=Aside0.mk (zag (by repeat (first | (with_reducible first | exact HB.out | apply zab | apply zaa | apply zac | refine zad ?_ GE215.out | refine zad ?_ GE216.out) | exact HB.out)) hb)
   clear HO220
   clear HO223
   clear HO232
   clear BK215
   clear BK216
   clear HB
   have HO220:=n0_
   have HO223:=n1_
   have HO232:=n2_
   have HO235:=n3_
   have BK215:=n4_
   have BK216:=n5_
   have HB:=n6_
   clear n0_ n1_ n2_ n3_ n4_ n5_ n6_
   (try clear hb)
   (try clear hb2)
   (try clear hk)
   (try clear hi)
   (try clear ho0)
   obtain⟨Ao39,co39,eo39⟩:=Kd.R_slice HO235.out
   (first | subst eo39 | (injection eo39 with f1_ f2_ f3_; have f4_:=f1_.symm; have f5_:=f3_.symm; clear f1_ f2_ f3_; subst f4_; subst f5_))
   obtain⟨Ao40,co40,eo40⟩:=Kd.R_slice HO232.out
   (first | subst eo40 | (injection eo40 with f1_ f2_ f3_; have f4_:=f1_.symm; have f5_:=f3_.symm; clear f1_ f2_ f3_; subst f4_; subst f5_))
   refine hK.out _ _ ⟨(zai BK215.out 0).trans rfl,(zai BK215.out 1).trans rfl,(zai BK215.out 2).trans rfl⟩ (fun hHeld=>?_)
   clear hK K
   refine zaS (a':=?_) ?_ ?_
   rotate_left
   ·
    show Act.put _ (some 25) _=_
    simp only [Act.put,List.setIfInBounds_toArray,List.set_cons_zero,List.set_cons_succ,zaq,zar]
    rfl
   refine zaA (i:=19) (N:=some 26) (v:=?_) (a':=?_) #[true,true,true,true,true,true,true,true,true,true,true,true,true,true,true,true,true,true,true,true,false] rfl rfl (zay HT_.out (by kernel_rfl)) (fun _ _ _ h=>h) (Or.inl ⟨by rfl,?_⟩) ?_ ?_
   rotate_left
   ·
    intro w'
    go_simp
    with_reducible rfl
   rotate_left
   ·
    simp only [Act.put,List.setIfInBounds_toArray,List.set_cons_zero,List.set_cons_succ,zaq,zar]
    rfl
   refine one_ (i:=20) (N:=none) #[true,true,true,true,true,true,true,true,true,true,true,true,true,true,true,true,true,true,true,true,true] rfl rfl (zaO HT_.out (by kernel_rfl)) (by decide) (fun K hK=>?_)
   have hs41:w38.cell? ⟨gb216,0,none⟩=some (.bool false):=(zai BK216.out 0).trans rfl
   have hfs41:=zak BK216.out 0
   have hns41_0:=NB215_216.out
   have hms41_0:=NB216_215.out
   have hs42:w38.cell? ⟨gb216,1,none⟩=some (.slice none 0 0):=(zai BK216.out 1).trans rfl
   have hfs42:=zak BK216.out 1
   have hns42_0:=NB215_216.out
   have hms42_0:=NB216_215.out
   have hs43:w38.cell? ⟨gb216,2,none⟩=some (.slice none 0 0):=(zai BK216.out 2).trans rfl
   have hfs43:=zak BK216.out 2
   have hns43_0:=NB215_216.out
   have hms43_0:=NB216_215.out
   refine skip_ (w1:=?_) (by rfl) rfl ?_ ?_
   rotate_left
   ·
    go_simp
    rfl
   refine hK.out _ _ ⟨((cell_far (p:=⟨gb216,_,none⟩) NB215_216.out _).trans (((cell_far (p:=⟨gb216,_,none⟩) NB215_216.out _).trans (((cell_far (p:=⟨gb216,_,none⟩) NB215_216.out _).trans (hHeld.1)))))),((cell_far (p:=⟨gb216,_,none⟩) NB215_216.out _).trans (((cell_far (p:=⟨gb216,_,none⟩) NB215_216.out _).trans (((cell_far (p:=⟨gb216,_,none⟩) NB215_216.out _).trans (hHeld.2.1)))))),((cell_far (p:=⟨gb216,_,none⟩) NB215_216.out _).trans (((cell_far (p:=⟨gb216,_,none⟩) NB215_216.out _).trans (((cell_far (p:=⟨gb216,_,none⟩) NB215_216.out _).trans (hHeld.2.2))))))⟩ (fun hHeld=>?_)
   clear hK K
   refine done_ (done_of HT_.out (by kernel_rfl)) ?_
   try go_wp2
   refine bodyPost_ret (results_cell_row rfl _ _ gb216 25 #[.bool false,.slice Ao40 t230.length co40,.slice Ao39 t233.length co39] (0,0) _ rfl (by (with_reducible repeat (first | refine zaf ?_ _ | refine zah ?_ | refine zae ?_ _)); refine zau (cs:=#[.bool false,.slice Ao40 t230.length co40,.slice none 0 0]) ?_ 2 _ rfl; (with_reducible repeat (first | refine zaf ?_ _ | refine zah ?_ | refine zae ?_ _)); refine zau (cs:=#[.bool false,.slice none 0 0,.slice none 0 0]) ?_ 1 _ rfl; (with_reducible repeat (first | refine zaf ?_ _ | refine zah ?_ | refine zae ?_ _)); refine zau (cs:=#[.bool false,.slice none 0 0,.slice none 0 0]) ?_ 0 _ rfl; (with_reducible repeat (first | refine zaf ?_ _ | refine zah ?_ | refine zae ?_ _)); exact BK216.out) Try.underlying25 rfl (by kernel_rfl)) rfl ?_
   exact⟨_,_,by first | rfl | (simp [zan,zao]<;>rfl) | (simp [*,zan,zao]<;>rfl),by (with_reducible repeat (first | apply Kd.R_alloc | apply Kd.R_drewN | apply Kd.R_drew)); exact Kd.R_mono (Kd.R_far (p:=⟨gb216,2,none⟩) (Kd.R_far (p:=⟨gb216,1,none⟩) (Kd.R_far (p:=⟨gb216,0,none⟩) (Kd.R_types HO232.out BK216.out (by decide)) (fun _ hk=>hk.2) (.bool false)) (fun _ hk=>hk.2) (.slice Ao40 t230.length co40)) (fun _ hk=>hk.2) (.slice Ao39 t233.length co39)) (fun _ hk=>hk.1.2),by (with_reducible repeat (first | apply Kd.R_alloc | apply Kd.R_drewN | apply Kd.R_drew)); exact Kd.R_mono (Kd.R_far (p:=⟨gb216,2,none⟩) (Kd.R_far (p:=⟨gb216,1,none⟩) (Kd.R_far (p:=⟨gb216,0,none⟩) (Kd.R_types HO235.out BK216.out (by decide)) (fun _ hk=>hk.2) (.bool false)) (fun _ hk=>hk.2) (.slice Ao40 t230.length co40)) (fun _ hk=>hk.2) (.slice Ao39 t233.length co39)) (fun _ hk=>hk.1.2),by repeat (first | (with_reducible first | exact HB.out | apply zab | apply zaa | apply zac | refine zad ?_ GE215.out | refine zad ?_ GE216.out) | exact HB.out)⟩
 ·
  replace c4:=Bool.eq_false_iff.mpr c4
  subst c4
  have H1:((quo_Pow.f k t218 a1).bind fun t236=>((quo_Pow.f k t221 a1).bind fun t239=>(some (false,t236,t239))))=some (r1,r2,r3):=by rw [if_neg (show ¬ (false=true) by decide)] at H; exact H
  clear H
  have H:=H1
  clear H1
  replace H:=Option.bind_eq_some_iff.mp H
  obtain⟨t236,A440,H⟩:=H
  replace H:((quo_Pow.f k t221 a1).bind fun t239=>(some (false,t236,t239)))=some (r1,r2,r3):=H
  have A44:=Aside0.mk A440
  clear A440
  replace H:=Option.bind_eq_some_iff.mp H
  obtain⟨t239,A450,H⟩:=H
  replace H:(some (false,t236,t239))=some (r1,r2,r3):=H
  have A45:=Aside0.mk A450
  clear A450
  simp only [Option.some.injEq,Prod.mk.injEq] at H
  obtain⟨rfl,rfl,rfl⟩:=H
  go_enter Try.func48,Try.ntmps48
  try go_wp2_with (first | ((with_reducible refine zav (N:=2) rfl ?_); refine zax ?hg (N:=2) ?hd (cs:=#[.bool a0_0,.slice A0_1 l0_1.length c0_1,.slice A0_2 l0_2.length c0_2]) (t:=25) ?hr ?_; (case hd=>rfl); (case hg=>rfl); (case hr=>first | (go_simp; done) | (go_simp; rfl)); intro gb215 hg w46 hbox hb; have n0_:=Aside0.mk (zag (by repeat (first | (with_reducible first | exact HB.out | apply zab | apply zaa | apply zac) | exact HB.out)) hb); have n1_:=Aside0.mk (hbox); have n2_:=Aside0.mk ((by rw [hg]; exact(zaj (by repeat (first | (with_reducible first | exact HB.out | apply zab | apply zaa | apply zac) | exact HB.out))):w.heap.size≤gb215)); have n3_:=Aside0.mk ((by rw [hg]; exact(zaj (by repeat (first | (with_reducible first | exact HB.out | apply zab | apply zaa | apply zac) | exact HB.out))):w.heap.size≤gb215)); clear HB; have HB:=n0_; have BK215:=n1_; have GW215:=n2_; have GE215:=n3_; clear n0_ n1_ n2_ n3_; clear hb hbox hg) | ((with_reducible refine zav (N:=4) rfl ?_); refine zax ?hg (N:=4) ?hd (cs:=#[.bool false,.slice none 0 0,.slice none 0 0]) (t:=25) ?hr ?_; (case hd=>rfl); (case hg=>rfl); (case hr=>first | (go_simp; done) | (go_simp; rfl)); intro gb216 hg w47 hbox hb; have n0_:=Aside0.mk (zal (g:=gb215) (o:=.cells #[.bool a0_0,.slice A0_1 l0_1.length c0_1,.slice A0_2 l0_2.length c0_2] 25 (0,0)) (by (with_reducible repeat (first | refine zaf ?_ _ | refine zah ?_ | refine zae ?_ _)); exact BK215.out) hb); have n1_:=Aside0.mk (zag (by repeat (first | (with_reducible first | exact HB.out | apply zab | apply zaa | apply zac | refine zad ?_ GE215.out) | exact HB.out)) hb); have n2_:=Aside0.mk (hbox); have n3_:=Aside0.mk ((by rw [hg]; exact(zaj (by repeat (first | (with_reducible first | exact HB.out | apply zab | apply zaa | apply zac | refine zad ?_ GE215.out) | exact HB.out))):w.heap.size≤gb216)); have n4_:=Aside0.mk ((by rw [hg]; exact(zaj (by repeat (first | (with_reducible first | exact HB.out | apply zab | apply zaa | apply zac | refine zad ?_ GE215.out) | exact HB.out))):w.heap.size≤gb216)); have n5_:=Aside0.mk ((by rw [hg]; exact Nat.ne_of_lt (zaD (g:=gb215) (o:=.cells #[.bool a0_0,.slice A0_1 l0_1.length c0_1,.slice A0_2 l0_2.length c0_2] 25 (0,0)) (by (with_reducible repeat (first | refine zaf ?_ _ | refine zah ?_ | refine zae ?_ _)); exact BK215.out)):gb215≠gb216)); have n6_:=Aside0.mk ((by rw [hg]; exact Nat.ne_of_gt (zaD (g:=gb215) (o:=.cells #[.bool a0_0,.slice A0_1 l0_1.length c0_1,.slice A0_2 l0_2.length c0_2] 25 (0,0)) (by (with_reducible repeat (first | refine zaf ?_ _ | refine zah ?_ | refine zae ?_ _)); exact BK215.out)):gb216≠gb215)); clear BK215; clear HB; have BK215:=n0_; have HB:=n1_; have BK216:=n2_; have GW216:=n3_; have GE216:=n4_; have NB215_216:=n5_; have NB216_215:=n6_; clear n0_ n1_ n2_ n3_ n4_ n5_ n6_; clear hb hbox hg; have hnb48:=NB215_216.out; have hnc48:=NB216_215.out; have hcz49_0:w47.cell? ⟨gb215,0,none⟩=some (.bool a0_0):=(zai BK215.out 0).trans rfl; have hcz49_1:w47.cell? ⟨gb215,1,none⟩=some (.slice A0_1 l0_1.length c0_1):=(zai BK215.out 1).trans rfl; have hcz49_2:w47.cell? ⟨gb215,2,none⟩=some (.slice A0_2 l0_2.length c0_2):=(zai BK215.out 2).trans rfl; have hfz49_0:=zak BK215.out 0; have hfz49_1:=zak BK215.out 1; have hfz49_2:=zak BK215.out 2) | ((with_reducible refine zap (f:=16) rfl ?_); refine zaC (some 6) rfl rfl Try.func16 (by kernel_rfl) rfl #[.agg #[.bool a0_0,.slice A0_1 l0_1.length c0_1,.slice A0_2 l0_2.length c0_2]] rfl (by (try simp only [List.map_toArray,List.map_cons,List.map_nil]); first | done | rfl | (simp only [List.length_drop,List.length_take]; rfl)) ?_; (with_reducible refine(rat_Norm.calls a0_0 _ _ l0_1 _ _ l0_2 false t218 t221 _ ?side1 ?side2 ?side3 ?side4 A3.out).mono ?_); (case side1=>repeat (first | exact(Kd.C_below HR0_1.out HB.out) | (with_reducible refine Kd.C_alloc ?_ _) | (with_reducible refine Kd.C_drewN ?_ _) | (with_reducible refine Kd.C_drew ?_))); (case side2=>exact HC0_1.out); (case side3=>repeat (first | exact(Kd.C_below HR0_2.out HB.out) | (with_reducible refine Kd.C_alloc ?_ _) | (with_reducible refine Kd.C_drewN ?_ _) | (with_reducible refine Kd.C_drew ?_))); (case side4=>exact HC0_2.out); rintro e w50 ⟨v219,v222,rfl,ho0,ho1,hb⟩; refine⟨_,rfl,?_⟩; have n0_:=Aside0.mk (Kd.R_lower ho0 (zaj (by repeat (first | (with_reducible first | exact HB.out | apply zab | apply zaa | apply zac | refine zad ?_ GE215.out | refine zad ?_ GE216.out) | exact HB.out)))); have n1_:=Aside0.mk (Kd.R_lower ho1 (zaj (by repeat (first | (with_reducible first | exact HB.out | apply zab | apply zaa | apply zac | refine zad ?_ GE215.out | refine zad ?_ GE216.out) | exact HB.out)))); have n2_:=Aside0.mk (zal (g:=gb215) (o:=.cells #[.bool a0_0,.slice A0_1 l0_1.length c0_1,.slice A0_2 l0_2.length c0_2] 25 (0,0)) (by (with_reducible repeat (first | refine zaf ?_ _ | refine zah ?_ | refine zae ?_ _)); exact BK215.out) hb); have n3_:=Aside0.mk (zal (g:=gb216) (o:=.cells #[.bool false,.slice none 0 0,.slice none 0 0] 25 (0,0)) (by (with_reducible repeat (first | refine zaf ?_ _ | refine zah ?_ | refine zae ?_ _)); exact BK216.out) hb); have n4_:=Aside0.mk (zag (by repeat (first | (with_reducible first | exact HB.out | apply zab | apply zaa | apply zac | refine zad ?_ GE215.out | refine zad ?_ GE216.out) | exact HB.out)) hb); clear BK215; clear BK216; clear HB; have HO220:=n0_; have HO223:=n1_; have BK215:=n2_; have BK216:=n3_; have HB:=n4_; clear n0_ n1_ n2_ n3_ n4_; (try clear hb); (try clear hb2); (try clear hk); (try clear hi); (try clear ho0); (try clear ho1); have hcz51_0:w50.cell? ⟨gb215,0,none⟩=some (.bool a0_0):=(zai BK215.out 0).trans rfl; have hcz51_1:w50.cell? ⟨gb215,1,none⟩=some (.slice A0_1 l0_1.length c0_1):=(zai BK215.out 1).trans rfl; have hcz51_2:w50.cell? ⟨gb215,2,none⟩=some (.slice A0_2 l0_2.length c0_2):=(zai BK215.out 2).trans rfl; have hfz51_0:=zak BK215.out 0; have hfz51_1:=zak BK215.out 1; have hfz51_2:=zak BK215.out 2; obtain⟨Ao52,co52,eo52⟩:=Kd.R_slice HO220.out; subst eo52; obtain⟨Ao53,co53,eo53⟩:=Kd.R_slice HO223.out; subst eo53))
  have n0_:Aside0 (Kd.R (Kd.int .u32) 63 (((w50.setCell ⟨gb215,0,none⟩ (.bool false)).setCell ⟨gb215,1,none⟩ (.slice Ao52 t218.length co52)).setCell ⟨gb215,2,none⟩ (.slice Ao53 t221.length co53)) w.heap.size (fun k_=>some k_≠(.slice Ao53 t221.length co53:Value).ownBlock) (.slice Ao52 t218.length co52) t218):=⟨by (with_reducible repeat (first | apply Kd.R_alloc | apply Kd.R_drewN | apply Kd.R_drew)); exact Kd.R_mono (Kd.R_far (p:=⟨gb215,2,none⟩) (Kd.R_far (p:=⟨gb215,1,none⟩) (Kd.R_far (p:=⟨gb215,0,none⟩) (Kd.R_types HO220.out BK215.out (by decide)) (fun _ hk=>hk.2) (.bool false)) (fun _ hk=>hk.2) (.slice Ao52 t218.length co52)) (fun _ hk=>hk.2) (.slice Ao53 t221.length co53)) (fun _ hk=>hk.1)⟩
  have n1_:Aside0 (Kd.R (Kd.int .u32) 63 (((w50.setCell ⟨gb215,0,none⟩ (.bool false)).setCell ⟨gb215,1,none⟩ (.slice Ao52 t218.length co52)).setCell ⟨gb215,2,none⟩ (.slice Ao53 t221.length co53)) w.heap.size (fun k_=>some k_≠(.slice Ao52 t218.length co52:Value).ownBlock) (.slice Ao53 t221.length co53) t221):=⟨by (with_reducible repeat (first | apply Kd.R_alloc | apply Kd.R_drewN | apply Kd.R_drew)); exact Kd.R_mono (Kd.R_far (p:=⟨gb215,2,none⟩) (Kd.R_far (p:=⟨gb215,1,none⟩) (Kd.R_far (p:=⟨gb215,0,none⟩) (Kd.R_types HO223.out BK215.out (by decide)) (fun _ hk=>hk.2) (.bool false)) (fun _ hk=>hk.2) (.slice Ao52 t218.length co52)) (fun _ hk=>hk.2) (.slice Ao53 t221.length co53)) (fun _ hk=>hk.1)⟩
  have n2_:Aside0 ((((w50.setCell ⟨gb215,0,none⟩ (.bool false)).setCell ⟨gb215,1,none⟩ (.slice Ao52 t218.length co52)).setCell ⟨gb215,2,none⟩ (.slice Ao53 t221.length co53)).heap[gb215]? = some (.cells #[.bool false,.slice Ao52 t218.length co52,.slice Ao53 t221.length co53] 25 (0,0))):=⟨by (with_reducible repeat (first | refine zaf ?_ _ | refine zah ?_ | refine zae ?_ _)); refine zau (cs:=#[.bool false,.slice Ao52 t218.length co52,.slice A0_2 l0_2.length c0_2]) ?_ 2 _ rfl; (with_reducible repeat (first | refine zaf ?_ _ | refine zah ?_ | refine zae ?_ _)); refine zau (cs:=#[.bool false,.slice A0_1 l0_1.length c0_1,.slice A0_2 l0_2.length c0_2]) ?_ 1 _ rfl; (with_reducible repeat (first | refine zaf ?_ _ | refine zah ?_ | refine zae ?_ _)); refine zau (cs:=#[.bool a0_0,.slice A0_1 l0_1.length c0_1,.slice A0_2 l0_2.length c0_2]) ?_ 0 _ rfl; (with_reducible repeat (first | refine zaf ?_ _ | refine zah ?_ | refine zae ?_ _)); exact BK215.out⟩
  have n3_:Aside0 ((((w50.setCell ⟨gb215,0,none⟩ (.bool false)).setCell ⟨gb215,1,none⟩ (.slice Ao52 t218.length co52)).setCell ⟨gb215,2,none⟩ (.slice Ao53 t221.length co53)).heap[gb216]? = some (.cells #[.bool false,.slice none 0 0,.slice none 0 0] 25 (0,0))):=⟨by (with_reducible repeat (first | refine zaf ?_ _ | refine zah ?_ | refine zae ?_ _)); refine zaB ?_ NB216_215.out _; (with_reducible repeat (first | refine zaf ?_ _ | refine zah ?_ | refine zae ?_ _)); refine zaB ?_ NB216_215.out _; (with_reducible repeat (first | refine zaf ?_ _ | refine zah ?_ | refine zae ?_ _)); refine zaB ?_ NB216_215.out _; (with_reducible repeat (first | refine zaf ?_ _ | refine zah ?_ | refine zae ?_ _)); exact BK216.out⟩
  have n4_:Aside0 (Below w.heap.size w (((w50.setCell ⟨gb215,0,none⟩ (.bool false)).setCell ⟨gb215,1,none⟩ (.slice Ao52 t218.length co52)).setCell ⟨gb215,2,none⟩ (.slice Ao53 t221.length co53))):=⟨by repeat (first | (with_reducible first | exact HB.out | apply zab | apply zaa | apply zac | refine zad ?_ GE215.out | refine zad ?_ GE216.out) | exact HB.out)⟩
  (try clear HO220)
  (try clear HO223)
  (try clear BK215)
  (try clear BK216)
  (try clear HB)
  generalize (((w50.setCell ⟨gb215,0,none⟩ (.bool false)).setCell ⟨gb215,1,none⟩ (.slice Ao52 t218.length co52)).setCell ⟨gb215,2,none⟩ (.slice Ao53 t221.length co53))=w54 at n0_ n1_ n2_ n3_ n4_ ⊢
  have HO220:=n0_
  have HO223:=n1_
  have BK215:=n2_
  have BK216:=n3_
  have HB:=n4_
  clear n0_ n1_ n2_ n3_ n4_
  have n0_:=Aside0.mk (Kd.R_drew HO220.out)
  have n1_:=Aside0.mk (Kd.R_drew HO223.out)
  have n2_:=Aside0.mk (zah BK215.out)
  have n3_:=Aside0.mk (zah BK216.out)
  have n4_:=Aside0.mk (zac HB.out)
  clear HO220
  clear HO223
  clear BK215
  clear BK216
  clear HB
  have HO220:=n0_
  have HO223:=n1_
  have BK215:=n2_
  have BK216:=n3_
  have HB:=n4_
  clear n0_ n1_ n2_ n3_ n4_
  refine start_ (n:=21) (S:=fun w'=>w'.cell? ⟨gb215,0,none⟩=some (.bool false)∧w'.cell? ⟨gb215,1,none⟩=some (.slice Ao52 t218.length co52)∧w'.cell? ⟨gb215,2,none⟩=some (.slice Ao53 t221.length co53)) (ds:=[]) #[false,false,false,false,false,false,false,false,false,false,false,false,false,false,false,false,false,false,false,false,false] (by kernel_rfl) rfl rfl ⟨(zai BK215.out 0).trans rfl,(zai BK215.out 1).trans rfl,(zai BK215.out 2).trans rfl⟩ (fun hHeld=>?_); refine with_tabW rat_Pow.tab2 rat_Pow.bits2 (fun HT_ HW_=>?_)
  generalize w54.drew=w55 at HO220 HO223 BK215 BK216 HB hHeld ⊢
  refine zaA (i:=0) (N:=some 7) (v:=?_) (a':=?_) #[true,false,false,false,false,false,false,false,false,false,false,false,false,false,false,false,false,false,false,false,false] rfl rfl (zay HT_.out (by kernel_rfl)) (fun _ _ _ h=>h) (Or.inl ⟨by rfl,?_⟩) ?_ ?_
  rotate_left
  ·
   intro w'
   go_simp
   with_reducible rfl
  rotate_left
  ·
   simp only [Act.put,List.setIfInBounds_toArray,List.set_cons_zero,List.set_cons_succ,zaq,zar]
   rfl
  refine zaA (i:=11) (N:=some 18) (v:=?_) (a':=?_) #[true,false,false,false,false,false,false,false,false,false,false,true,false,false,false,false,false,false,false,false,false] rfl rfl (zay HT_.out (by kernel_rfl)) (fun _ _ _ h=>h) (Or.inl ⟨by rfl,?_⟩) ?_ ?_
  rotate_left
  ·
   intro w'
   go_simp
   with_reducible rfl
  rotate_left
  ·
   simp only [Act.put,List.setIfInBounds_toArray,List.set_cons_zero,List.set_cons_succ,zaq,zar]
   rfl
  refine zaA (i:=13) (N:=some 20) (v:=?_) (a':=?_) #[true,false,false,false,false,false,false,false,false,false,false,true,false,true,false,false,false,false,false,false,false] rfl rfl (zay HT_.out (by kernel_rfl)) (fun _ _ _ h=>h) (Or.inl ⟨by rfl,?_⟩) ?_ ?_
  rotate_left
  ·
   intro w'
   go_simp
   with_reducible rfl
  rotate_left
  ·
   simp only [Act.put,List.setIfInBounds_toArray,List.set_cons_zero,List.set_cons_succ,zaq,zar]
   rfl
  refine zaA (i:=15) (N:=some 22) (v:=?_) (a':=?_) #[true,false,false,false,false,false,false,false,false,false,false,true,false,true,false,true,false,false,false,false,false] rfl rfl (zay HT_.out (by kernel_rfl)) (fun _ _ _ h=>h) (Or.inl ⟨by rfl,?_⟩) ?_ ?_
  rotate_left
  ·
   intro w'
   go_simp
   with_reducible rfl
  rotate_left
  ·
   simp only [Act.put,List.setIfInBounds_toArray,List.set_cons_zero,List.set_cons_succ,zaq,zar]
   rfl
  refine zaA (i:=17) (N:=some 24) (v:=?_) (a':=?_) #[true,false,false,false,false,false,false,false,false,false,false,true,false,true,false,true,false,true,false,false,false] rfl rfl (zay HT_.out (by kernel_rfl)) (fun _ _ _ h=>h) (Or.inl ⟨by rfl,?_⟩) ?_ ?_
  rotate_left
  ·
   intro w'
   go_simp
   with_reducible rfl
  rotate_left
  ·
   simp only [Act.put,List.setIfInBounds_toArray,List.set_cons_zero,List.set_cons_succ,zaq,zar]
   rfl
  refine take_ (i:=1) (N:=some 8) (v:=?_) (a':=?_) #[true,true,false,false,false,false,false,false,false,false,false,true,false,true,false,true,false,true,false,false,false] rfl rfl (zaQ HT_.out HW_.out (by kernel_rfl)) (fun _ _ _ h=>h) (Or.inl ⟨by rfl,?_⟩) hHeld ?_ ?_
  rotate_left
  ·
   rintro w' ⟨s0,s1,s2⟩
   go_simp
   with_reducible rfl
  rotate_left
  ·
   simp only [Act.put,List.setIfInBounds_toArray,List.set_cons_zero,List.set_cons_succ,zaq,zar]
   rfl
  refine zaA (i:=2) (N:=some 9) (v:=?_) (a':=?_) #[true,true,true,false,false,false,false,false,false,false,false,true,false,true,false,true,false,true,false,false,false] rfl rfl (zay HT_.out (by kernel_rfl)) (fun _ _ _ h=>h) (Or.inl ⟨by rfl,?_⟩) ?_ ?_
  rotate_left
  ·
   intro w'
   go_simp
   with_reducible rfl
  rotate_left
  ·
   simp only [Act.put,List.setIfInBounds_toArray,List.set_cons_zero,List.set_cons_succ,zaq,zar]
   rfl
  refine zaA (i:=3) (N:=some 10) (v:=undef) (a':=?_) #[true,true,true,true,false,false,false,false,false,false,false,true,false,true,false,true,false,true,false,false,false] rfl rfl (zay HT_.out (by kernel_rfl)) (fun _ _ _ h=>h) (Or.inr ⟨by rfl,rfl⟩) ?_ ?_
  rotate_left
  ·
   simp only [Act.put,List.setIfInBounds_toArray,List.set_cons_zero,List.set_cons_succ,zaq,zar]
   rfl
  refine zaA (i:=4) (N:=some 11) (v:=undef) (a':=?_) #[true,true,true,true,true,false,false,false,false,false,false,true,false,true,false,true,false,true,false,false,false] rfl rfl (zay HT_.out (by kernel_rfl)) (fun _ _ _ h=>h) (Or.inr ⟨by rfl,rfl⟩) ?_ ?_
  rotate_left
  ·
   simp only [Act.put,List.setIfInBounds_toArray,List.set_cons_zero,List.set_cons_succ,zaq,zar]
   rfl
  refine zaA (i:=5) (N:=some 12) (v:=?_) (a':=?_) #[true,true,true,true,true,true,false,false,false,false,false,true,false,true,false,true,false,true,false,false,false] rfl rfl (zay HT_.out (by kernel_rfl)) (fun _ _ _ h=>h) (Or.inl ⟨by rfl,?_⟩) ?_ ?_
  rotate_left
  ·
   intro w'
   go_simp
   with_reducible rfl
  rotate_left
  ·
   simp only [Act.put,List.setIfInBounds_toArray,List.set_cons_zero,List.set_cons_succ,zaq,zar]
   rfl
  refine zaA (i:=6) (N:=some 13) (v:=?_) (a':=?_) #[true,true,true,true,true,true,true,false,false,false,false,true,false,true,false,true,false,true,false,false,false] rfl rfl (zay HT_.out (by kernel_rfl)) (fun _ _ _ h=>h) (Or.inl ⟨by rfl,?_⟩) ?_ ?_
  rotate_left
  ·
   intro w'
   go_simp
   with_reducible rfl
  rotate_left
  ·
   simp only [Act.put,List.setIfInBounds_toArray,List.set_cons_zero,List.set_cons_succ,zaq,zar]
   rfl
  refine zaA (i:=7) (N:=some 14) (v:=undef) (a':=?_) #[true,true,true,true,true,true,true,true,false,false,false,true,false,true,false,true,false,true,false,false,false] rfl rfl (zay HT_.out (by kernel_rfl)) (fun _ _ _ h=>h) (Or.inr ⟨by rfl,rfl⟩) ?_ ?_
  rotate_left
  ·
   simp only [Act.put,List.setIfInBounds_toArray,List.set_cons_zero,List.set_cons_succ,zaq,zar]
   rfl
  refine zaA (i:=8) (N:=some 15) (v:=undef) (a':=?_) #[true,true,true,true,true,true,true,true,true,false,false,true,false,true,false,true,false,true,false,false,false] rfl rfl (zay HT_.out (by kernel_rfl)) (fun _ _ _ h=>h) (Or.inr ⟨by rfl,rfl⟩) ?_ ?_
  rotate_left
  ·
   simp only [Act.put,List.setIfInBounds_toArray,List.set_cons_zero,List.set_cons_succ,zaq,zar]
   rfl
  refine zaA (i:=9) (N:=some 16) (v:=undef) (a':=?_) #[true,true,true,true,true,true,true,true,true,true,false,true,false,true,false,true,false,true,false,false,false] rfl rfl (zay HT_.out (by kernel_rfl)) (fun _ _ _ h=>h) (Or.inr ⟨by rfl,rfl⟩) ?_ ?_
  rotate_left
  ·
   simp only [Act.put,List.setIfInBounds_toArray,List.set_cons_zero,List.set_cons_succ,zaq,zar]
   rfl
  refine zaA (i:=10) (N:=some 17) (v:=?_) (a':=?_) #[true,true,true,true,true,true,true,true,true,true,true,true,false,true,false,true,false,true,false,false,false] rfl rfl (zay HT_.out (by kernel_rfl)) (fun _ _ _ h=>h) (Or.inl ⟨by rfl,?_⟩) ?_ ?_
  rotate_left
  ·
   intro w'
   go_simp
   with_reducible rfl
  rotate_left
  ·
   simp only [Act.put,List.setIfInBounds_toArray,List.set_cons_zero,List.set_cons_succ,zaq,zar]
   rfl
  refine take_ (i:=12) (N:=some 19) (v:=?_) (a':=?_) #[true,true,true,true,true,true,true,true,true,true,true,true,true,true,false,true,false,true,false,false,false] rfl rfl (zaQ HT_.out HW_.out (by kernel_rfl)) (fun _ _ _ h=>h) (Or.inl ⟨by rfl,?_⟩) hHeld ?_ ?_
  rotate_left
  ·
   rintro w' ⟨s0,s1,s2⟩
   go_simp
   with_reducible rfl
  rotate_left
  ·
   simp only [Act.put,List.setIfInBounds_toArray,List.set_cons_zero,List.set_cons_succ,zaq,zar]
   rfl
  refine take_ (i:=16) (N:=some 23) (v:=?_) (a':=?_) #[true,true,true,true,true,true,true,true,true,true,true,true,true,true,false,true,true,true,false,false,false] rfl rfl (zaQ HT_.out HW_.out (by kernel_rfl)) (fun _ _ _ h=>h) (Or.inl ⟨by rfl,?_⟩) hHeld ?_ ?_
  rotate_left
  ·
   rintro w' ⟨s0,s1,s2⟩
   go_simp
   with_reducible rfl
  rotate_left
  ·
   simp only [Act.put,List.setIfInBounds_toArray,List.set_cons_zero,List.set_cons_succ,zaq,zar]
   rfl
  refine one_ (i:=14) (N:=some 21) #[true,true,true,true,true,true,true,true,true,true,true,true,true,true,true,true,true,true,false,false,false] rfl rfl (zaO HT_.out (by kernel_rfl)) (by decide) (fun K hK=>?_)
  refine za7 Try.func81 (by kernel_rfl) rfl #[.slice Ao52 t218.length co52,.int .i64 a1] (by rfl) rfl rfl (by (try simp only [List.map_toArray,List.map_cons,List.map_nil]); first | done | rfl | (simp only [List.length_drop,List.length_take]; rfl)) ?_
  with_reducible refine(quo_Pow.calls k _ _ t218 a1 t236 _ ?side1 ?side2 A44.out).mono ?_
  (case side1=>repeat (first | exact(Kd.R_reads' HO220.out).2.2 | (with_reducible refine Kd.C_alloc ?_ _) | (with_reducible refine Kd.C_drewN ?_ _) | (with_reducible refine Kd.C_drew ?_)))
  (case side2=>exact(Kd.R_reads' HO220.out).2.1)
  rintro e w56 ⟨v237,rfl,ho0,hb⟩
  refine⟨_,rfl,?_⟩
  have n0_:=Aside0.mk (Kd.R_elder' (by (with_reducible repeat (first | apply Kd.R_alloc | apply Kd.R_drewN | apply Kd.R_drew)); exact HO220.out) (Kd.R_base ho0) hb)
  have n1_:=Aside0.mk (Kd.R_elder' (by (with_reducible repeat (first | apply Kd.R_alloc | apply Kd.R_drewN | apply Kd.R_drew)); exact HO223.out) (Kd.R_base ho0) hb)
  have n2_:=Aside0.mk (Kd.R_lower (Kd.R_new' (Kd.R_new' ho0 (Kd.R_lt (by (with_reducible repeat (first | apply Kd.R_alloc | apply Kd.R_drewN | apply Kd.R_drew)); exact HO220.out))) (Kd.R_lt (by (with_reducible repeat (first | apply Kd.R_alloc | apply Kd.R_drewN | apply Kd.R_drew)); exact HO223.out))) (zaj (by repeat (first | (with_reducible first | exact HB.out | apply zab | apply zaa | apply zac | refine zad ?_ GE215.out | refine zad ?_ GE216.out) | exact HB.out))))
  have n3_:=Aside0.mk (zal (g:=gb215) (o:=.cells #[.bool false,.slice Ao52 t218.length co52,.slice Ao53 t221.length co53] 25 (0,0)) (by (with_reducible repeat (first | refine zaf ?_ _ | refine zah ?_ | refine zae ?_ _)); exact BK215.out) hb)
  have n4_:=Aside0.mk (zal (g:=gb216) (o:=.cells #[.bool false,.slice none 0 0,.slice none 0 0] 25 (0,0)) (by (with_reducible repeat (first | refine zaf ?_ _ | refine zah ?_ | refine zae ?_ _)); exact BK216.out) hb)
  have n5_:=Aside0.mk (zag (by repeat (first | (with_reducible first | exact HB.out | apply zab | apply zaa | apply zac | refine zad ?_ GE215.out | refine zad ?_ GE216.out) | exact HB.out)) hb)
  clear HO220
  clear HO223
  clear BK215
  clear BK216
  clear HB
  have HO220:=n0_
  have HO223:=n1_
  have HO238:=n2_
  have BK215:=n3_
  have BK216:=n4_
  have HB:=n5_
  clear n0_ n1_ n2_ n3_ n4_ n5_
  (try clear hb)
  (try clear hb2)
  (try clear hk)
  (try clear hi)
  (try clear ho0)
  refine hK.out _ _ ⟨(zai BK215.out 0).trans rfl,(zai BK215.out 1).trans rfl,(zai BK215.out 2).trans rfl⟩ (fun hHeld=>?_)
  clear hK K
  refine zaS (a':=?_) ?_ ?_
  rotate_left
  ·
   show Act.put _ (some 21) _=_
   simp only [Act.put,List.setIfInBounds_toArray,List.set_cons_zero,List.set_cons_succ,zaq,zar]
   rfl
  refine one_ (i:=18) (N:=some 25) #[true,true,true,true,true,true,true,true,true,true,true,true,true,true,true,true,true,true,true,false,false] rfl rfl (zaO HT_.out (by kernel_rfl)) (by decide) (fun K hK=>?_)
  refine za7 Try.func81 (by kernel_rfl) rfl #[.slice Ao53 t221.length co53,.int .i64 a1] (by rfl) rfl rfl (by (try simp only [List.map_toArray,List.map_cons,List.map_nil]); first | done | rfl | (simp only [List.length_drop,List.length_take]; rfl)) ?_
  with_reducible refine(quo_Pow.calls k _ _ t221 a1 t239 _ ?side1 ?side2 A45.out).mono ?_
  (case side1=>repeat (first | exact(Kd.R_reads' HO223.out).2.2 | (with_reducible refine Kd.C_alloc ?_ _) | (with_reducible refine Kd.C_drewN ?_ _) | (with_reducible refine Kd.C_drew ?_)))
  (case side2=>exact(Kd.R_reads' HO223.out).2.1)
  rintro e w57 ⟨v240,rfl,ho0,hb⟩
  refine⟨_,rfl,?_⟩
  have n0_:=Aside0.mk (Kd.R_elder' (by (with_reducible repeat (first | apply Kd.R_alloc | apply Kd.R_drewN | apply Kd.R_drew)); exact HO220.out) (Kd.R_base ho0) hb)
  have n1_:=Aside0.mk (Kd.R_elder' (by (with_reducible repeat (first | apply Kd.R_alloc | apply Kd.R_drewN | apply Kd.R_drew)); exact HO223.out) (Kd.R_base ho0) hb)
  have n2_:=Aside0.mk (Kd.R_elder' (by (with_reducible repeat (first | apply Kd.R_alloc | apply Kd.R_drewN | apply Kd.R_drew)); exact HO238.out) (Kd.R_base ho0) hb)
  have n3_:=Aside0.mk (Kd.R_lower (Kd.R_new' (Kd.R_new' (Kd.R_new' ho0 (Kd.R_lt (by (with_reducible repeat (first | apply Kd.R_alloc | apply Kd.R_drewN | apply Kd.R_drew)); exact HO220.out))) (Kd.R_lt (by (with_reducible repeat (first | apply Kd.R_alloc | apply Kd.R_drewN | apply Kd.R_drew)); exact HO223.out))) (Kd.R_lt (by (with_reducible repeat (first | apply Kd.R_alloc | apply Kd.R_drewN | apply Kd.R_drew)); exact HO238.out))) (zaj (by repeat (first | (with_reducible first | exact HB.out | apply zab | apply zaa | apply zac | refine zad ?_ GE215.out | refine zad ?_ GE216.out) | exact HB.out))))
  have n4_:=Aside0.mk (zal (g:=gb215) (o:=.cells #[.bool false,.slice Ao52 t218.length co52,.slice Ao53 t221.length co53] 25 (0,0)) (by (with_reducible repeat (first | refine zaf ?_ _ | refine zah ?_ | refine zae ?_ _)); exact BK215.out) hb)
  have n5_:=Aside0.mk (zal (g:=gb216) (o:=.cells #[.bool false,.slice none 0 0,.slice none 0 0] 25 (0,0)) (by (with_reducible repeat (first | refine zaf ?_ _ | refine zah ?_ | refine zae ?_ _)); exact BK216.out) hb)
  have n6_:=Aside0.mk (zag (by repeat (first | (with_reducible first | exact HB.out | apply zab | apply zaa | apply zac | refine zad ?_ GE215.out | refine zad ?_ GE216.out) | exact HB.out)) hb)
  clear HO220
  clear HO223
  clear HO238
  clear BK215
  clear BK216
  clear HB
  have HO220:=n0_
  have HO223:=n1_
  have HO238:=n2_
  have HO241:=n3_
  have BK215:=n4_
  have BK216:=n5_
  have HB:=n6_
  clear n0_ n1_ n2_ n3_ n4_ n5_ n6_
  (try clear hb)
  (try clear hb2)
  (try clear hk)
  (try clear hi)
  (try clear ho0)
  obtain⟨Ao58,co58,eo58⟩:=Kd.R_slice HO241.out
  (first | subst eo58 | (injection eo58 with f1_ f2_ f3_; have f4_:=f1_.symm; have f5_:=f3_.symm; clear f1_ f2_ f3_; subst f4_; subst f5_))
  obtain⟨Ao59,co59,eo59⟩:=Kd.R_slice HO238.out
  (first | subst eo59 | (injection eo59 with f1_ f2_ f3_; have f4_:=f1_.symm; have f5_:=f3_.symm; clear f1_ f2_ f3_; subst f4_; subst f5_))
  refine hK.out _ _ ⟨(zai BK215.out 0).trans rfl,(zai BK215.out 1).trans rfl,(zai BK215.out 2).trans rfl⟩ (fun hHeld=>?_)
  clear hK K
  refine zaS (a':=?_) ?_ ?_
  rotate_left
  ·
   show Act.put _ (some 25) _=_
   simp only [Act.put,List.setIfInBounds_toArray,List.set_cons_zero,List.set_cons_succ,zaq,zar]
   rfl
  refine zaA (i:=19) (N:=some 26) (v:=?_) (a':=?_) #[true,true,true,true,true,true,true,true,true,true,true,true,true,true,true,true,true,true,true,true,false] rfl rfl (zay HT_.out (by kernel_rfl)) (fun _ _ _ h=>h) (Or.inl ⟨by rfl,?_⟩) ?_ ?_
  rotate_left
  ·
   intro w'
   go_simp
   with_reducible rfl
  rotate_left
  ·
   simp only [Act.put,List.setIfInBounds_toArray,List.set_cons_zero,List.set_cons_succ,zaq,zar]
   rfl
  refine one_ (i:=20) (N:=none) #[true,true,true,true,true,true,true,true,true,true,true,true,true,true,true,true,true,true,true,true,true] rfl rfl (zaO HT_.out (by kernel_rfl)) (by decide) (fun K hK=>?_)
  have hs60:w57.cell? ⟨gb216,0,none⟩=some (.bool false):=(zai BK216.out 0).trans rfl
  have hfs60:=zak BK216.out 0
  have hns60_0:=NB215_216.out
  have hms60_0:=NB216_215.out
  have hs61:w57.cell? ⟨gb216,1,none⟩=some (.slice none 0 0):=(zai BK216.out 1).trans rfl
  have hfs61:=zak BK216.out 1
  have hns61_0:=NB215_216.out
  have hms61_0:=NB216_215.out
  have hs62:w57.cell? ⟨gb216,2,none⟩=some (.slice none 0 0):=(zai BK216.out 2).trans rfl
  have hfs62:=zak BK216.out 2
  have hns62_0:=NB215_216.out
  have hms62_0:=NB216_215.out
  refine skip_ (w1:=?_) (by rfl) rfl ?_ ?_
  rotate_left
  ·
   go_simp
   rfl
  refine hK.out _ _ ⟨((cell_far (p:=⟨gb216,_,none⟩) NB215_216.out _).trans (((cell_far (p:=⟨gb216,_,none⟩) NB215_216.out _).trans (((cell_far (p:=⟨gb216,_,none⟩) NB215_216.out _).trans (hHeld.1)))))),((cell_far (p:=⟨gb216,_,none⟩) NB215_216.out _).trans (((cell_far (p:=⟨gb216,_,none⟩) NB215_216.out _).trans (((cell_far (p:=⟨gb216,_,none⟩) NB215_216.out _).trans (hHeld.2.1)))))),((cell_far (p:=⟨gb216,_,none⟩) NB215_216.out _).trans (((cell_far (p:=⟨gb216,_,none⟩) NB215_216.out _).trans (((cell_far (p:=⟨gb216,_,none⟩) NB215_216.out _).trans (hHeld.2.2))))))⟩ (fun hHeld=>?_)
  clear hK K
  refine done_ (done_of HT_.out (by kernel_rfl)) ?_
  try go_wp2
  refine bodyPost_ret (results_cell_row rfl _ _ gb216 25 #[.bool false,.slice Ao59 t236.length co59,.slice Ao58 t239.length co58] (0,0) _ rfl (by (with_reducible repeat (first | refine zaf ?_ _ | refine zah ?_ | refine zae ?_ _)); refine zau (cs:=#[.bool false,.slice Ao59 t236.length co59,.slice none 0 0]) ?_ 2 _ rfl; (with_reducible repeat (first | refine zaf ?_ _ | refine zah ?_ | refine zae ?_ _)); refine zau (cs:=#[.bool false,.slice none 0 0,.slice none 0 0]) ?_ 1 _ rfl; (with_reducible repeat (first | refine zaf ?_ _ | refine zah ?_ | refine zae ?_ _)); refine zau (cs:=#[.bool false,.slice none 0 0,.slice none 0 0]) ?_ 0 _ rfl; (with_reducible repeat (first | refine zaf ?_ _ | refine zah ?_ | refine zae ?_ _)); exact BK216.out) Try.underlying25 rfl (by kernel_rfl)) rfl ?_
  exact⟨_,_,by first | rfl | (simp [zan,zao]<;>rfl) | (simp [*,zan,zao]<;>rfl),by (with_reducible repeat (first | apply Kd.R_alloc | apply Kd.R_drewN | apply Kd.R_drew)); exact Kd.R_mono (Kd.R_far (p:=⟨gb216,2,none⟩) (Kd.R_far (p:=⟨gb216,1,none⟩) (Kd.R_far (p:=⟨gb216,0,none⟩) (Kd.R_types HO238.out BK216.out (by decide)) (fun _ hk=>hk.2) (.bool false)) (fun _ hk=>hk.2) (.slice Ao59 t236.length co59)) (fun _ hk=>hk.2) (.slice Ao58 t239.length co58)) (fun _ hk=>hk.1.2),by (with_reducible repeat (first | apply Kd.R_alloc | apply Kd.R_drewN | apply Kd.R_drew)); exact Kd.R_mono (Kd.R_far (p:=⟨gb216,2,none⟩) (Kd.R_far (p:=⟨gb216,1,none⟩) (Kd.R_far (p:=⟨gb216,0,none⟩) (Kd.R_types HO241.out BK216.out (by decide)) (fun _ hk=>hk.2) (.bool false)) (fun _ hk=>hk.2) (.slice Ao59 t236.length co59)) (fun _ hk=>hk.2) (.slice Ao58 t239.length co58)) (fun _ hk=>hk.1.2),by repeat (first | (with_reducible first | exact HB.out | apply zab | apply zaa | apply zac | refine zad ?_ GE215.out | refine zad ?_ GE216.out) | exact HB.out)⟩
end Go.Proofs.Ytehghijlchpeaaa.J
end
end
section
namespace Go.Proofs.Ytehghijlchpeaaa.Nat1
open Go.RowKit Go.Proofs.YtehghijlchpeaaaW.PrintWords Go.Proofs.YtehghijlchpeaaaW.PrintLast Go.Proofs.YtehghijlchpeaaaW.PrintMore Go.Proofs.Ytehghijlchpeaaa.L Go.Proofs.Ytehghijlchpeaaa.Nt Go.Proofs.Ytehghijlchpeaaa.Ev
set_option linter.unusedVariables false
set_option linter.unusedSimpArgs false
set_option linter.unusedSectionVars false
def IR (b:Nat) (w:World) (v:Value):Prop :=
 v=.slice none 0 0∨∃ (g n cap:Nat) (cur:Array Value),v=.slice (some ⟨g,0,none⟩) n cap∧b≤g∧w.heap[g]? = some (.cells cur 63 (0,0))∧n≤cap∧cap≤maxLen∧∀ k,k < n→∃ z,cur[k]? = some (.int .u32 z)
theorem IR.of_R {w:World} {base b:Nat} {P:Nat→Prop} {v:Value} {xs:List Int} (h:Kd.R (Kd.int .u32) 63 w base P v xs) (hb:b≤base):IR b w v:=by
 obtain⟨hl,h⟩:=Kd.own_of_R h
 rcases h with ⟨rfl,h0⟩ | ⟨g,cap,cur,rfl,hg,hc,hn,hm,hs,ht⟩
 ·
  exact Or.inl rfl
 ·
  refine Or.inr ⟨g,xs.length,cap,cur,rfl,Nat.le_trans hb hg,hc,hn,hm,fun k hk=>⟨xs[k],?_⟩⟩
  have h1:(encs (Value.int .u32) xs)[k]? = some (.int .u32 xs[k]):=by simp [encs,hk]
  rw [← ht,Nat.mul_one,List.getElem?_take_of_lt hk] at h1
  rw [← Array.getElem?_toList]
  exact h1
theorem IR.below {b:Nat} {w w':World} {v:Value} (h:IR b w v) (hb:Below w.heap.size w w'):IR b w' v:=by
 rcases h with rfl | ⟨g,n,cap,cur,rfl,h1,h2,h3,h4,h5⟩
 ·
  exact Or.inl rfl
 ·
  exact Or.inr ⟨g,n,cap,cur,rfl,h1,zal h2 hb,h3,h4,h5⟩
theorem IR.set {b:Nat} {w:World} {v:Value} (h:IR b w v) {g:Nat} {cs:Array Value} (hg:w.heap[g]? = some (.cells cs 63 (0,0))) (k:Nat) (z:Int):IR b (w.setCell ⟨g,k,none⟩ (.int .u32 z)) v:=by
 rcases h with rfl | ⟨g',n,cap,cur,rfl,h1,h2,h3,h4,h5⟩
 ·
  exact Or.inl rfl
 ·
  by_cases e:g'=g
  ·
   subst e
   rw [h2] at hg
   injection hg with hg
   injection hg with hg
   subst hg
   refine Or.inr ⟨g',n,cap,_,rfl,h1,blk_set h2 k _,h3,h4,fun j hj=>?_⟩
   obtain⟨y,hy⟩:=h5 j hj
   rw [Array.getElem?_setIfInBounds]
   split
   ·
    split
    ·
     exact⟨z,rfl⟩
    ·
     rename_i e1 e2
     subst e1
     rw [Array.getElem?_eq_none (by omega)] at hy
     exact absurd hy (by simp)
   ·
    exact⟨y,hy⟩
  ·
   exact Or.inr ⟨g',n,cap,cur,rfl,h1,zaB h2 e _,h3,h4,h5⟩
def IPost (b:Nat) (W:World) (e:Ending) (w':World):Prop :=
 ∃ (n:Bool) (A:Option Addr) (m c:Nat) (B:Option Addr) (k d:Nat),e=.returned (.agg #[.bool n,.slice A m c,.slice B k d])∧IR b w' (.slice A m c)∧IR b w' (.slice B k d)∧Below W.heap.size W w'
theorem RTPost.ip {b:Nat} {W:World} {X:QN} {e:Ending} {w':World} (h:RTPost W X e w') (hb:b≤W.heap.size):IPost b W e w':=by
 obtain⟨v,rfl,hR,hB⟩:=h
 obtain⟨A1,c1,A2,c2,rfl,R1,R2⟩:=hR.args
 exact⟨_,_,_,_,_,_,_,rfl,IR.of_R R1 hb,IR.of_R R2 hb,hB⟩
def IEPost (b:Nat) (W:World) (e:Ending) (w':World):Prop :=
 ∃ (n:Bool) (A:Option Addr) (m c:Nat) (B:Option Addr) (k d:Nat) (x:Int),e=.returned (.tuple #[.agg #[.bool n,.slice A m c,.slice B k d],.int .i64 x])∧IR b w' (.slice A m c)∧IR b w' (.slice B k d)∧Below W.heap.size W w'
theorem MakePost.ip {b:Nat} {W:World} {r:Bool×List Int×List Int×Int} {e:Ending} {w':World} (h:MakePost W r e w') (hb:b≤W.heap.size):IEPost b W e w':=by
 obtain⟨v1,v2,rfl,R1,R2,hB⟩:=h
 obtain⟨A1,c1,rfl⟩:=Kd.R_slice R1
 obtain⟨A2,c2,rfl⟩:=Kd.R_slice R2
 exact⟨_,_,_,_,_,_,_,_,rfl,IR.of_R R1 hb,IR.of_R R2 hb,hB⟩
theorem pow1 {n:Nat} (h:okD (dg B32 n)):∃ k,∀ k',k≤k'→H.quo_Pow.f k' (dg B32 n) 1=some (dg B32 n):=by
 have h1:okD (dg B32 1):=⟨dg_ok zam _,by have:=zaE (k:=1) zam (show 1 < B32 ^ 1 by decide); omega⟩
 obtain⟨k,hk⟩:=mul_spec h1 h
 refine⟨k+2,fun k' hk'=>?_⟩
 obtain⟨j,rfl⟩:∃ j,k'=j+2:=⟨k'-2,by omega⟩
 have e1:=hk (j+1) (by omega)
 rw [zaz zam,zaz zam,Nat.one_mul] at e1
 rw [H.quo_Pow.f,nat_Of.f,if_pos (by omega),Option.bind_some,nat_Trim.f,if_pos h.okL,Option.bind_some,zaz zam]
 rw [show (1:Int).toNat=1 from rfl,H.quo_Pow.l0,if_pos (by omega),if_pos (by decide),e1,Option.bind_some,if_neg (by omega),H.quo_Pow.l0,if_neg (by decide)]
theorem pow1_n {W:World} {u:Value} {X:QN} (hu:NR W u X):Calls Try.prog 48 #[u,.int .i64 1] W (RTPost W X):=by
 have kX:=okQ_D hu.okQ
 obtain⟨n,A1,c1,p,A2,c2,q,rfl,h1,h2,e⟩:=hu
 obtain⟨k1,hk1⟩:=pow1 kX.1
 obtain⟨k2,hk2⟩:=pow1 kX.2
 refine(J.rat_Pow.calls (k1+k2) n A1 c1 p A2 c2 q 1 X.1 (dg B32 X.2.1) (dg B32 X.2.2) W h1.1 h1.2.1 h2.1 h2.2.1 ?_).mono ?_
 ·
  unfold J.rat_Pow.f
  rw [norm_f h1.2.2.okD h2.2.2.okD,Option.bind_some,e]
  simp only []
  rw [hk1 _ (by omega),Option.bind_some,hk2 _ (by omega),Option.bind_some]
  cases X.1<;>rfl
 ·
  rintro e w' ⟨v1,v2,rfl,R1,R2,hb⟩
  exact⟨_,rfl,⟨v1,v2,rfl,Kd.R_mono R1 (fun _ _=>trivial),Kd.R_mono R2 (fun _ _=>trivial)⟩,hb⟩
def ORT (w:World) (b:Nat) (v:Value) (n:Bool) (p q:List Int):Prop :=
 ∃ v1 v2:Value,v=.agg #[.bool n,v1,v2]∧Kd.R (Kd.int .u32) 63 w b (fun _=>True) v1 p∧Kd.R (Kd.int .u32) 63 w b (fun _=>True) v2 q
theorem ORT.below {w w':World} {b:Nat} {v:Value} {n:Bool} {p q:List Int} (h:ORT w b v n p q) (hb:Below w.heap.size w w'):ORT w' b v n p q:=by
 obtain⟨v1,v2,e,h1,h2⟩:=h
 exact⟨v1,v2,e,Kd.R_below h1 hb,Kd.R_below h2 hb⟩
theorem ORT.store3 {W:World} {b g:Nat} {v:Value} {n:Bool} {p q:List Int} {cs:Array Value} (h:ORT W b v n p q) (hg:W.heap[g]? = some (.cells cs 25 (0,0))) (x y z:Value):ORT (store3 W g x y z) b v n p q:=by
 obtain⟨v1,v2,e,h1,h2⟩:=h
 exact⟨v1,v2,e,zbr h1 hg _ _ _,zbr h2 hg _ _ _⟩
theorem R_NL {w:World} {base:Nat} {P:Nat→Prop} {v:Value} {l:List Int} (h:Kd.R (Kd.int .u32) 63 w base P v l):NL w v l:=by
 obtain⟨A,c,rfl⟩:=Kd.R_slice h
 exact⟨A,c,rfl,(Kd.R_reads' h).2.2,(Kd.R_reads' h).2.1⟩
theorem ORT.nl {W:World} {b:Nat} {n m:Bool} {v1 v2:Value} {p q:List Int} (h:ORT W b (.agg #[.bool m,v1,v2]) n p q):NL W v1 p∧NL W v2 q:=by
 obtain⟨u1,u2,e,h1,h2⟩:=h
 injection e with e
 injection e with e
 injection e with _ e
 injection e with e1 e
 injection e with e2 _
 subst e1
 subst e2
 exact⟨R_NL h1,R_NL h2⟩
theorem ORT.nr {W:World} {b:Nat} {n:Bool} {v:Value} {p q:List Int} (h:ORT W b v n p q) (hp:okS p) (hq:okS q):NR W v (nrm n (val B32 p) (val B32 q)):=by
 obtain⟨u1,u2,rfl,h1,h2⟩:=h
 exact NR.of (R_NL h1) (R_NL h2) hp hq
theorem ownR_n2 {W:World} {n:Bool} {u v:Value} {p q:List Int} (hu:NL W u p) (hv:NL W v q) (hp:okS p) (hq:okS q):Calls Try.prog 17 #[.agg #[.bool n,u,v]] W fun e w'=>∃ v1 v2,e=.returned (.agg #[.bool n,v1,v2])∧Kd.R (Kd.int .u32) 63 w' W.heap.size (fun _=>True) v1 p∧Kd.R (Kd.int .u32) 63 w' W.heap.size (fun _=>True) v2 q∧Below W.heap.size W w':=by
 obtain⟨A1,c1,rfl,a1,b1⟩:=hu
 obtain⟨A2,c2,rfl,a2,b2⟩:=hv
 refine(ownR_q n A1 c1 p A2 c2 q W a1 b1 a2 b2 (Nat.le_trans hp.2 (by decide)) (Nat.le_trans hq.2 (by decide))).mono ?_
 rintro e w' ⟨v1,v2,rfl,R1,R2,hB⟩
 exact⟨v1,v2,rfl,Kd.R_mono R1 (fun _ _=>trivial),Kd.R_mono R2 (fun _ _=>trivial),hB⟩
structure RL (W8:World) (gl:Nat) (LC:Array Value) (w:World):Prop where
 bl:w.heap[gl]? = some (.cells LC 25 (0,0))
 nr:∀ i,i < 8→IR W8.heap.size w (LC.getD (i*3+1) undef)
 dr:∀ i,i < 8→IR W8.heap.size w (LC.getD (i*3+2) undef)
 be:Below W8.heap.size W8 w
theorem RL.below {W8 w w':World} {gl:Nat} {LC:Array Value} (h:RL W8 gl LC w) (hb:Below w.heap.size w w'):RL W8 gl LC w' :=
 ⟨zal h.bl hb,fun i hi=>(h.nr i hi).below hb,fun i hi=>(h.dr i hi).below hb,zag h.be hb⟩
theorem RL.set {W8 w:World} {gl:Nat} {LC:Array Value} (h:RL W8 gl LC w) {g:Nat} {cs:Array Value} (hg:w.heap[g]? = some (.cells cs 63 (0,0))) (hb:W8.heap.size≤g) (k:Nat) (z:Int):RL W8 gl LC (w.setCell ⟨g,k,none⟩ (.int .u32 z)) :=
 ⟨zaB h.bl (blk_ne h.bl hg (by decide)) _,fun i hi=>(h.nr i hi).set hg k z,fun i hi=>(h.dr i hi).set hg k z,zad h.be hb⟩
theorem RL.cell {W8 w:World} {gl:Nat} {LC:Array Value} (h:RL W8 gl LC w) (hs:LC.size=24) (j:Nat) (hj:j < 24):w.cell? ⟨gl,j,none⟩=some (LC.getD j undef):=by
 rw [zai h.bl,Array.getElem?_eq_getElem (by omega),Array.getD_eq_getD_getElem?,Array.getElem?_eq_getElem (by omega)]
 rfl
theorem IR.form {b:Nat} {w:World} {v:Value} (h:IR b w v):∃ (A:Option Addr) (n cap:Nat),v=.slice A n cap∧n≤9223372036854775807:=by
 rcases h with rfl | ⟨g,n,cap,cur,rfl,h1,h2,h3,h4,h5⟩
 ·
  exact⟨none,0,0,rfl,by omega⟩
 ·
  exact⟨_,n,cap,rfl,Nat.le_trans h3 (Nat.le_trans h4 (by decide))⟩
theorem IR.elem {b:Nat} {w:World} {A:Option Addr} {n cap k:Nat} (h:IR b w (.slice A n cap)) (hk:k < n):∃ (g:Nat) (cur:Array Value) (z:Int),A=some ⟨g,0,none⟩∧b≤g∧w.heap[g]? = some (.cells cur 63 (0,0))∧cur[k]? = some (.int .u32 z):=by
 rcases h with e | ⟨g,n',cap',cur,e,h1,h2,h3,h4,h5⟩
 ·
  injection e with e1 e2 e3
  omega
 ·
  injection e with e1 e2 e3
  subst e2
  obtain⟨z,hz⟩:=h5 k hk
  exact⟨g,cur,z,e1,h1,h2,hz⟩
end Go.Proofs.Ytehghijlchpeaaa.Nat1
end
section
namespace Go.Proofs.Ytehghijlchpeaaa.Nat1
open Go.RowKit Go.Proofs.YtehghijlchpeaaaW.PrintWords Go.Proofs.YtehghijlchpeaaaW.PrintLast Go.Proofs.YtehghijlchpeaaaW.PrintMore Go.Proofs.Ytehghijlchpeaaa.L Go.Proofs.Ytehghijlchpeaaa.Nt Go.Proofs.Ytehghijlchpeaaa.Ev
set_option linter.unusedVariables false
set_option linter.unusedSimpArgs false
set_option linter.unusedSectionVars false
def ratOwn.T3:Bool×List (List Nat×List Nat):=(true,[([],[]),([0],[0]),([],[]),([2,1],[2]),([],[]),([],[]),([4,1,3,0,1,4,5],[1,4]),([5,3,6,0,1,2,3,4,5,6],[3,5])])
def ratOwn.B3:List Nat:=[0,1,0,7,0,0,63,127]
theorem ratOwn.tab3:rtab .any (opsOf Try.f11 3)=ratOwn.T3:=by kernel_rfl
theorem ratOwn.bits3:waitsOk ratOwn.T3.2 ratOwn.B3=true:=by kernel_rfl
def ratOwn.T6:Bool×List (List Nat×List Nat):=(true,[([],[]),([0],[0]),([],[]),([],[]),([2,3,1],[2,3]),([],[]),([],[]),([5,6,4],[5,6]),([],[]),([],[]),([8,9,7],[8,9]),([],[]),([11,10],[11]),([],[]),([13,12],[13]),([],[]),([],[]),([1,4,7,10,12,14,15,16],[1,4,7,10,12,14,15,16]),([17,14,0,1,2,3,4,5,6,7,8,9,10,11,12,13,14,15,16,17],[17])])
def ratOwn.B6:List Nat:=[0,1,0,0,15,0,0,127,0,0,1023,0,4095,0,16383,0,0,131071,262143]
theorem ratOwn.tab6:rtab .any (opsOf Try.f11 6)=ratOwn.T6:=by kernel_rfl
theorem ratOwn.bits6:waitsOk ratOwn.T6.2 ratOwn.B6=true:=by kernel_rfl
def ratOwn.T13:Bool×List (List Nat×List Nat):=(true,[([],[]),([],[]),([0,1],[0,1]),([2],[2]),([3],[3]),([],[]),([],[]),([],[]),([6,7],[6,7]),([8],[8]),([9],[9]),([],[]),([10,11],[10,11]),([12],[12]),([13],[13]),([4,5,0,1,2,3,4,5,6,7,8,9,10,11,12,13,14],[4,5]),([15,14,0,1,2,3,4,5,6,7,8,9,10,11,12,13,14],[14,15])])
def ratOwn.B13:List Nat:=[0,0,3,7,15,0,0,0,192,448,960,0,4032,8128,16320,32767,65535]
theorem ratOwn.tab13:rtab .any (opsOf Try.f11 13)=ratOwn.T13:=by kernel_rfl
theorem ratOwn.bits13:waitsOk ratOwn.T13.2 ratOwn.B13=true:=by kernel_rfl
def ratOwn.T17:Bool×List (List Nat×List Nat):=(true,[([],[]),([],[]),([0,1],[0,1]),([2],[2]),([3],[3]),([],[]),([],[]),([],[]),([6,7],[6,7]),([8],[8]),([9],[9]),([],[]),([10,11],[10,11]),([12],[12]),([13],[13]),([4,5,0,1,2,3,4,5,6,7,8,9,10,11,12,13,14],[4,5]),([15,14,0,1,2,3,4,5,6,7,8,9,10,11,12,13,14],[14,15])])
def ratOwn.B17:List Nat:=[0,0,3,7,15,0,0,0,192,448,960,0,4032,8128,16320,32767,65535]
theorem ratOwn.tab17:rtab .any (opsOf Try.f11 17)=ratOwn.T17:=by kernel_rfl
theorem ratOwn.bits17:waitsOk ratOwn.T17.2 ratOwn.B17=true:=by kernel_rfl
set_option maxHeartbeats 8000000 in
set_option maxRecDepth 100000 in
theorem ratOwn_q (n1:Bool) (Aa1:Option Addr) (ca1:Nat) (p1:List Int) (Ab1:Option Addr) (cb1:Nat) (q1:List Int) (n2:Bool) (Aa2:Option Addr) (ca2:Nat) (p2:List Int) (Ab2:Option Addr) (cb2:Nat) (q2:List Int) (w:World) (hr_p1:Kd.C (Kd.int .u32) w Aa1 p1.length p1) (hc_p1:p1.length≤ca1) (ho_p1:ok B32 p1) (hr_q1:Kd.C (Kd.int .u32) w Ab1 q1.length q1) (hc_q1:q1.length≤cb1) (ho_q1:ok B32 q1) (hr_p2:Kd.C (Kd.int .u32) w Aa2 p2.length p2) (hc_p2:p2.length≤ca2) (ho_p2:ok B32 p2) (hr_q2:Kd.C (Kd.int .u32) w Ab2 q2.length q2) (hc_q2:q2.length≤cb2) (ho_q2:ok B32 q2) :
  Calls Try.prog 11 #[.agg #[.bool n1,.slice Aa1 p1.length ca1,.slice Ab1 q1.length cb1],.agg #[.bool n2,.slice Aa2 p2.length ca2,.slice Ab2 q2.length cb2]] w fun e w'=>e=.returned (.bool true)∧Below w.heap.size w w':=by
 have hu25:=Try.underlying25
 have HF0:=Aside0.mk (fun (g:Nat) (t:TypeId) (W:World) hg (hb:Below w.heap.size w W)=>few_q [(Aa1,ca1,p1),(Ab1,cb1,q1),(Aa2,ca2,p2),(Ab2,cb2,q2)] g t W hg (by
  intro x hx
  simp only [List.mem_cons,List.not_mem_nil,or_false] at hx
  rcases hx with rfl | rfl | rfl | rfl
  ·
   exact⟨Kd.C_below hr_p1 hb,hc_p1⟩
  ·
   exact⟨Kd.C_below hr_q1 hb,hc_q1⟩
  ·
   exact⟨Kd.C_below hr_p2 hb,hc_p2⟩
  ·
   exact⟨Kd.C_below hr_q2 hb,hc_q2⟩
  ) (by simp))
 cases hfb:fewB [p1,q1,p2,q2] with
 | false =>
  simp only [List.map_cons,List.map_nil,hfb] at HF0
  clear hfb hr_p1 ho_p1 hr_q1 ho_q1 hr_p2 ho_p2 hr_q2 ho_q2
  go_enter Try.func11,Try.ntmps11
  go_wp2_with fail
  have hg:=zbp ((w.alloc (.cells #[.bool n1,.slice Aa1 p1.length ca1,.slice Ab1 q1.length cb1] 25)).alloc (.cells #[.bool n2,.slice Aa2 p2.length ca2,.slice Ab2 q2.length cb2] 25)) (.cells #[.slice Aa1 p1.length ca1,.slice Ab1 q1.length cb1,.slice Aa2 p2.length ca2,.slice Ab2 q2.length cb2] 23)
  rw [show ((w.alloc (.cells #[.bool n1,.slice Aa1 p1.length ca1,.slice Ab1 q1.length cb1] 25)).alloc (.cells #[.bool n2,.slice Aa2 p2.length ca2,.slice Ab2 q2.length cb2] 25)).heap.size=w.heap.size+1+1 by simp] at hg
  have hbw:Below w.heap.size w (((w.alloc (.cells #[.bool n1,.slice Aa1 p1.length ca1,.slice Ab1 q1.length cb1] 25)).alloc (.cells #[.bool n2,.slice Aa2 p2.length ca2,.slice Ab2 q2.length cb2] 25)).alloc (.cells #[.slice Aa1 p1.length ca1,.slice Ab1 q1.length cb1,.slice Aa2 p2.length ca2,.slice Ab2 q2.length cb2] 23)):=zab (zab (zab (Below.refl _ _) _) _) _
  generalize ((w.alloc (.cells #[.bool n1,.slice Aa1 p1.length ca1,.slice Ab1 q1.length cb1] 25)).alloc (.cells #[.bool n2,.slice Aa2 p2.length ca2,.slice Ab2 q2.length cb2] 25)).alloc (.cells #[.slice Aa1 p1.length ca1,.slice Ab1 q1.length cb1,.slice Aa2 p2.length ca2,.slice Ab2 q2.length cb2] 23)=W1 at hg hbw ⊢
  refine(HF0.out _ _ W1 hg hbw).mono ?_
  rintro e w2 ⟨rfl,hd⟩
  obtain⟨m,rfl⟩:=hd.out
  have HB:=Aside0.mk (zaa hbw m)
  clear hg hbw hd
  go_wp2_with fail
  refine(known_q _).mono ?_
  rintro e w3 ⟨rfl,hB⟩
  have HB2:=Aside0.mk (zag HB.out hB)
  clear hB
  go_wp2
  go_ret
  exact⟨rfl,HB2.out⟩
 | true =>
  have hl:p1.length≤60∧q1.length≤60∧p2.length≤60∧q2.length≤60:=by simpa [fewB] using hfb
  have HM10:=Aside0.mk (show ∀ W:World,Below w.heap.size w W→NL W (.slice Aa1 p1.length ca1) p1 from fun W hb=>⟨_,_,rfl,Kd.C_below hr_p1 hb,hc_p1⟩)
  have HM11:=Aside0.mk (show ∀ W:World,Below w.heap.size w W→NL W (.slice Ab1 q1.length cb1) q1 from fun W hb=>⟨_,_,rfl,Kd.C_below hr_q1 hb,hc_q1⟩)
  have HM20:=Aside0.mk (show ∀ W:World,Below w.heap.size w W→NL W (.slice Aa2 p2.length ca2) p2 from fun W hb=>⟨_,_,rfl,Kd.C_below hr_p2 hb,hc_p2⟩)
  have HM21:=Aside0.mk (show ∀ W:World,Below w.heap.size w W→NL W (.slice Ab2 q2.length cb2) q2 from fun W hb=>⟨_,_,rfl,Kd.C_below hr_q2 hb,hc_q2⟩)
  have HS_p1:=Aside0.mk (okS60 ho_p1 hl.1)
  have HS_q1:=Aside0.mk (okS60 ho_q1 hl.2.1)
  have HS_p2:=Aside0.mk (okS60 ho_p2 hl.2.2.1)
  have HS_q2:=Aside0.mk (okS60 ho_q2 hl.2.2.2)
  simp only [List.map_cons,List.map_nil,hfb] at HF0
  clear hfb hl hr_p1 ho_p1 hr_q1 ho_q1 hr_p2 ho_p2 hr_q2 ho_q2
  go_enter Try.func11,Try.ntmps11
  go_wp2_with fail
  have hg:=zbp ((w.alloc (.cells #[.bool n1,.slice Aa1 p1.length ca1,.slice Ab1 q1.length cb1] 25)).alloc (.cells #[.bool n2,.slice Aa2 p2.length ca2,.slice Ab2 q2.length cb2] 25)) (.cells #[.slice Aa1 p1.length ca1,.slice Ab1 q1.length cb1,.slice Aa2 p2.length ca2,.slice Ab2 q2.length cb2] 23)
  rw [show ((w.alloc (.cells #[.bool n1,.slice Aa1 p1.length ca1,.slice Ab1 q1.length cb1] 25)).alloc (.cells #[.bool n2,.slice Aa2 p2.length ca2,.slice Ab2 q2.length cb2] 25)).heap.size=w.heap.size+1+1 by simp] at hg
  have hx1:=zae (zae (zbp w (.cells #[.bool n1,.slice Aa1 p1.length ca1,.slice Ab1 q1.length cb1] 25)) (.cells #[.bool n2,.slice Aa2 p2.length ca2,.slice Ab2 q2.length cb2] 25)) (.cells #[.slice Aa1 p1.length ca1,.slice Ab1 q1.length cb1,.slice Aa2 p2.length ca2,.slice Ab2 q2.length cb2] 23)
  have hx2:=zae (zbp (w.alloc (.cells #[.bool n1,.slice Aa1 p1.length ca1,.slice Ab1 q1.length cb1] 25)) (.cells #[.bool n2,.slice Aa2 p2.length ca2,.slice Ab2 q2.length cb2] 25)) (.cells #[.slice Aa1 p1.length ca1,.slice Ab1 q1.length cb1,.slice Aa2 p2.length ca2,.slice Ab2 q2.length cb2] 23)
  rw [show (w.alloc (.cells #[.bool n1,.slice Aa1 p1.length ca1,.slice Ab1 q1.length cb1] 25)).heap.size=w.heap.size+1 by simp] at hx2
  have hbw:Below w.heap.size w (((w.alloc (.cells #[.bool n1,.slice Aa1 p1.length ca1,.slice Ab1 q1.length cb1] 25)).alloc (.cells #[.bool n2,.slice Aa2 p2.length ca2,.slice Ab2 q2.length cb2] 25)).alloc (.cells #[.slice Aa1 p1.length ca1,.slice Ab1 q1.length cb1,.slice Aa2 p2.length ca2,.slice Ab2 q2.length cb2] 23)):=zab (zab (zab (Below.refl _ _) _) _) _
  generalize ((w.alloc (.cells #[.bool n1,.slice Aa1 p1.length ca1,.slice Ab1 q1.length cb1] 25)).alloc (.cells #[.bool n2,.slice Aa2 p2.length ca2,.slice Ab2 q2.length cb2] 25)).alloc (.cells #[.slice Aa1 p1.length ca1,.slice Ab1 q1.length cb1,.slice Aa2 p2.length ca2,.slice Ab2 q2.length cb2] 23)=W1 at hg hbw hx1 hx2 ⊢
  refine(HF0.out _ _ W1 hg hbw).mono ?_
  rintro e w2 ⟨rfl,hd⟩
  obtain⟨m,rfl⟩:=hd.out
  have HB2:=Aside0.mk (zaa hbw m)
  have HX1:=Aside0.mk (zaf hx1 m)
  obtain⟨⟨x10,x11,x12⟩,y10,y11,y12⟩:=zat HX1.out
  have HX2:=Aside0.mk (zaf hx2 m)
  obtain⟨⟨x20,x21,x22⟩,y20,y21,y22⟩:=zat HX2.out
  clear hg hbw hd HF0 hx1 hx2
  go_wp2_with fail
  generalize W1.drewN m=W2 at HB2 HX1 HX2 ⊢
  clear x10 x11 x12 y10 y11 y12
  clear x20 x21 x22 y20 y21 y22
  have HF:Aside0 (∀ w':World,Below W2.heap.size W2 w'→(w'.cell? ⟨w.heap.size,0,none⟩=some (.bool n1)∧w'.cell? ⟨w.heap.size,1,none⟩=some (.slice Aa1 p1.length ca1)∧w'.cell? ⟨w.heap.size,2,none⟩=some (.slice Ab1 q1.length cb1)∧w'.cell? ⟨w.heap.size+1,0,none⟩=some (.bool n2)∧w'.cell? ⟨w.heap.size+1,1,none⟩=some (.slice Aa2 p2.length ca2)∧w'.cell? ⟨w.heap.size+1,2,none⟩=some (.slice Ab2 q2.length cb2))∧Below w.heap.size w w'):=⟨fun W hb=>⟨⟨(zai (zal HX1.out hb) 0).trans rfl,(zai (zal HX1.out hb) 1).trans rfl,(zai (zal HX1.out hb) 2).trans rfl,(zai (zal HX2.out hb) 0).trans rfl,(zai (zal HX2.out hb) 1).trans rfl,(zai (zal HX2.out hb) 2).trans rfl⟩,zag HB2.out hb⟩⟩
  refine start_ (n:=8) (S:=fun w'=>(w'.cell? ⟨w.heap.size,0,none⟩=some (.bool n1)∧w'.cell? ⟨w.heap.size,1,none⟩=some (.slice Aa1 p1.length ca1)∧w'.cell? ⟨w.heap.size,2,none⟩=some (.slice Ab1 q1.length cb1)∧w'.cell? ⟨w.heap.size+1,0,none⟩=some (.bool n2)∧w'.cell? ⟨w.heap.size+1,1,none⟩=some (.slice Aa2 p2.length ca2)∧w'.cell? ⟨w.heap.size+1,2,none⟩=some (.slice Ab2 q2.length cb2))) (ds:=[6,7]) #[false,false,false,false,false,false,false,false] (by kernel_rfl) rfl rfl ((HF.out _ (zac (Below.refl _ _))).1) (fun hHeld=>?_)
  have hb0:=Aside0.mk (show Below W2.heap.size W2 W2.drew from zac (Below.refl _ _))
  generalize W2.drew=V0 at hb0 hHeld ⊢
  refine with_tabW ratOwn.tab3 ratOwn.bits3 (fun HT_ HW_=>?_)
  refine take_ (i:=0) (N:=some 27) (v:=?_) (a':=?_) #[true,false,false,false,false,false,false,false] rfl rfl (zaQ HT_.out HW_.out (by kernel_rfl)) (fun _ _ _ h=>h) (Or.inl ⟨by rfl,?_⟩) hHeld ?_ ?_
  rotate_left
  ·
   intro w' s0
   go_simp
   with_reducible rfl
  rotate_left
  ·
   simp only [Act.put,List.setIfInBounds_toArray,List.set_cons_zero,List.set_cons_succ,zaq,zar]
   rfl
  refine take_ (i:=2) (N:=some 29) (v:=?_) (a':=?_) #[true,false,true,false,false,false,false,false] rfl rfl (zaQ HT_.out HW_.out (by kernel_rfl)) (fun _ _ _ h=>h) (Or.inl ⟨by rfl,?_⟩) hHeld ?_ ?_
  rotate_left
  ·
   intro w' s0
   go_simp
   with_reducible rfl
  rotate_left
  ·
   simp only [Act.put,List.setIfInBounds_toArray,List.set_cons_zero,List.set_cons_succ,zaq,zar]
   rfl
  refine join_ (σ:=Option Addr×Nat×Option Addr×Nat×Option Addr×Nat×Option Addr×Nat×Nat×Nat) 2 #[true,true,true,true,true,true,false,false] (fun s=>[(28,.agg #[.bool n1,.slice s.1 p1.length s.2.1,.slice s.2.2.1 q1.length s.2.2.2.1]),(30,.agg #[.bool n2,.slice s.2.2.2.2.1 p2.length s.2.2.2.2.2.1,.slice s.2.2.2.2.2.2.1 q2.length s.2.2.2.2.2.2.2.1]),(5,.pointer (some ⟨s.2.2.2.2.2.2.2.2.1,0,none⟩)),(6,.pointer (some ⟨s.2.2.2.2.2.2.2.2.2,0,none⟩))]) (fun s w'=>(w'.cell? ⟨w.heap.size,0,none⟩=some (.bool n1)∧w'.cell? ⟨w.heap.size,1,none⟩=some (.slice Aa1 p1.length ca1)∧w'.cell? ⟨w.heap.size,2,none⟩=some (.slice Ab1 q1.length cb1)∧w'.cell? ⟨w.heap.size+1,0,none⟩=some (.bool n2)∧w'.cell? ⟨w.heap.size+1,1,none⟩=some (.slice Aa2 p2.length ca2)∧w'.cell? ⟨w.heap.size+1,2,none⟩=some (.slice Ab2 q2.length cb2))∧(ORT w' w.heap.size (.agg #[.bool n1,.slice s.1 p1.length s.2.1,.slice s.2.2.1 q1.length s.2.2.2.1]) n1 p1 q1)∧(ORT w' w.heap.size (.agg #[.bool n2,.slice s.2.2.2.2.1 p2.length s.2.2.2.2.2.1,.slice s.2.2.2.2.2.2.1 q2.length s.2.2.2.2.2.2.2.1]) n2 p2 q2)∧(w'.heap[s.2.2.2.2.2.2.2.2.1]? = some (.cells #[.bool false,.slice none 0 0,.slice none 0 0] 25 (0,0))∧W2.heap.size≤s.2.2.2.2.2.2.2.2.1)∧(w'.heap[s.2.2.2.2.2.2.2.2.2]? = some (.cells #[.bool false,.slice none 0 0,.slice none 0 0] 25 (0,0))∧W2.heap.size≤s.2.2.2.2.2.2.2.2.2)∧(s.2.2.2.2.2.2.2.2.1≠s.2.2.2.2.2.2.2.2.2)∧Below W2.heap.size W2 w') ?_ ?_
  rotate_left
  ·
   intro hJ1_3_4_5
   refine join_ (σ:=Option Addr×Nat×Option Addr×Nat×Option Addr×Nat×Option Addr×Nat×Nat) 3 #[true,true,true,true,true,false,false,false] (fun s=>[(28,.agg #[.bool n1,.slice s.1 p1.length s.2.1,.slice s.2.2.1 q1.length s.2.2.2.1]),(30,.agg #[.bool n2,.slice s.2.2.2.2.1 p2.length s.2.2.2.2.2.1,.slice s.2.2.2.2.2.2.1 q2.length s.2.2.2.2.2.2.2.1]),(5,.pointer (some ⟨s.2.2.2.2.2.2.2.2,0,none⟩))]) (fun s w'=>(w'.cell? ⟨w.heap.size,0,none⟩=some (.bool n1)∧w'.cell? ⟨w.heap.size,1,none⟩=some (.slice Aa1 p1.length ca1)∧w'.cell? ⟨w.heap.size,2,none⟩=some (.slice Ab1 q1.length cb1)∧w'.cell? ⟨w.heap.size+1,0,none⟩=some (.bool n2)∧w'.cell? ⟨w.heap.size+1,1,none⟩=some (.slice Aa2 p2.length ca2)∧w'.cell? ⟨w.heap.size+1,2,none⟩=some (.slice Ab2 q2.length cb2))∧(ORT w' w.heap.size (.agg #[.bool n1,.slice s.1 p1.length s.2.1,.slice s.2.2.1 q1.length s.2.2.2.1]) n1 p1 q1)∧(ORT w' w.heap.size (.agg #[.bool n2,.slice s.2.2.2.2.1 p2.length s.2.2.2.2.2.1,.slice s.2.2.2.2.2.2.1 q2.length s.2.2.2.2.2.2.2.1]) n2 p2 q2)∧(w'.heap[s.2.2.2.2.2.2.2.2]? = some (.cells #[.bool false,.slice none 0 0,.slice none 0 0] 25 (0,0))∧W2.heap.size≤s.2.2.2.2.2.2.2.2)∧Below W2.heap.size W2 w') ?_ ?_
   rotate_left
   ·
    intro hJ1_3_4
    refine join_ (σ:=Option Addr×Nat×Option Addr×Nat×Option Addr×Nat×Option Addr×Nat×Nat) 3 #[true,true,true,true,false,true,false,false] (fun s=>[(28,.agg #[.bool n1,.slice s.1 p1.length s.2.1,.slice s.2.2.1 q1.length s.2.2.2.1]),(30,.agg #[.bool n2,.slice s.2.2.2.2.1 p2.length s.2.2.2.2.2.1,.slice s.2.2.2.2.2.2.1 q2.length s.2.2.2.2.2.2.2.1]),(6,.pointer (some ⟨s.2.2.2.2.2.2.2.2,0,none⟩))]) (fun s w'=>(w'.cell? ⟨w.heap.size,0,none⟩=some (.bool n1)∧w'.cell? ⟨w.heap.size,1,none⟩=some (.slice Aa1 p1.length ca1)∧w'.cell? ⟨w.heap.size,2,none⟩=some (.slice Ab1 q1.length cb1)∧w'.cell? ⟨w.heap.size+1,0,none⟩=some (.bool n2)∧w'.cell? ⟨w.heap.size+1,1,none⟩=some (.slice Aa2 p2.length ca2)∧w'.cell? ⟨w.heap.size+1,2,none⟩=some (.slice Ab2 q2.length cb2))∧(ORT w' w.heap.size (.agg #[.bool n1,.slice s.1 p1.length s.2.1,.slice s.2.2.1 q1.length s.2.2.2.1]) n1 p1 q1)∧(ORT w' w.heap.size (.agg #[.bool n2,.slice s.2.2.2.2.1 p2.length s.2.2.2.2.2.1,.slice s.2.2.2.2.2.2.1 q2.length s.2.2.2.2.2.2.2.1]) n2 p2 q2)∧(w'.heap[s.2.2.2.2.2.2.2.2]? = some (.cells #[.bool false,.slice none 0 0,.slice none 0 0] 25 (0,0))∧W2.heap.size≤s.2.2.2.2.2.2.2.2)∧Below W2.heap.size W2 w') ?_ ?_
    rotate_left
    ·
     intro hJ1_3_5
     refine join_ (σ:=Option Addr×Nat×Option Addr×Nat×Nat×Nat) 3 #[true,true,true,false,true,true,false,false] (fun s=>[(28,.agg #[.bool n1,.slice s.1 p1.length s.2.1,.slice s.2.2.1 q1.length s.2.2.2.1]),(5,.pointer (some ⟨s.2.2.2.2.1,0,none⟩)),(6,.pointer (some ⟨s.2.2.2.2.2,0,none⟩))]) (fun s w'=>(w'.cell? ⟨w.heap.size,0,none⟩=some (.bool n1)∧w'.cell? ⟨w.heap.size,1,none⟩=some (.slice Aa1 p1.length ca1)∧w'.cell? ⟨w.heap.size,2,none⟩=some (.slice Ab1 q1.length cb1)∧w'.cell? ⟨w.heap.size+1,0,none⟩=some (.bool n2)∧w'.cell? ⟨w.heap.size+1,1,none⟩=some (.slice Aa2 p2.length ca2)∧w'.cell? ⟨w.heap.size+1,2,none⟩=some (.slice Ab2 q2.length cb2))∧(ORT w' w.heap.size (.agg #[.bool n1,.slice s.1 p1.length s.2.1,.slice s.2.2.1 q1.length s.2.2.2.1]) n1 p1 q1)∧(w'.heap[s.2.2.2.2.1]? = some (.cells #[.bool false,.slice none 0 0,.slice none 0 0] 25 (0,0))∧W2.heap.size≤s.2.2.2.2.1)∧(w'.heap[s.2.2.2.2.2]? = some (.cells #[.bool false,.slice none 0 0,.slice none 0 0] 25 (0,0))∧W2.heap.size≤s.2.2.2.2.2)∧(s.2.2.2.2.1≠s.2.2.2.2.2)∧Below W2.heap.size W2 w') ?_ ?_
     rotate_left
     ·
      intro hJ1_4_5
      refine join_ (σ:=Option Addr×Nat×Option Addr×Nat×Option Addr×Nat×Option Addr×Nat) 4 #[true,true,true,true,false,false,false,false] (fun s=>[(28,.agg #[.bool n1,.slice s.1 p1.length s.2.1,.slice s.2.2.1 q1.length s.2.2.2.1]),(30,.agg #[.bool n2,.slice s.2.2.2.2.1 p2.length s.2.2.2.2.2.1,.slice s.2.2.2.2.2.2.1 q2.length s.2.2.2.2.2.2.2])]) (fun s w'=>(w'.cell? ⟨w.heap.size,0,none⟩=some (.bool n1)∧w'.cell? ⟨w.heap.size,1,none⟩=some (.slice Aa1 p1.length ca1)∧w'.cell? ⟨w.heap.size,2,none⟩=some (.slice Ab1 q1.length cb1)∧w'.cell? ⟨w.heap.size+1,0,none⟩=some (.bool n2)∧w'.cell? ⟨w.heap.size+1,1,none⟩=some (.slice Aa2 p2.length ca2)∧w'.cell? ⟨w.heap.size+1,2,none⟩=some (.slice Ab2 q2.length cb2))∧(ORT w' w.heap.size (.agg #[.bool n1,.slice s.1 p1.length s.2.1,.slice s.2.2.1 q1.length s.2.2.2.1]) n1 p1 q1)∧(ORT w' w.heap.size (.agg #[.bool n2,.slice s.2.2.2.2.1 p2.length s.2.2.2.2.2.1,.slice s.2.2.2.2.2.2.1 q2.length s.2.2.2.2.2.2.2]) n2 p2 q2)∧Below W2.heap.size W2 w') ?_ ?_
      rotate_left
      ·
       intro hJ1_3
       refine join_ (σ:=Option Addr×Nat×Option Addr×Nat×Nat) 4 #[true,true,true,false,true,false,false,false] (fun s=>[(28,.agg #[.bool n1,.slice s.1 p1.length s.2.1,.slice s.2.2.1 q1.length s.2.2.2.1]),(5,.pointer (some ⟨s.2.2.2.2,0,none⟩))]) (fun s w'=>(w'.cell? ⟨w.heap.size,0,none⟩=some (.bool n1)∧w'.cell? ⟨w.heap.size,1,none⟩=some (.slice Aa1 p1.length ca1)∧w'.cell? ⟨w.heap.size,2,none⟩=some (.slice Ab1 q1.length cb1)∧w'.cell? ⟨w.heap.size+1,0,none⟩=some (.bool n2)∧w'.cell? ⟨w.heap.size+1,1,none⟩=some (.slice Aa2 p2.length ca2)∧w'.cell? ⟨w.heap.size+1,2,none⟩=some (.slice Ab2 q2.length cb2))∧(ORT w' w.heap.size (.agg #[.bool n1,.slice s.1 p1.length s.2.1,.slice s.2.2.1 q1.length s.2.2.2.1]) n1 p1 q1)∧(w'.heap[s.2.2.2.2]? = some (.cells #[.bool false,.slice none 0 0,.slice none 0 0] 25 (0,0))∧W2.heap.size≤s.2.2.2.2)∧Below W2.heap.size W2 w') ?_ ?_
       rotate_left
       ·
        intro hJ1_4
        refine join_ (σ:=Option Addr×Nat×Option Addr×Nat×Nat) 4 #[true,true,true,false,false,true,false,false] (fun s=>[(28,.agg #[.bool n1,.slice s.1 p1.length s.2.1,.slice s.2.2.1 q1.length s.2.2.2.1]),(6,.pointer (some ⟨s.2.2.2.2,0,none⟩))]) (fun s w'=>(w'.cell? ⟨w.heap.size,0,none⟩=some (.bool n1)∧w'.cell? ⟨w.heap.size,1,none⟩=some (.slice Aa1 p1.length ca1)∧w'.cell? ⟨w.heap.size,2,none⟩=some (.slice Ab1 q1.length cb1)∧w'.cell? ⟨w.heap.size+1,0,none⟩=some (.bool n2)∧w'.cell? ⟨w.heap.size+1,1,none⟩=some (.slice Aa2 p2.length ca2)∧w'.cell? ⟨w.heap.size+1,2,none⟩=some (.slice Ab2 q2.length cb2))∧(ORT w' w.heap.size (.agg #[.bool n1,.slice s.1 p1.length s.2.1,.slice s.2.2.1 q1.length s.2.2.2.1]) n1 p1 q1)∧(w'.heap[s.2.2.2.2]? = some (.cells #[.bool false,.slice none 0 0,.slice none 0 0] 25 (0,0))∧W2.heap.size≤s.2.2.2.2)∧Below W2.heap.size W2 w') ?_ ?_
        rotate_left
        ·
         intro hJ1_5
         refine join_ (σ:=Nat×Nat) 4 #[true,false,true,false,true,true,false,false] (fun s=>[(5,.pointer (some ⟨s.1,0,none⟩)),(6,.pointer (some ⟨s.2,0,none⟩))]) (fun s w'=>(w'.cell? ⟨w.heap.size,0,none⟩=some (.bool n1)∧w'.cell? ⟨w.heap.size,1,none⟩=some (.slice Aa1 p1.length ca1)∧w'.cell? ⟨w.heap.size,2,none⟩=some (.slice Ab1 q1.length cb1)∧w'.cell? ⟨w.heap.size+1,0,none⟩=some (.bool n2)∧w'.cell? ⟨w.heap.size+1,1,none⟩=some (.slice Aa2 p2.length ca2)∧w'.cell? ⟨w.heap.size+1,2,none⟩=some (.slice Ab2 q2.length cb2))∧(w'.heap[s.1]? = some (.cells #[.bool false,.slice none 0 0,.slice none 0 0] 25 (0,0))∧W2.heap.size≤s.1)∧(w'.heap[s.2]? = some (.cells #[.bool false,.slice none 0 0,.slice none 0 0] 25 (0,0))∧W2.heap.size≤s.2)∧(s.1≠s.2)∧Below W2.heap.size W2 w') ?_ ?_
         rotate_left
         ·
          intro hJ4_5
          refine join_ (σ:=Option Addr×Nat×Option Addr×Nat) 5 #[true,true,true,false,false,false,false,false] (fun s=>[(28,.agg #[.bool n1,.slice s.1 p1.length s.2.1,.slice s.2.2.1 q1.length s.2.2.2])]) (fun s w'=>(w'.cell? ⟨w.heap.size,0,none⟩=some (.bool n1)∧w'.cell? ⟨w.heap.size,1,none⟩=some (.slice Aa1 p1.length ca1)∧w'.cell? ⟨w.heap.size,2,none⟩=some (.slice Ab1 q1.length cb1)∧w'.cell? ⟨w.heap.size+1,0,none⟩=some (.bool n2)∧w'.cell? ⟨w.heap.size+1,1,none⟩=some (.slice Aa2 p2.length ca2)∧w'.cell? ⟨w.heap.size+1,2,none⟩=some (.slice Ab2 q2.length cb2))∧(ORT w' w.heap.size (.agg #[.bool n1,.slice s.1 p1.length s.2.1,.slice s.2.2.1 q1.length s.2.2.2]) n1 p1 q1)∧Below W2.heap.size W2 w') ?_ ?_
          rotate_left
          ·
           intro hJ1
           refine join_ (σ:=Nat) 5 #[true,false,true,false,true,false,false,false] (fun s=>[(5,.pointer (some ⟨s,0,none⟩))]) (fun s w'=>(w'.cell? ⟨w.heap.size,0,none⟩=some (.bool n1)∧w'.cell? ⟨w.heap.size,1,none⟩=some (.slice Aa1 p1.length ca1)∧w'.cell? ⟨w.heap.size,2,none⟩=some (.slice Ab1 q1.length cb1)∧w'.cell? ⟨w.heap.size+1,0,none⟩=some (.bool n2)∧w'.cell? ⟨w.heap.size+1,1,none⟩=some (.slice Aa2 p2.length ca2)∧w'.cell? ⟨w.heap.size+1,2,none⟩=some (.slice Ab2 q2.length cb2))∧(w'.heap[s]? = some (.cells #[.bool false,.slice none 0 0,.slice none 0 0] 25 (0,0))∧W2.heap.size≤s)∧Below W2.heap.size W2 w') ?_ ?_
           rotate_left
           ·
            intro hJ4
            refine join_ (σ:=Nat) 5 #[true,false,true,false,false,true,false,false] (fun s=>[(6,.pointer (some ⟨s,0,none⟩))]) (fun s w'=>(w'.cell? ⟨w.heap.size,0,none⟩=some (.bool n1)∧w'.cell? ⟨w.heap.size,1,none⟩=some (.slice Aa1 p1.length ca1)∧w'.cell? ⟨w.heap.size,2,none⟩=some (.slice Ab1 q1.length cb1)∧w'.cell? ⟨w.heap.size+1,0,none⟩=some (.bool n2)∧w'.cell? ⟨w.heap.size+1,1,none⟩=some (.slice Aa2 p2.length ca2)∧w'.cell? ⟨w.heap.size+1,2,none⟩=some (.slice Ab2 q2.length cb2))∧(w'.heap[s]? = some (.cells #[.bool false,.slice none 0 0,.slice none 0 0] 25 (0,0))∧W2.heap.size≤s)∧Below W2.heap.size W2 w') ?_ ?_
            rotate_left
            ·
             intro hJ5
             refine three_ (i:=1) (j:=4) (k:=5) (Ni:=some 28) (Nj:=some 5) (Nk:=some 6) #[true,true,true,false,false,false,false,false] #[true,false,true,false,true,false,false,false] #[true,false,true,false,false,true,false,false] rfl rfl rfl rfl rfl rfl (three_of HT_.out (by kernel_rfl)) (by decide) (by decide) (by decide) (fun K hK=>?_) (fun K hK=>?_) (fun K hK=>?_)
             ·
              skip
              refine za7 Try.func17 (by kernel_rfl) rfl #[.agg #[.bool n1,.slice Aa1 p1.length ca1,.slice Ab1 q1.length cb1]] (by rfl) rfl rfl (by (try simp only [List.map_toArray,List.map_cons,List.map_nil]); first | done | rfl) ?_
              refine(ownR_n2 (HM10.out V0 (HF.out _ hb0.out).2) (HM11.out V0 (HF.out _ hb0.out).2) HS_p1.out HS_q1.out).mono ?_
              rintro e Vn ⟨v1_,v2_,rfl,R1,R2,hB⟩
              refine⟨_,rfl,?_⟩
              obtain⟨A1,c1,rfl⟩:=Kd.R_slice R1
              obtain⟨B1,d1,rfl⟩:=Kd.R_slice R2
              have new:ORT Vn w.heap.size (.agg #[.bool n1,.slice A1 p1.length c1,.slice B1 q1.length d1]) n1 p1 q1:=⟨_,_,rfl,Kd.R_lower R1 (HF.out _ hb0.out).2.size,Kd.R_lower R2 (HF.out _ hb0.out).2.size⟩
              have hbn:=Aside0.mk (zag hb0.out hB)
              refine hK.out _ _ ((HF.out _ hbn.out).1) (fun hHeld=>?_)
              clear hK K
              refine zaS (a':=?_) ?_ ?_
              rotate_left
              ·
               show Act.put _ (some 28) _=_
               simp only [Act.put,List.setIfInBounds_toArray,List.set_cons_zero,List.set_cons_succ,zaq,zar]
               rfl
              exact zaS (by first | (simp only [putAll,Act.put,List.setIfInBounds_toArray,List.set_cons_zero,List.set_cons_succ]; done) | (simp only [putAll,Act.put,List.setIfInBounds_toArray,List.set_cons_zero,List.set_cons_succ]; rfl)) (hJ1 (A1,c1,B1,d1) _ ⟨(HF.out _ hbn.out).1,new,hbn.out⟩)
             ·
              skip
              refine value_ (w1:=?_) (v:=?_) (by rfl) rfl ?_ ?_
              rotate_left 2
              ·
               go_simp
               constructor
               ·
                rfl
               ·
                rfl
              have hB:Below V0.heap.size V0 (V0.alloc (.cells #[.bool false,.slice none 0 0,.slice none 0 0] 25 (0,0))):=zab (Below.refl _ _) _
              have hN:=zbp V0 (.cells #[.bool false,.slice none 0 0,.slice none 0 0] 25 (0,0))
              have hbn:=Aside0.mk (zag hb0.out hB)
              refine hK.out _ _ ((HF.out _ hbn.out).1) (fun hHeld=>?_)
              clear hK K
              refine zaS (a':=?_) ?_ ?_
              rotate_left
              ·
               show Act.put _ (some 5) _=_
               simp only [Act.put,List.setIfInBounds_toArray,List.set_cons_zero,List.set_cons_succ,zaq,zar]
               rfl
              exact zaS (by first | (simp only [putAll,Act.put,List.setIfInBounds_toArray,List.set_cons_zero,List.set_cons_succ]; done) | (simp only [putAll,Act.put,List.setIfInBounds_toArray,List.set_cons_zero,List.set_cons_succ]; rfl)) (hJ4 (V0.heap.size) _ ⟨(HF.out _ hbn.out).1,⟨hN,hb0.out.size⟩,hbn.out⟩)
             ·
              skip
              refine value_ (w1:=?_) (v:=?_) (by rfl) rfl ?_ ?_
              rotate_left 2
              ·
               go_simp
               constructor
               ·
                rfl
               ·
                rfl
              have hB:Below V0.heap.size V0 (V0.alloc (.cells #[.bool false,.slice none 0 0,.slice none 0 0] 25 (0,0))):=zab (Below.refl _ _) _
              have hN:=zbp V0 (.cells #[.bool false,.slice none 0 0,.slice none 0 0] 25 (0,0))
              have hbn:=Aside0.mk (zag hb0.out hB)
              refine hK.out _ _ ((HF.out _ hbn.out).1) (fun hHeld=>?_)
              clear hK K
              refine zaS (a':=?_) ?_ ?_
              rotate_left
              ·
               show Act.put _ (some 6) _=_
               simp only [Act.put,List.setIfInBounds_toArray,List.set_cons_zero,List.set_cons_succ,zaq,zar]
               rfl
              exact zaS (by first | (simp only [putAll,Act.put,List.setIfInBounds_toArray,List.set_cons_zero,List.set_cons_succ]; done) | (simp only [putAll,Act.put,List.setIfInBounds_toArray,List.set_cons_zero,List.set_cons_succ]; rfl)) (hJ5 (V0.heap.size) _ ⟨(HF.out _ hbn.out).1,⟨hN,hb0.out.size⟩,hbn.out⟩)
            ·
             skip
             rintro g5 V ⟨hHeld,kK5,hb⟩
             have K5:=Aside0.mk kK5
             have hbv:=Aside0.mk hb
             clear hb kK5
             refine zaS (a':=?_) ?_ ?_
             rotate_left
             ·
              simp only [putAll,Act.put,List.setIfInBounds_toArray,List.set_cons_zero,List.set_cons_succ]
              rfl
             refine two_ (i:=1) (j:=4) (Ni:=some 28) (Nj:=some 5) #[true,true,true,false,false,true,false,false] #[true,false,true,false,true,true,false,false] rfl rfl rfl rfl (two_of HT_.out (by kernel_rfl)) (by decide) (by decide) (fun K hK=>?_) (fun K hK=>?_)
             ·
              skip
              refine za7 Try.func17 (by kernel_rfl) rfl #[.agg #[.bool n1,.slice Aa1 p1.length ca1,.slice Ab1 q1.length cb1]] (by rfl) rfl rfl (by (try simp only [List.map_toArray,List.map_cons,List.map_nil]); first | done | rfl) ?_
              refine(ownR_n2 (HM10.out V (HF.out _ hbv.out).2) (HM11.out V (HF.out _ hbv.out).2) HS_p1.out HS_q1.out).mono ?_
              rintro e Vn ⟨v1_,v2_,rfl,R1,R2,hB⟩
              refine⟨_,rfl,?_⟩
              obtain⟨A1,c1,rfl⟩:=Kd.R_slice R1
              obtain⟨B1,d1,rfl⟩:=Kd.R_slice R2
              have new:ORT Vn w.heap.size (.agg #[.bool n1,.slice A1 p1.length c1,.slice B1 q1.length d1]) n1 p1 q1:=⟨_,_,rfl,Kd.R_lower R1 (HF.out _ hbv.out).2.size,Kd.R_lower R2 (HF.out _ hbv.out).2.size⟩
              have hbn:=Aside0.mk (zag hbv.out hB)
              refine hK.out _ _ ((HF.out _ hbn.out).1) (fun hHeld=>?_)
              clear hK K
              refine zaS (a':=?_) ?_ ?_
              rotate_left
              ·
               show Act.put _ (some 28) _=_
               simp only [Act.put,List.setIfInBounds_toArray,List.set_cons_zero,List.set_cons_succ,zaq,zar]
               rfl
              exact zaS (by first | (simp only [putAll,Act.put,List.setIfInBounds_toArray,List.set_cons_zero,List.set_cons_succ]; done) | (simp only [putAll,Act.put,List.setIfInBounds_toArray,List.set_cons_zero,List.set_cons_succ]; rfl)) (hJ1_5 (A1,c1,B1,d1,g5) _ ⟨(HF.out _ hbn.out).1,new,⟨zal K5.out.1 hB,K5.out.2⟩,hbn.out⟩)
             ·
              skip
              refine value_ (w1:=?_) (v:=?_) (by rfl) rfl ?_ ?_
              rotate_left 2
              ·
               go_simp
               constructor
               ·
                rfl
               ·
                rfl
              have hB:Below V.heap.size V (V.alloc (.cells #[.bool false,.slice none 0 0,.slice none 0 0] 25 (0,0))):=zab (Below.refl _ _) _
              have hN:=zbp V (.cells #[.bool false,.slice none 0 0,.slice none 0 0] 25 (0,0))
              have hbn:=Aside0.mk (zag hbv.out hB)
              refine hK.out _ _ ((HF.out _ hbn.out).1) (fun hHeld=>?_)
              clear hK K
              refine zaS (a':=?_) ?_ ?_
              rotate_left
              ·
               show Act.put _ (some 5) _=_
               simp only [Act.put,List.setIfInBounds_toArray,List.set_cons_zero,List.set_cons_succ,zaq,zar]
               rfl
              exact zaS (by first | (simp only [putAll,Act.put,List.setIfInBounds_toArray,List.set_cons_zero,List.set_cons_succ]; done) | (simp only [putAll,Act.put,List.setIfInBounds_toArray,List.set_cons_zero,List.set_cons_succ]; rfl)) (hJ4_5 (V.heap.size,g5) _ ⟨(HF.out _ hbn.out).1,⟨hN,hbv.out.size⟩,⟨zal K5.out.1 hB,K5.out.2⟩,(Nat.ne_of_lt (zaD K5.out.1)).symm,hbn.out⟩)
           ·
            skip
            rintro g4 V ⟨hHeld,kK4,hb⟩
            have K4:=Aside0.mk kK4
            have hbv:=Aside0.mk hb
            clear hb kK4
            refine zaS (a':=?_) ?_ ?_
            rotate_left
            ·
             simp only [putAll,Act.put,List.setIfInBounds_toArray,List.set_cons_zero,List.set_cons_succ]
             rfl
            refine two_ (i:=1) (j:=5) (Ni:=some 28) (Nj:=some 6) #[true,true,true,false,true,false,false,false] #[true,false,true,false,true,true,false,false] rfl rfl rfl rfl (two_of HT_.out (by kernel_rfl)) (by decide) (by decide) (fun K hK=>?_) (fun K hK=>?_)
            ·
             skip
             refine za7 Try.func17 (by kernel_rfl) rfl #[.agg #[.bool n1,.slice Aa1 p1.length ca1,.slice Ab1 q1.length cb1]] (by rfl) rfl rfl (by (try simp only [List.map_toArray,List.map_cons,List.map_nil]); first | done | rfl) ?_
             refine(ownR_n2 (HM10.out V (HF.out _ hbv.out).2) (HM11.out V (HF.out _ hbv.out).2) HS_p1.out HS_q1.out).mono ?_
             rintro e Vn ⟨v1_,v2_,rfl,R1,R2,hB⟩
             refine⟨_,rfl,?_⟩
             obtain⟨A1,c1,rfl⟩:=Kd.R_slice R1
             obtain⟨B1,d1,rfl⟩:=Kd.R_slice R2
             have new:ORT Vn w.heap.size (.agg #[.bool n1,.slice A1 p1.length c1,.slice B1 q1.length d1]) n1 p1 q1:=⟨_,_,rfl,Kd.R_lower R1 (HF.out _ hbv.out).2.size,Kd.R_lower R2 (HF.out _ hbv.out).2.size⟩
             have hbn:=Aside0.mk (zag hbv.out hB)
             refine hK.out _ _ ((HF.out _ hbn.out).1) (fun hHeld=>?_)
             clear hK K
             refine zaS (a':=?_) ?_ ?_
             rotate_left
             ·
              show Act.put _ (some 28) _=_
              simp only [Act.put,List.setIfInBounds_toArray,List.set_cons_zero,List.set_cons_succ,zaq,zar]
              rfl
             exact zaS (by first | (simp only [putAll,Act.put,List.setIfInBounds_toArray,List.set_cons_zero,List.set_cons_succ]; done) | (simp only [putAll,Act.put,List.setIfInBounds_toArray,List.set_cons_zero,List.set_cons_succ]; rfl)) (hJ1_4 (A1,c1,B1,d1,g4) _ ⟨(HF.out _ hbn.out).1,new,⟨zal K4.out.1 hB,K4.out.2⟩,hbn.out⟩)
            ·
             skip
             refine value_ (w1:=?_) (v:=?_) (by rfl) rfl ?_ ?_
             rotate_left 2
             ·
              go_simp
              constructor
              ·
               rfl
              ·
               rfl
             have hB:Below V.heap.size V (V.alloc (.cells #[.bool false,.slice none 0 0,.slice none 0 0] 25 (0,0))):=zab (Below.refl _ _) _
             have hN:=zbp V (.cells #[.bool false,.slice none 0 0,.slice none 0 0] 25 (0,0))
             have hbn:=Aside0.mk (zag hbv.out hB)
             refine hK.out _ _ ((HF.out _ hbn.out).1) (fun hHeld=>?_)
             clear hK K
             refine zaS (a':=?_) ?_ ?_
             rotate_left
             ·
              show Act.put _ (some 6) _=_
              simp only [Act.put,List.setIfInBounds_toArray,List.set_cons_zero,List.set_cons_succ,zaq,zar]
              rfl
             exact zaS (by first | (simp only [putAll,Act.put,List.setIfInBounds_toArray,List.set_cons_zero,List.set_cons_succ]; done) | (simp only [putAll,Act.put,List.setIfInBounds_toArray,List.set_cons_zero,List.set_cons_succ]; rfl)) (hJ4_5 (g4,V.heap.size) _ ⟨(HF.out _ hbn.out).1,⟨zal K4.out.1 hB,K4.out.2⟩,⟨hN,hbv.out.size⟩,Nat.ne_of_lt (zaD K4.out.1),hbn.out⟩)
          ·
           skip
           rintro⟨A1,c1,B1,d1⟩ V ⟨hHeld,kK1,hb⟩
           have K1:=Aside0.mk kK1
           have hbv:=Aside0.mk hb
           clear hb kK1
           refine zaS (a':=?_) ?_ ?_
           rotate_left
           ·
            simp only [putAll,Act.put,List.setIfInBounds_toArray,List.set_cons_zero,List.set_cons_succ]
            rfl
           refine three_ (i:=3) (j:=4) (k:=5) (Ni:=some 30) (Nj:=some 5) (Nk:=some 6) #[true,true,true,true,false,false,false,false] #[true,true,true,false,true,false,false,false] #[true,true,true,false,false,true,false,false] rfl rfl rfl rfl rfl rfl (three_of HT_.out (by kernel_rfl)) (by decide) (by decide) (by decide) (fun K hK=>?_) (fun K hK=>?_) (fun K hK=>?_)
           ·
            skip
            refine za7 Try.func17 (by kernel_rfl) rfl #[.agg #[.bool n2,.slice Aa2 p2.length ca2,.slice Ab2 q2.length cb2]] (by rfl) rfl rfl (by (try simp only [List.map_toArray,List.map_cons,List.map_nil]); first | done | rfl) ?_
            refine(ownR_n2 (HM20.out V (HF.out _ hbv.out).2) (HM21.out V (HF.out _ hbv.out).2) HS_p2.out HS_q2.out).mono ?_
            rintro e Vn ⟨v1_,v2_,rfl,R1,R2,hB⟩
            refine⟨_,rfl,?_⟩
            obtain⟨A3,c3,rfl⟩:=Kd.R_slice R1
            obtain⟨B3,d3,rfl⟩:=Kd.R_slice R2
            have new:ORT Vn w.heap.size (.agg #[.bool n2,.slice A3 p2.length c3,.slice B3 q2.length d3]) n2 p2 q2:=⟨_,_,rfl,Kd.R_lower R1 (HF.out _ hbv.out).2.size,Kd.R_lower R2 (HF.out _ hbv.out).2.size⟩
            have hbn:=Aside0.mk (zag hbv.out hB)
            refine hK.out _ _ ((HF.out _ hbn.out).1) (fun hHeld=>?_)
            clear hK K
            refine zaS (a':=?_) ?_ ?_
            rotate_left
            ·
             show Act.put _ (some 30) _=_
             simp only [Act.put,List.setIfInBounds_toArray,List.set_cons_zero,List.set_cons_succ,zaq,zar]
             rfl
            exact zaS (by first | (simp only [putAll,Act.put,List.setIfInBounds_toArray,List.set_cons_zero,List.set_cons_succ]; done) | (simp only [putAll,Act.put,List.setIfInBounds_toArray,List.set_cons_zero,List.set_cons_succ]; rfl)) (hJ1_3 (A1,c1,B1,d1,A3,c3,B3,d3) _ ⟨(HF.out _ hbn.out).1,K1.out.below hB,new,hbn.out⟩)
           ·
            skip
            refine value_ (w1:=?_) (v:=?_) (by rfl) rfl ?_ ?_
            rotate_left 2
            ·
             go_simp
             constructor
             ·
              rfl
             ·
              rfl
            have hB:Below V.heap.size V (V.alloc (.cells #[.bool false,.slice none 0 0,.slice none 0 0] 25 (0,0))):=zab (Below.refl _ _) _
            have hN:=zbp V (.cells #[.bool false,.slice none 0 0,.slice none 0 0] 25 (0,0))
            have hbn:=Aside0.mk (zag hbv.out hB)
            refine hK.out _ _ ((HF.out _ hbn.out).1) (fun hHeld=>?_)
            clear hK K
            refine zaS (a':=?_) ?_ ?_
            rotate_left
            ·
             show Act.put _ (some 5) _=_
             simp only [Act.put,List.setIfInBounds_toArray,List.set_cons_zero,List.set_cons_succ,zaq,zar]
             rfl
            exact zaS (by first | (simp only [putAll,Act.put,List.setIfInBounds_toArray,List.set_cons_zero,List.set_cons_succ]; done) | (simp only [putAll,Act.put,List.setIfInBounds_toArray,List.set_cons_zero,List.set_cons_succ]; rfl)) (hJ1_4 (A1,c1,B1,d1,V.heap.size) _ ⟨(HF.out _ hbn.out).1,K1.out.below hB,⟨hN,hbv.out.size⟩,hbn.out⟩)
           ·
            skip
            refine value_ (w1:=?_) (v:=?_) (by rfl) rfl ?_ ?_
            rotate_left 2
            ·
             go_simp
             constructor
             ·
              rfl
             ·
              rfl
            have hB:Below V.heap.size V (V.alloc (.cells #[.bool false,.slice none 0 0,.slice none 0 0] 25 (0,0))):=zab (Below.refl _ _) _
            have hN:=zbp V (.cells #[.bool false,.slice none 0 0,.slice none 0 0] 25 (0,0))
            have hbn:=Aside0.mk (zag hbv.out hB)
            refine hK.out _ _ ((HF.out _ hbn.out).1) (fun hHeld=>?_)
            clear hK K
            refine zaS (a':=?_) ?_ ?_
            rotate_left
            ·
             show Act.put _ (some 6) _=_
             simp only [Act.put,List.setIfInBounds_toArray,List.set_cons_zero,List.set_cons_succ,zaq,zar]
             rfl
            exact zaS (by first | (simp only [putAll,Act.put,List.setIfInBounds_toArray,List.set_cons_zero,List.set_cons_succ]; done) | (simp only [putAll,Act.put,List.setIfInBounds_toArray,List.set_cons_zero,List.set_cons_succ]; rfl)) (hJ1_5 (A1,c1,B1,d1,V.heap.size) _ ⟨(HF.out _ hbn.out).1,K1.out.below hB,⟨hN,hbv.out.size⟩,hbn.out⟩)
         ·
          skip
          rintro⟨g4,g5⟩ V ⟨hHeld,kK4,kK5,kE4_5,hb⟩
          have K4:=Aside0.mk kK4
          have K5:=Aside0.mk kK5
          have E4_5:=Aside0.mk kE4_5
          have hbv:=Aside0.mk hb
          clear hb kK4 kK5 kE4_5
          refine zaS (a':=?_) ?_ ?_
          rotate_left
          ·
           simp only [putAll,Act.put,List.setIfInBounds_toArray,List.set_cons_zero,List.set_cons_succ]
           rfl
          refine one_ (i:=1) (N:=some 28) #[true,true,true,false,true,true,false,false] rfl rfl (zaO HT_.out (by kernel_rfl)) (by decide) (fun K hK=>?_)
          refine za7 Try.func17 (by kernel_rfl) rfl #[.agg #[.bool n1,.slice Aa1 p1.length ca1,.slice Ab1 q1.length cb1]] (by rfl) rfl rfl (by (try simp only [List.map_toArray,List.map_cons,List.map_nil]); first | done | rfl) ?_
          refine(ownR_n2 (HM10.out V (HF.out _ hbv.out).2) (HM11.out V (HF.out _ hbv.out).2) HS_p1.out HS_q1.out).mono ?_
          rintro e Vn ⟨v1_,v2_,rfl,R1,R2,hB⟩
          refine⟨_,rfl,?_⟩
          obtain⟨A1,c1,rfl⟩:=Kd.R_slice R1
          obtain⟨B1,d1,rfl⟩:=Kd.R_slice R2
          have new:ORT Vn w.heap.size (.agg #[.bool n1,.slice A1 p1.length c1,.slice B1 q1.length d1]) n1 p1 q1:=⟨_,_,rfl,Kd.R_lower R1 (HF.out _ hbv.out).2.size,Kd.R_lower R2 (HF.out _ hbv.out).2.size⟩
          have hbn:=Aside0.mk (zag hbv.out hB)
          refine hK.out _ _ ((HF.out _ hbn.out).1) (fun hHeld=>?_)
          clear hK K
          refine zaS (a':=?_) ?_ ?_
          rotate_left
          ·
           show Act.put _ (some 28) _=_
           simp only [Act.put,List.setIfInBounds_toArray,List.set_cons_zero,List.set_cons_succ,zaq,zar]
           rfl
          exact zaS (by first | (simp only [putAll,Act.put,List.setIfInBounds_toArray,List.set_cons_zero,List.set_cons_succ]; done) | (simp only [putAll,Act.put,List.setIfInBounds_toArray,List.set_cons_zero,List.set_cons_succ]; rfl)) (hJ1_4_5 (A1,c1,B1,d1,g4,g5) _ ⟨(HF.out _ hbn.out).1,new,⟨zal K4.out.1 hB,K4.out.2⟩,⟨zal K5.out.1 hB,K5.out.2⟩,E4_5.out,hbn.out⟩)
        ·
         skip
         rintro⟨A1,c1,B1,d1,g5⟩ V ⟨hHeld,kK1,kK5,hb⟩
         have K1:=Aside0.mk kK1
         have K5:=Aside0.mk kK5
         have hbv:=Aside0.mk hb
         clear hb kK1 kK5
         refine zaS (a':=?_) ?_ ?_
         rotate_left
         ·
          simp only [putAll,Act.put,List.setIfInBounds_toArray,List.set_cons_zero,List.set_cons_succ]
          rfl
         refine two_ (i:=3) (j:=4) (Ni:=some 30) (Nj:=some 5) #[true,true,true,true,false,true,false,false] #[true,true,true,false,true,true,false,false] rfl rfl rfl rfl (two_of HT_.out (by kernel_rfl)) (by decide) (by decide) (fun K hK=>?_) (fun K hK=>?_)
         ·
          skip
          refine za7 Try.func17 (by kernel_rfl) rfl #[.agg #[.bool n2,.slice Aa2 p2.length ca2,.slice Ab2 q2.length cb2]] (by rfl) rfl rfl (by (try simp only [List.map_toArray,List.map_cons,List.map_nil]); first | done | rfl) ?_
          refine(ownR_n2 (HM20.out V (HF.out _ hbv.out).2) (HM21.out V (HF.out _ hbv.out).2) HS_p2.out HS_q2.out).mono ?_
          rintro e Vn ⟨v1_,v2_,rfl,R1,R2,hB⟩
          refine⟨_,rfl,?_⟩
          obtain⟨A3,c3,rfl⟩:=Kd.R_slice R1
          obtain⟨B3,d3,rfl⟩:=Kd.R_slice R2
          have new:ORT Vn w.heap.size (.agg #[.bool n2,.slice A3 p2.length c3,.slice B3 q2.length d3]) n2 p2 q2:=⟨_,_,rfl,Kd.R_lower R1 (HF.out _ hbv.out).2.size,Kd.R_lower R2 (HF.out _ hbv.out).2.size⟩
          have hbn:=Aside0.mk (zag hbv.out hB)
          refine hK.out _ _ ((HF.out _ hbn.out).1) (fun hHeld=>?_)
          clear hK K
          refine zaS (a':=?_) ?_ ?_
          rotate_left
          ·
           show Act.put _ (some 30) _=_
           simp only [Act.put,List.setIfInBounds_toArray,List.set_cons_zero,List.set_cons_succ,zaq,zar]
           rfl
          exact zaS (by first | (simp only [putAll,Act.put,List.setIfInBounds_toArray,List.set_cons_zero,List.set_cons_succ]; done) | (simp only [putAll,Act.put,List.setIfInBounds_toArray,List.set_cons_zero,List.set_cons_succ]; rfl)) (hJ1_3_5 (A1,c1,B1,d1,A3,c3,B3,d3,g5) _ ⟨(HF.out _ hbn.out).1,K1.out.below hB,new,⟨zal K5.out.1 hB,K5.out.2⟩,hbn.out⟩)
         ·
          skip
          refine value_ (w1:=?_) (v:=?_) (by rfl) rfl ?_ ?_
          rotate_left 2
          ·
           go_simp
           constructor
           ·
            rfl
           ·
            rfl
          have hB:Below V.heap.size V (V.alloc (.cells #[.bool false,.slice none 0 0,.slice none 0 0] 25 (0,0))):=zab (Below.refl _ _) _
          have hN:=zbp V (.cells #[.bool false,.slice none 0 0,.slice none 0 0] 25 (0,0))
          have hbn:=Aside0.mk (zag hbv.out hB)
          refine hK.out _ _ ((HF.out _ hbn.out).1) (fun hHeld=>?_)
          clear hK K
          refine zaS (a':=?_) ?_ ?_
          rotate_left
          ·
           show Act.put _ (some 5) _=_
           simp only [Act.put,List.setIfInBounds_toArray,List.set_cons_zero,List.set_cons_succ,zaq,zar]
           rfl
          exact zaS (by first | (simp only [putAll,Act.put,List.setIfInBounds_toArray,List.set_cons_zero,List.set_cons_succ]; done) | (simp only [putAll,Act.put,List.setIfInBounds_toArray,List.set_cons_zero,List.set_cons_succ]; rfl)) (hJ1_4_5 (A1,c1,B1,d1,V.heap.size,g5) _ ⟨(HF.out _ hbn.out).1,K1.out.below hB,⟨hN,hbv.out.size⟩,⟨zal K5.out.1 hB,K5.out.2⟩,(Nat.ne_of_lt (zaD K5.out.1)).symm,hbn.out⟩)
       ·
        skip
        rintro⟨A1,c1,B1,d1,g4⟩ V ⟨hHeld,kK1,kK4,hb⟩
        have K1:=Aside0.mk kK1
        have K4:=Aside0.mk kK4
        have hbv:=Aside0.mk hb
        clear hb kK1 kK4
        refine zaS (a':=?_) ?_ ?_
        rotate_left
        ·
         simp only [putAll,Act.put,List.setIfInBounds_toArray,List.set_cons_zero,List.set_cons_succ]
         rfl
        refine two_ (i:=3) (j:=5) (Ni:=some 30) (Nj:=some 6) #[true,true,true,true,true,false,false,false] #[true,true,true,false,true,true,false,false] rfl rfl rfl rfl (two_of HT_.out (by kernel_rfl)) (by decide) (by decide) (fun K hK=>?_) (fun K hK=>?_)
        ·
         skip
         refine za7 Try.func17 (by kernel_rfl) rfl #[.agg #[.bool n2,.slice Aa2 p2.length ca2,.slice Ab2 q2.length cb2]] (by rfl) rfl rfl (by (try simp only [List.map_toArray,List.map_cons,List.map_nil]); first | done | rfl) ?_
         refine(ownR_n2 (HM20.out V (HF.out _ hbv.out).2) (HM21.out V (HF.out _ hbv.out).2) HS_p2.out HS_q2.out).mono ?_
         rintro e Vn ⟨v1_,v2_,rfl,R1,R2,hB⟩
         refine⟨_,rfl,?_⟩
         obtain⟨A3,c3,rfl⟩:=Kd.R_slice R1
         obtain⟨B3,d3,rfl⟩:=Kd.R_slice R2
         have new:ORT Vn w.heap.size (.agg #[.bool n2,.slice A3 p2.length c3,.slice B3 q2.length d3]) n2 p2 q2:=⟨_,_,rfl,Kd.R_lower R1 (HF.out _ hbv.out).2.size,Kd.R_lower R2 (HF.out _ hbv.out).2.size⟩
         have hbn:=Aside0.mk (zag hbv.out hB)
         refine hK.out _ _ ((HF.out _ hbn.out).1) (fun hHeld=>?_)
         clear hK K
         refine zaS (a':=?_) ?_ ?_
         rotate_left
         ·
          show Act.put _ (some 30) _=_
          simp only [Act.put,List.setIfInBounds_toArray,List.set_cons_zero,List.set_cons_succ,zaq,zar]
          rfl
         exact zaS (by first | (simp only [putAll,Act.put,List.setIfInBounds_toArray,List.set_cons_zero,List.set_cons_succ]; done) | (simp only [putAll,Act.put,List.setIfInBounds_toArray,List.set_cons_zero,List.set_cons_succ]; rfl)) (hJ1_3_4 (A1,c1,B1,d1,A3,c3,B3,d3,g4) _ ⟨(HF.out _ hbn.out).1,K1.out.below hB,new,⟨zal K4.out.1 hB,K4.out.2⟩,hbn.out⟩)
        ·
         skip
         refine value_ (w1:=?_) (v:=?_) (by rfl) rfl ?_ ?_
         rotate_left 2
         ·
          go_simp
          constructor
          ·
           rfl
          ·
           rfl
         have hB:Below V.heap.size V (V.alloc (.cells #[.bool false,.slice none 0 0,.slice none 0 0] 25 (0,0))):=zab (Below.refl _ _) _
         have hN:=zbp V (.cells #[.bool false,.slice none 0 0,.slice none 0 0] 25 (0,0))
         have hbn:=Aside0.mk (zag hbv.out hB)
         refine hK.out _ _ ((HF.out _ hbn.out).1) (fun hHeld=>?_)
         clear hK K
         refine zaS (a':=?_) ?_ ?_
         rotate_left
         ·
          show Act.put _ (some 6) _=_
          simp only [Act.put,List.setIfInBounds_toArray,List.set_cons_zero,List.set_cons_succ,zaq,zar]
          rfl
         exact zaS (by first | (simp only [putAll,Act.put,List.setIfInBounds_toArray,List.set_cons_zero,List.set_cons_succ]; done) | (simp only [putAll,Act.put,List.setIfInBounds_toArray,List.set_cons_zero,List.set_cons_succ]; rfl)) (hJ1_4_5 (A1,c1,B1,d1,g4,V.heap.size) _ ⟨(HF.out _ hbn.out).1,K1.out.below hB,⟨zal K4.out.1 hB,K4.out.2⟩,⟨hN,hbv.out.size⟩,Nat.ne_of_lt (zaD K4.out.1),hbn.out⟩)
      ·
       skip
       rintro⟨A1,c1,B1,d1,A3,c3,B3,d3⟩ V ⟨hHeld,kK1,kK3,hb⟩
       have K1:=Aside0.mk kK1
       have K3:=Aside0.mk kK3
       have hbv:=Aside0.mk hb
       clear hb kK1 kK3
       refine zaS (a':=?_) ?_ ?_
       rotate_left
       ·
        simp only [putAll,Act.put,List.setIfInBounds_toArray,List.set_cons_zero,List.set_cons_succ]
        rfl
       refine two_ (i:=4) (j:=5) (Ni:=some 5) (Nj:=some 6) #[true,true,true,true,true,false,false,false] #[true,true,true,true,false,true,false,false] rfl rfl rfl rfl (two_of HT_.out (by kernel_rfl)) (by decide) (by decide) (fun K hK=>?_) (fun K hK=>?_)
       ·
        skip
        refine value_ (w1:=?_) (v:=?_) (by rfl) rfl ?_ ?_
        rotate_left 2
        ·
         go_simp
         constructor
         ·
          rfl
         ·
          rfl
        have hB:Below V.heap.size V (V.alloc (.cells #[.bool false,.slice none 0 0,.slice none 0 0] 25 (0,0))):=zab (Below.refl _ _) _
        have hN:=zbp V (.cells #[.bool false,.slice none 0 0,.slice none 0 0] 25 (0,0))
        have hbn:=Aside0.mk (zag hbv.out hB)
        refine hK.out _ _ ((HF.out _ hbn.out).1) (fun hHeld=>?_)
        clear hK K
        refine zaS (a':=?_) ?_ ?_
        rotate_left
        ·
         show Act.put _ (some 5) _=_
         simp only [Act.put,List.setIfInBounds_toArray,List.set_cons_zero,List.set_cons_succ,zaq,zar]
         rfl
        exact zaS (by first | (simp only [putAll,Act.put,List.setIfInBounds_toArray,List.set_cons_zero,List.set_cons_succ]; done) | (simp only [putAll,Act.put,List.setIfInBounds_toArray,List.set_cons_zero,List.set_cons_succ]; rfl)) (hJ1_3_4 (A1,c1,B1,d1,A3,c3,B3,d3,V.heap.size) _ ⟨(HF.out _ hbn.out).1,K1.out.below hB,K3.out.below hB,⟨hN,hbv.out.size⟩,hbn.out⟩)
       ·
        skip
        refine value_ (w1:=?_) (v:=?_) (by rfl) rfl ?_ ?_
        rotate_left 2
        ·
         go_simp
         constructor
         ·
          rfl
         ·
          rfl
        have hB:Below V.heap.size V (V.alloc (.cells #[.bool false,.slice none 0 0,.slice none 0 0] 25 (0,0))):=zab (Below.refl _ _) _
        have hN:=zbp V (.cells #[.bool false,.slice none 0 0,.slice none 0 0] 25 (0,0))
        have hbn:=Aside0.mk (zag hbv.out hB)
        refine hK.out _ _ ((HF.out _ hbn.out).1) (fun hHeld=>?_)
        clear hK K
        refine zaS (a':=?_) ?_ ?_
        rotate_left
        ·
         show Act.put _ (some 6) _=_
         simp only [Act.put,List.setIfInBounds_toArray,List.set_cons_zero,List.set_cons_succ,zaq,zar]
         rfl
        exact zaS (by first | (simp only [putAll,Act.put,List.setIfInBounds_toArray,List.set_cons_zero,List.set_cons_succ]; done) | (simp only [putAll,Act.put,List.setIfInBounds_toArray,List.set_cons_zero,List.set_cons_succ]; rfl)) (hJ1_3_5 (A1,c1,B1,d1,A3,c3,B3,d3,V.heap.size) _ ⟨(HF.out _ hbn.out).1,K1.out.below hB,K3.out.below hB,⟨hN,hbv.out.size⟩,hbn.out⟩)
     ·
      skip
      rintro⟨A1,c1,B1,d1,g4,g5⟩ V ⟨hHeld,kK1,kK4,kK5,kE4_5,hb⟩
      have K1:=Aside0.mk kK1
      have K4:=Aside0.mk kK4
      have K5:=Aside0.mk kK5
      have E4_5:=Aside0.mk kE4_5
      have hbv:=Aside0.mk hb
      clear hb kK1 kK4 kK5 kE4_5
      refine zaS (a':=?_) ?_ ?_
      rotate_left
      ·
       simp only [putAll,Act.put,List.setIfInBounds_toArray,List.set_cons_zero,List.set_cons_succ]
       rfl
      refine one_ (i:=3) (N:=some 30) #[true,true,true,true,true,true,false,false] rfl rfl (zaO HT_.out (by kernel_rfl)) (by decide) (fun K hK=>?_)
      refine za7 Try.func17 (by kernel_rfl) rfl #[.agg #[.bool n2,.slice Aa2 p2.length ca2,.slice Ab2 q2.length cb2]] (by rfl) rfl rfl (by (try simp only [List.map_toArray,List.map_cons,List.map_nil]); first | done | rfl) ?_
      refine(ownR_n2 (HM20.out V (HF.out _ hbv.out).2) (HM21.out V (HF.out _ hbv.out).2) HS_p2.out HS_q2.out).mono ?_
      rintro e Vn ⟨v1_,v2_,rfl,R1,R2,hB⟩
      refine⟨_,rfl,?_⟩
      obtain⟨A3,c3,rfl⟩:=Kd.R_slice R1
      obtain⟨B3,d3,rfl⟩:=Kd.R_slice R2
      have new:ORT Vn w.heap.size (.agg #[.bool n2,.slice A3 p2.length c3,.slice B3 q2.length d3]) n2 p2 q2:=⟨_,_,rfl,Kd.R_lower R1 (HF.out _ hbv.out).2.size,Kd.R_lower R2 (HF.out _ hbv.out).2.size⟩
      have hbn:=Aside0.mk (zag hbv.out hB)
      refine hK.out _ _ ((HF.out _ hbn.out).1) (fun hHeld=>?_)
      clear hK K
      refine zaS (a':=?_) ?_ ?_
      rotate_left
      ·
       show Act.put _ (some 30) _=_
       simp only [Act.put,List.setIfInBounds_toArray,List.set_cons_zero,List.set_cons_succ,zaq,zar]
       rfl
      exact zaS (by first | (simp only [putAll,Act.put,List.setIfInBounds_toArray,List.set_cons_zero,List.set_cons_succ]; done) | (simp only [putAll,Act.put,List.setIfInBounds_toArray,List.set_cons_zero,List.set_cons_succ]; rfl)) (hJ1_3_4_5 (A1,c1,B1,d1,A3,c3,B3,d3,g4,g5) _ ⟨(HF.out _ hbn.out).1,K1.out.below hB,new,⟨zal K4.out.1 hB,K4.out.2⟩,⟨zal K5.out.1 hB,K5.out.2⟩,E4_5.out,hbn.out⟩)
    ·
     skip
     rintro⟨A1,c1,B1,d1,A3,c3,B3,d3,g5⟩ V ⟨hHeld,kK1,kK3,kK5,hb⟩
     have K1:=Aside0.mk kK1
     have K3:=Aside0.mk kK3
     have K5:=Aside0.mk kK5
     have hbv:=Aside0.mk hb
     clear hb kK1 kK3 kK5
     refine zaS (a':=?_) ?_ ?_
     rotate_left
     ·
      simp only [putAll,Act.put,List.setIfInBounds_toArray,List.set_cons_zero,List.set_cons_succ]
      rfl
     refine one_ (i:=4) (N:=some 5) #[true,true,true,true,true,true,false,false] rfl rfl (zaO HT_.out (by kernel_rfl)) (by decide) (fun K hK=>?_)
     refine value_ (w1:=?_) (v:=?_) (by rfl) rfl ?_ ?_
     rotate_left 2
     ·
      go_simp
      constructor
      ·
       rfl
      ·
       rfl
     have hB:Below V.heap.size V (V.alloc (.cells #[.bool false,.slice none 0 0,.slice none 0 0] 25 (0,0))):=zab (Below.refl _ _) _
     have hN:=zbp V (.cells #[.bool false,.slice none 0 0,.slice none 0 0] 25 (0,0))
     have hbn:=Aside0.mk (zag hbv.out hB)
     refine hK.out _ _ ((HF.out _ hbn.out).1) (fun hHeld=>?_)
     clear hK K
     refine zaS (a':=?_) ?_ ?_
     rotate_left
     ·
      show Act.put _ (some 5) _=_
      simp only [Act.put,List.setIfInBounds_toArray,List.set_cons_zero,List.set_cons_succ,zaq,zar]
      rfl
     exact zaS (by first | (simp only [putAll,Act.put,List.setIfInBounds_toArray,List.set_cons_zero,List.set_cons_succ]; done) | (simp only [putAll,Act.put,List.setIfInBounds_toArray,List.set_cons_zero,List.set_cons_succ]; rfl)) (hJ1_3_4_5 (A1,c1,B1,d1,A3,c3,B3,d3,V.heap.size,g5) _ ⟨(HF.out _ hbn.out).1,K1.out.below hB,K3.out.below hB,⟨hN,hbv.out.size⟩,⟨zal K5.out.1 hB,K5.out.2⟩,(Nat.ne_of_lt (zaD K5.out.1)).symm,hbn.out⟩)
   ·
    skip
    rintro⟨A1,c1,B1,d1,A3,c3,B3,d3,g4⟩ V ⟨hHeld,kK1,kK3,kK4,hb⟩
    have K1:=Aside0.mk kK1
    have K3:=Aside0.mk kK3
    have K4:=Aside0.mk kK4
    have hbv:=Aside0.mk hb
    clear hb kK1 kK3 kK4
    refine zaS (a':=?_) ?_ ?_
    rotate_left
    ·
     simp only [putAll,Act.put,List.setIfInBounds_toArray,List.set_cons_zero,List.set_cons_succ]
     rfl
    refine one_ (i:=5) (N:=some 6) #[true,true,true,true,true,true,false,false] rfl rfl (zaO HT_.out (by kernel_rfl)) (by decide) (fun K hK=>?_)
    refine value_ (w1:=?_) (v:=?_) (by rfl) rfl ?_ ?_
    rotate_left 2
    ·
     go_simp
     constructor
     ·
      rfl
     ·
      rfl
    have hB:Below V.heap.size V (V.alloc (.cells #[.bool false,.slice none 0 0,.slice none 0 0] 25 (0,0))):=zab (Below.refl _ _) _
    have hN:=zbp V (.cells #[.bool false,.slice none 0 0,.slice none 0 0] 25 (0,0))
    have hbn:=Aside0.mk (zag hbv.out hB)
    refine hK.out _ _ ((HF.out _ hbn.out).1) (fun hHeld=>?_)
    clear hK K
    refine zaS (a':=?_) ?_ ?_
    rotate_left
    ·
     show Act.put _ (some 6) _=_
     simp only [Act.put,List.setIfInBounds_toArray,List.set_cons_zero,List.set_cons_succ,zaq,zar]
     rfl
    exact zaS (by first | (simp only [putAll,Act.put,List.setIfInBounds_toArray,List.set_cons_zero,List.set_cons_succ]; done) | (simp only [putAll,Act.put,List.setIfInBounds_toArray,List.set_cons_zero,List.set_cons_succ]; rfl)) (hJ1_3_4_5 (A1,c1,B1,d1,A3,c3,B3,d3,g4,V.heap.size) _ ⟨(HF.out _ hbn.out).1,K1.out.below hB,K3.out.below hB,⟨zal K4.out.1 hB,K4.out.2⟩,⟨hN,hbv.out.size⟩,Nat.ne_of_lt (zaD K4.out.1),hbn.out⟩)
  rintro⟨A1,c1,B1,d1,A3,c3,B3,d3,g4,g5⟩ V ⟨hHeld,kK1,kK3,kK4,kK5,kE4_5,hb⟩
  have K1:=Aside0.mk kK1
  have K3:=Aside0.mk kK3
  have K4:=Aside0.mk kK4
  have K5:=Aside0.mk kK5
  have E4_5:=Aside0.mk kE4_5
  have hbv:=Aside0.mk hb
  clear hb kK1 kK3 kK4 kK5 kE4_5
  refine zaS (a':=?_) ?_ ?_
  rotate_left
  ·
   simp only [putAll,Act.put,List.setIfInBounds_toArray,List.set_cons_zero,List.set_cons_succ]
   rfl
  refine last_ (i:=6) (N:=none) #[true,true,true,true,true,true,true,false] rfl rfl (zaO HT_.out (by kernel_rfl)) (by decide) (fun K hK=>?_)
  obtain⟨⟨z0,z1,z2⟩,z3,z4,z5⟩:=zat K4.out.1
  obtain⟨⟨z6,z7,z8⟩,z9,z10,z11⟩:=zat K5.out.1
  have ne1:=E4_5.out
  have ne2:=ne1.symm
  refine skip_ (w1:=?_) (by rfl) rfl ?_ ?_
  rotate_left
  ·
   go_simp
   rfl
  refine hK.out _ _ ?_
  clear hK K
  refine last_ (i:=7) (N:=none) #[true,true,true,true,true,true,true,true] rfl rfl (zaO HT_.out (by kernel_rfl)) (by decide) (fun K hK=>?_)
  refine skip_ (w1:=?_) (by rfl) rfl ?_ ?_
  rotate_left
  ·
   go_simp
   rfl
  refine hK.out _ _ ?_
  clear hK K
  refine done_ (done_of HT_.out (by kernel_rfl)) ?_
  clear hHeld z0 z1 z2 z3 z4 z5 z6 z7 z8 z9 z10 z11 ne1 ne2
  rw [store3_eq,store3_eq]
  have hg4:=(zbk E4_5.out (.bool n2) (.slice A3 p2.length c3) (.slice B3 q2.length d3)).trans (zaK (K4.out.1) (.bool n1) (.slice A1 p1.length c1) (.slice B1 q1.length d1))
  have hg5:=zaK ((zbk E4_5.out.symm (.bool n1) (.slice A1 p1.length c1) (.slice B1 q1.length d1)).trans (K5.out.1)) (.bool n2) (.slice A3 p2.length c3) (.slice B3 q2.length d3)
  have hq1:=((K1.out.store3 K4.out.1 (.bool n1) (.slice A1 p1.length c1) (.slice B1 q1.length d1)).store3 ((zbk E4_5.out.symm (.bool n1) (.slice A1 p1.length c1) (.slice B1 q1.length d1)).trans (K5.out.1)) (.bool n2) (.slice A3 p2.length c3) (.slice B3 q2.length d3))
  have hq3:=((K3.out.store3 K4.out.1 (.bool n1) (.slice A1 p1.length c1) (.slice B1 q1.length d1)).store3 ((zbk E4_5.out.symm (.bool n1) (.slice A1 p1.length c1) (.slice B1 q1.length d1)).trans (K5.out.1)) (.bool n2) (.slice A3 p2.length c3) (.slice B3 q2.length d3))
  have hb8:Below W2.heap.size W2 (store3 (store3 V g4 (.bool n1) (.slice A1 p1.length c1) (.slice B1 q1.length d1)) g5 (.bool n2) (.slice A3 p2.length c3) (.slice B3 q2.length d3)):=zaL (zaL (hbv.out) K4.out.2 (.bool n1) (.slice A1 p1.length c1) (.slice B1 q1.length d1)) K5.out.2 (.bool n2) (.slice A3 p2.length c3) (.slice B3 q2.length d3)
  generalize store3 (store3 V g4 (.bool n1) (.slice A1 p1.length c1) (.slice B1 q1.length d1)) g5 (.bool n2) (.slice A3 p2.length c3) (.slice B3 q2.length d3)=W8 at hg4 hg5 hq1 hq3 hb8 ⊢
  clear hbv K1 K3 K4 K5 E4_5
  replace HX1:=Aside0.mk (zal HX1.out hb8)
  replace HX2:=Aside0.mk (zal HX2.out hb8)
  have HB8:=Aside0.mk (HF.out _ hb8).2
  have GA:=Aside0.mk hg4
  have GB:=Aside0.mk hg5
  have OA:=Aside0.mk hq1
  have OB:=Aside0.mk hq3
  clear hq1 hq3 hb8 HF HB2 hb0
  have NA:=Aside0.mk (fun (W:World) (hb:Below W8.heap.size W8 W)=>(OA.out.below hb).nr HS_p1.out HS_q1.out)
  have NB:=Aside0.mk (fun (W:World) (hb:Below W8.heap.size W8 W)=>(OB.out.below hb).nr HS_p2.out HS_q2.out)
  have KK:=Aside0.mk (And.intro (OA.out.nr HS_p1.out HS_q1.out).okQ (OB.out.nr HS_p2.out HS_q2.out).okQ)
  have OKD:=Aside0.mk (And.intro HS_p1.out.okD HS_q1.out.okD)
  obtain⟨⟨x0,x1,x2⟩,x3,x4,x5⟩:=zat hg4
  obtain⟨⟨y0,y1,y2⟩,y3,y4,y5⟩:=zat hg5
  clear hg4 hg5
  go_wp2_with fail
  clear x0 x1 x2 x3 x4 x5 y0 y1 y2 y3 y4 y5
  refine((div_n (NA.out W8 (Below.refl _ _)) (NB.out W8 (Below.refl _ _))).mono (fun e w' h=>MakePost.ip h (Nat.le_refl W8.heap.size))).mono ?_
  rintro e W9 ⟨nd,Ad,md,cd,Bd,kd,dd,xd,rfl,i1,i2,hB⟩
  have hA:Below W9.heap.size W9 (W9.alloc (.cells #[.bool nd,.slice Ad md cd,.slice Bd kd dd] 25)):=zab (Below.refl _ _) _
  have hN:=zbp W9 (.cells #[.bool nd,.slice Ad md cd,.slice Bd kd dd] 25)
  obtain⟨W10,hW⟩:∃ W,W=W9.alloc (.cells #[.bool nd,.slice Ad md cd,.slice Bd kd dd] 25):=⟨_,rfl⟩
  obtain⟨gd,hgx⟩:∃ g,g=W9.heap.size:=⟨_,rfl⟩
  rw [← hW] at hA hN
  rw [← hgx] at hN
  have hb10:=zag hB hA
  have GD:=Aside0.mk hN
  have ID1:=Aside0.mk (i1.below hA)
  have ID2:=Aside0.mk (i2.below hA)
  have HB10:=Aside0.mk hb10
  have HW:=Aside0.mk hW
  have HG:=Aside0.mk hgx
  have gA:W9.heap[g4]? = _:=zal GA.out hB
  have lA:=zaD gA
  obtain⟨⟨x0,x1,x2⟩,x3,x4,x5⟩:=zat gA
  clear gA hA hN hW hgx hB i1 i2 hb10
  go_wp2_with fail
  rw [← HW.out,← HG.out]
  clear x0 x1 x2 x3 x4 x5 lA HW HG
  refine((make_n ((OA.out.below HB10.out).nl.1) ((OA.out.below HB10.out).nl.2) OKD.out.1 OKD.out.2).mono (fun e w' h=>MakePost.ip h HB10.out.size)).mono ?_
  rintro e W11 ⟨nm,Am,mm,cm,Bm,km,dm,xm,rfl,i1,i2,hB⟩
  have hA:Below W11.heap.size W11 (W11.alloc (.cells #[.bool nm,.slice Am mm cm,.slice Bm km dm] 25)):=zab (Below.refl _ _) _
  have hN:=zbp W11 (.cells #[.bool nm,.slice Am mm cm,.slice Bm km dm] 25)
  obtain⟨W12,hW⟩:∃ W,W=W11.alloc (.cells #[.bool nm,.slice Am mm cm,.slice Bm km dm] 25):=⟨_,rfl⟩
  obtain⟨gm,hgx⟩:∃ g,g=W11.heap.size:=⟨_,rfl⟩
  rw [← hW] at hA hN
  rw [← hgx] at hN
  have hb12:=zag hB hA
  have GM:=Aside0.mk hN
  have IM1:=Aside0.mk (i1.below hA)
  have IM2:=Aside0.mk (i2.below hA)
  replace GD:=Aside0.mk (zal GD.out hb12)
  replace ID1:=Aside0.mk (ID1.out.below hb12)
  replace ID2:=Aside0.mk (ID2.out.below hb12)
  have HB12:=Aside0.mk (zag HB10.out hb12)
  have HW:=Aside0.mk hW
  have HG:=Aside0.mk hgx
  clear hA hN hW hgx hB i1 i2 hb12 HB10
  go_wp2_with fail
  rw [← HW.out,← HG.out]
  clear HW HG
  have HI:Aside0 (∀ w':World,Below W12.heap.size W12 w'→(w'.cell? ⟨g4,0,none⟩=some (.bool n1)∧w'.cell? ⟨g4,1,none⟩=some (.slice A1 p1.length c1)∧w'.cell? ⟨g4,2,none⟩=some (.slice B1 q1.length d1)∧w'.cell? ⟨g5,0,none⟩=some (.bool n2)∧w'.cell? ⟨g5,1,none⟩=some (.slice A3 p2.length c3)∧w'.cell? ⟨g5,2,none⟩=some (.slice B3 q2.length d3)∧w'.cell? ⟨gd,0,none⟩=some (.bool nd)∧w'.cell? ⟨gd,1,none⟩=some (.slice Ad md cd)∧w'.cell? ⟨gd,2,none⟩=some (.slice Bd kd dd)∧w'.cell? ⟨gm,0,none⟩=some (.bool nm)∧w'.cell? ⟨gm,1,none⟩=some (.slice Am mm cm)∧w'.cell? ⟨gm,2,none⟩=some (.slice Bm km dm))∧Below W8.heap.size W8 w'):=⟨fun W hb=>⟨⟨(zai (zal GA.out (zag HB12.out hb)) 0).trans rfl,(zai (zal GA.out (zag HB12.out hb)) 1).trans rfl,(zai (zal GA.out (zag HB12.out hb)) 2).trans rfl,(zai (zal GB.out (zag HB12.out hb)) 0).trans rfl,(zai (zal GB.out (zag HB12.out hb)) 1).trans rfl,(zai (zal GB.out (zag HB12.out hb)) 2).trans rfl,(zai (zal GD.out hb) 0).trans rfl,(zai (zal GD.out hb) 1).trans rfl,(zai (zal GD.out hb) 2).trans rfl,(zai (zal GM.out hb) 0).trans rfl,(zai (zal GM.out hb) 1).trans rfl,(zai (zal GM.out hb) 2).trans rfl⟩,zag HB12.out hb⟩⟩
  refine start_ (n:=19) (S:=fun w'=>(w'.cell? ⟨g4,0,none⟩=some (.bool n1)∧w'.cell? ⟨g4,1,none⟩=some (.slice A1 p1.length c1)∧w'.cell? ⟨g4,2,none⟩=some (.slice B1 q1.length d1)∧w'.cell? ⟨g5,0,none⟩=some (.bool n2)∧w'.cell? ⟨g5,1,none⟩=some (.slice A3 p2.length c3)∧w'.cell? ⟨g5,2,none⟩=some (.slice B3 q2.length d3)∧w'.cell? ⟨gd,0,none⟩=some (.bool nd)∧w'.cell? ⟨gd,1,none⟩=some (.slice Ad md cd)∧w'.cell? ⟨gd,2,none⟩=some (.slice Bd kd dd)∧w'.cell? ⟨gm,0,none⟩=some (.bool nm)∧w'.cell? ⟨gm,1,none⟩=some (.slice Am mm cm)∧w'.cell? ⟨gm,2,none⟩=some (.slice Bm km dm))) (ds:=[]) #[false,false,false,false,false,false,false,false,false,false,false,false,false,false,false,false,false,false,false] (by kernel_rfl) rfl rfl ((HI.out _ (zac (Below.refl _ _))).1) (fun hHeld=>?_)
  refine with_tabW ratOwn.tab6 ratOwn.bits6 (fun HT_ HW_=>?_)
  have hb0:=Aside0.mk (show Below W12.heap.size W12 W12.drew from zac (Below.refl _ _))
  replace ID1:=Aside0.mk (ID1.out.below hb0.out)
  replace ID2:=Aside0.mk (ID2.out.below hb0.out)
  replace IM1:=Aside0.mk (IM1.out.below hb0.out)
  replace IM2:=Aside0.mk (IM2.out.below hb0.out)
  generalize W12.drew=V0 at hb0 hHeld ID1 ID2 IM1 IM2 ⊢
  refine take_ (i:=0) (N:=some 47) (v:=?_) (a':=?_) #[true,false,false,false,false,false,false,false,false,false,false,false,false,false,false,false,false,false,false] rfl rfl (zaQ HT_.out HW_.out (by kernel_rfl)) (fun _ _ _ h=>h) (Or.inl ⟨by rfl,?_⟩) hHeld ?_ ?_
  rotate_left
  ·
   intro w' s0
   go_simp
   with_reducible rfl
  rotate_left
  ·
   simp only [Act.put,List.setIfInBounds_toArray,List.set_cons_zero,List.set_cons_succ,zaq,zar]
   rfl
  refine take_ (i:=2) (N:=some 49) (v:=?_) (a':=?_) #[true,false,true,false,false,false,false,false,false,false,false,false,false,false,false,false,false,false,false] rfl rfl (zaQ HT_.out HW_.out (by kernel_rfl)) (fun _ _ _ h=>h) (Or.inl ⟨by rfl,?_⟩) hHeld ?_ ?_
  rotate_left
  ·
   intro w' s0
   go_simp
   with_reducible rfl
  rotate_left
  ·
   simp only [Act.put,List.setIfInBounds_toArray,List.set_cons_zero,List.set_cons_succ,zaq,zar]
   rfl
  refine take_ (i:=3) (N:=some 50) (v:=?_) (a':=?_) #[true,false,true,true,false,false,false,false,false,false,false,false,false,false,false,false,false,false,false] rfl rfl (zaQ HT_.out HW_.out (by kernel_rfl)) (fun _ _ _ h=>h) (Or.inl ⟨by rfl,?_⟩) hHeld ?_ ?_
  rotate_left
  ·
   intro w' s0
   go_simp
   with_reducible rfl
  rotate_left
  ·
   simp only [Act.put,List.setIfInBounds_toArray,List.set_cons_zero,List.set_cons_succ,zaq,zar]
   rfl
  refine take_ (i:=5) (N:=some 52) (v:=?_) (a':=?_) #[true,false,true,true,false,true,false,false,false,false,false,false,false,false,false,false,false,false,false] rfl rfl (zaQ HT_.out HW_.out (by kernel_rfl)) (fun _ _ _ h=>h) (Or.inl ⟨by rfl,?_⟩) hHeld ?_ ?_
  rotate_left
  ·
   intro w' s0
   go_simp
   with_reducible rfl
  rotate_left
  ·
   simp only [Act.put,List.setIfInBounds_toArray,List.set_cons_zero,List.set_cons_succ,zaq,zar]
   rfl
  refine take_ (i:=6) (N:=some 53) (v:=?_) (a':=?_) #[true,false,true,true,false,true,true,false,false,false,false,false,false,false,false,false,false,false,false] rfl rfl (zaQ HT_.out HW_.out (by kernel_rfl)) (fun _ _ _ h=>h) (Or.inl ⟨by rfl,?_⟩) hHeld ?_ ?_
  rotate_left
  ·
   intro w' s0
   go_simp
   with_reducible rfl
  rotate_left
  ·
   simp only [Act.put,List.setIfInBounds_toArray,List.set_cons_zero,List.set_cons_succ,zaq,zar]
   rfl
  refine take_ (i:=8) (N:=some 55) (v:=?_) (a':=?_) #[true,false,true,true,false,true,true,false,true,false,false,false,false,false,false,false,false,false,false] rfl rfl (zaQ HT_.out HW_.out (by kernel_rfl)) (fun _ _ _ h=>h) (Or.inl ⟨by rfl,?_⟩) hHeld ?_ ?_
  rotate_left
  ·
   intro w' s0
   go_simp
   with_reducible rfl
  rotate_left
  ·
   simp only [Act.put,List.setIfInBounds_toArray,List.set_cons_zero,List.set_cons_succ,zaq,zar]
   rfl
  refine take_ (i:=9) (N:=some 56) (v:=?_) (a':=?_) #[true,false,true,true,false,true,true,false,true,true,false,false,false,false,false,false,false,false,false] rfl rfl (zaQ HT_.out HW_.out (by kernel_rfl)) (fun _ _ _ h=>h) (Or.inl ⟨by rfl,?_⟩) hHeld ?_ ?_
  rotate_left
  ·
   intro w' s0
   go_simp
   with_reducible rfl
  rotate_left
  ·
   simp only [Act.put,List.setIfInBounds_toArray,List.set_cons_zero,List.set_cons_succ,zaq,zar]
   rfl
  refine take_ (i:=11) (N:=some 58) (v:=?_) (a':=?_) #[true,false,true,true,false,true,true,false,true,true,false,true,false,false,false,false,false,false,false] rfl rfl (zaQ HT_.out HW_.out (by kernel_rfl)) (fun _ _ _ h=>h) (Or.inl ⟨by rfl,?_⟩) hHeld ?_ ?_
  rotate_left
  ·
   intro w' s0
   go_simp
   with_reducible rfl
  rotate_left
  ·
   simp only [Act.put,List.setIfInBounds_toArray,List.set_cons_zero,List.set_cons_succ,zaq,zar]
   rfl
  refine take_ (i:=13) (N:=some 60) (v:=?_) (a':=?_) #[true,false,true,true,false,true,true,false,true,true,false,true,false,true,false,false,false,false,false] rfl rfl (zaQ HT_.out HW_.out (by kernel_rfl)) (fun _ _ _ h=>h) (Or.inl ⟨by rfl,?_⟩) hHeld ?_ ?_
  rotate_left
  ·
   intro w' s0
   go_simp
   with_reducible rfl
  rotate_left
  ·
   simp only [Act.put,List.setIfInBounds_toArray,List.set_cons_zero,List.set_cons_succ,zaq,zar]
   rfl
  refine take_ (i:=15) (N:=some 62) (v:=?_) (a':=?_) #[true,false,true,true,false,true,true,false,true,true,false,true,false,true,false,true,false,false,false] rfl rfl (zaQ HT_.out HW_.out (by kernel_rfl)) (fun _ _ _ h=>h) (Or.inl ⟨by rfl,?_⟩) hHeld ?_ ?_
  rotate_left
  ·
   intro w' s0
   go_simp
   with_reducible rfl
  rotate_left
  ·
   simp only [Act.put,List.setIfInBounds_toArray,List.set_cons_zero,List.set_cons_succ,zaq,zar]
   rfl
  refine take_ (i:=16) (N:=some 63) (v:=?_) (a':=?_) #[true,false,true,true,false,true,true,false,true,true,false,true,false,true,false,true,true,false,false] rfl rfl (zaQ HT_.out HW_.out (by kernel_rfl)) (fun _ _ _ h=>h) (Or.inl ⟨by rfl,?_⟩) hHeld ?_ ?_
  rotate_left
  ·
   intro w' s0
   go_simp
   with_reducible rfl
  rotate_left
  ·
   simp only [Act.put,List.setIfInBounds_toArray,List.set_cons_zero,List.set_cons_succ,zaq,zar]
   rfl
  refine one_ (i:=1) (N:=some 48) #[true,true,true,true,false,true,true,false,true,true,false,true,false,true,false,true,true,false,false] rfl rfl (zaO HT_.out (by kernel_rfl)) (by decide) (fun K hK=>?_)
  refine za7 Try.func16 (by kernel_rfl) rfl #[.agg #[.bool n1,.slice A1 p1.length c1,.slice B1 q1.length d1]] (by rfl) rfl rfl (by (try simp only [List.map_toArray,List.map_cons,List.map_nil]); first | done | rfl) ?_
  refine((norm_n (NA.out V0 (HI.out _ hb0.out).2)).mono (fun e w' h=>RTPost.ip h (HI.out _ hb0.out).2.size)).mono ?_
  rintro e V1 ⟨n1_,A1_,m1_,c1_,B1_,k1_,d1_,rfl,j1,j2,hB⟩
  refine⟨_,rfl,?_⟩
  replace ID1:=Aside0.mk (ID1.out.below hB)
  replace ID2:=Aside0.mk (ID2.out.below hB)
  replace IM1:=Aside0.mk (IM1.out.below hB)
  replace IM2:=Aside0.mk (IM2.out.below hB)
  have I1a:=Aside0.mk j1
  have I1b:=Aside0.mk j2
  have hb1:=Aside0.mk (zag hb0.out hB)
  clear hB hb0 j1 j2
  refine hK.out _ _ ((HI.out _ hb1.out).1) (fun hHeld=>?_)
  clear hK K
  refine zaS (a':=?_) ?_ ?_
  rotate_left
  ·
   show Act.put _ (some 48) _=_
   simp only [Act.put,List.setIfInBounds_toArray,List.set_cons_zero,List.set_cons_succ,zaq,zar]
   rfl
  refine one_ (i:=4) (N:=some 51) #[true,true,true,true,true,true,true,false,true,true,false,true,false,true,false,true,true,false,false] rfl rfl (zaO HT_.out (by kernel_rfl)) (by decide) (fun K hK=>?_)
  refine za7 Try.func31 (by kernel_rfl) rfl #[.agg #[.bool n1,.slice A1 p1.length c1,.slice B1 q1.length d1],.agg #[.bool n2,.slice A3 p2.length c3,.slice B3 q2.length d3]] (by rfl) rfl rfl (by (try simp only [List.map_toArray,List.map_cons,List.map_nil]); first | done | rfl) ?_
  refine((add_n (NA.out V1 (HI.out _ hb1.out).2) (NB.out V1 (HI.out _ hb1.out).2)).mono (fun e w' h=>RTPost.ip h (HI.out _ hb1.out).2.size)).mono ?_
  rintro e V2 ⟨n4_,A4_,m4_,c4_,B4_,k4_,d4_,rfl,j1,j2,hB⟩
  refine⟨_,rfl,?_⟩
  replace ID1:=Aside0.mk (ID1.out.below hB)
  replace ID2:=Aside0.mk (ID2.out.below hB)
  replace IM1:=Aside0.mk (IM1.out.below hB)
  replace IM2:=Aside0.mk (IM2.out.below hB)
  replace I1a:=Aside0.mk (I1a.out.below hB)
  replace I1b:=Aside0.mk (I1b.out.below hB)
  have I4a:=Aside0.mk j1
  have I4b:=Aside0.mk j2
  have hb2:=Aside0.mk (zag hb1.out hB)
  clear hB hb1 j1 j2
  refine hK.out _ _ ((HI.out _ hb2.out).1) (fun hHeld=>?_)
  clear hK K
  refine zaS (a':=?_) ?_ ?_
  rotate_left
  ·
   show Act.put _ (some 51) _=_
   simp only [Act.put,List.setIfInBounds_toArray,List.set_cons_zero,List.set_cons_succ,zaq,zar]
   rfl
  refine one_ (i:=7) (N:=some 54) #[true,true,true,true,true,true,true,true,true,true,false,true,false,true,false,true,true,false,false] rfl rfl (zaO HT_.out (by kernel_rfl)) (by decide) (fun K hK=>?_)
  refine za7 Try.func33 (by kernel_rfl) rfl #[.agg #[.bool n1,.slice A1 p1.length c1,.slice B1 q1.length d1],.agg #[.bool n2,.slice A3 p2.length c3,.slice B3 q2.length d3]] (by rfl) rfl rfl (by (try simp only [List.map_toArray,List.map_cons,List.map_nil]); first | done | rfl) ?_
  refine((sub_n (NA.out V2 (HI.out _ hb2.out).2) (NB.out V2 (HI.out _ hb2.out).2)).mono (fun e w' h=>RTPost.ip h (HI.out _ hb2.out).2.size)).mono ?_
  rintro e V3 ⟨n7_,A7_,m7_,c7_,B7_,k7_,d7_,rfl,j1,j2,hB⟩
  refine⟨_,rfl,?_⟩
  replace ID1:=Aside0.mk (ID1.out.below hB)
  replace ID2:=Aside0.mk (ID2.out.below hB)
  replace IM1:=Aside0.mk (IM1.out.below hB)
  replace IM2:=Aside0.mk (IM2.out.below hB)
  replace I1a:=Aside0.mk (I1a.out.below hB)
  replace I1b:=Aside0.mk (I1b.out.below hB)
  replace I4a:=Aside0.mk (I4a.out.below hB)
  replace I4b:=Aside0.mk (I4b.out.below hB)
  have I7a:=Aside0.mk j1
  have I7b:=Aside0.mk j2
  have hb3:=Aside0.mk (zag hb2.out hB)
  clear hB hb2 j1 j2
  refine hK.out _ _ ((HI.out _ hb3.out).1) (fun hHeld=>?_)
  clear hK K
  refine zaS (a':=?_) ?_ ?_
  rotate_left
  ·
   show Act.put _ (some 54) _=_
   simp only [Act.put,List.setIfInBounds_toArray,List.set_cons_zero,List.set_cons_succ,zaq,zar]
   rfl
  refine one_ (i:=10) (N:=some 57) #[true,true,true,true,true,true,true,true,true,true,true,true,false,true,false,true,true,false,false] rfl rfl (zaO HT_.out (by kernel_rfl)) (by decide) (fun K hK=>?_)
  refine za7 Try.func35 (by kernel_rfl) rfl #[.agg #[.bool n1,.slice A1 p1.length c1,.slice B1 q1.length d1],.agg #[.bool n2,.slice A3 p2.length c3,.slice B3 q2.length d3]] (by rfl) rfl rfl (by (try simp only [List.map_toArray,List.map_cons,List.map_nil]); first | done | rfl) ?_
  refine((mul_n (NA.out V3 (HI.out _ hb3.out).2) (NB.out V3 (HI.out _ hb3.out).2)).mono (fun e w' h=>RTPost.ip h (HI.out _ hb3.out).2.size)).mono ?_
  rintro e V4 ⟨n10_,A10_,m10_,c10_,B10_,k10_,d10_,rfl,j1,j2,hB⟩
  refine⟨_,rfl,?_⟩
  replace ID1:=Aside0.mk (ID1.out.below hB)
  replace ID2:=Aside0.mk (ID2.out.below hB)
  replace IM1:=Aside0.mk (IM1.out.below hB)
  replace IM2:=Aside0.mk (IM2.out.below hB)
  replace I1a:=Aside0.mk (I1a.out.below hB)
  replace I1b:=Aside0.mk (I1b.out.below hB)
  replace I4a:=Aside0.mk (I4a.out.below hB)
  replace I4b:=Aside0.mk (I4b.out.below hB)
  replace I7a:=Aside0.mk (I7a.out.below hB)
  replace I7b:=Aside0.mk (I7b.out.below hB)
  have I10a:=Aside0.mk j1
  have I10b:=Aside0.mk j2
  have hb4:=Aside0.mk (zag hb3.out hB)
  clear hB hb3 j1 j2
  refine hK.out _ _ ((HI.out _ hb4.out).1) (fun hHeld=>?_)
  clear hK K
  refine zaS (a':=?_) ?_ ?_
  rotate_left
  ·
   show Act.put _ (some 57) _=_
   simp only [Act.put,List.setIfInBounds_toArray,List.set_cons_zero,List.set_cons_succ,zaq,zar]
   rfl
  refine one_ (i:=12) (N:=some 59) #[true,true,true,true,true,true,true,true,true,true,true,true,true,true,false,true,true,false,false] rfl rfl (zaO HT_.out (by kernel_rfl)) (by decide) (fun K hK=>?_)
  refine za7 Try.func37 (by kernel_rfl) rfl #[.agg #[.bool n1,.slice A1 p1.length c1,.slice B1 q1.length d1]] (by rfl) rfl rfl (by (try simp only [List.map_toArray,List.map_cons,List.map_nil]); first | done | rfl) ?_
  refine((neg_n (NA.out V4 (HI.out _ hb4.out).2)).mono (fun e w' h=>RTPost.ip h (HI.out _ hb4.out).2.size)).mono ?_
  rintro e V5 ⟨n12_,A12_,m12_,c12_,B12_,k12_,d12_,rfl,j1,j2,hB⟩
  refine⟨_,rfl,?_⟩
  replace ID1:=Aside0.mk (ID1.out.below hB)
  replace ID2:=Aside0.mk (ID2.out.below hB)
  replace IM1:=Aside0.mk (IM1.out.below hB)
  replace IM2:=Aside0.mk (IM2.out.below hB)
  replace I1a:=Aside0.mk (I1a.out.below hB)
  replace I1b:=Aside0.mk (I1b.out.below hB)
  replace I4a:=Aside0.mk (I4a.out.below hB)
  replace I4b:=Aside0.mk (I4b.out.below hB)
  replace I7a:=Aside0.mk (I7a.out.below hB)
  replace I7b:=Aside0.mk (I7b.out.below hB)
  replace I10a:=Aside0.mk (I10a.out.below hB)
  replace I10b:=Aside0.mk (I10b.out.below hB)
  have I12a:=Aside0.mk j1
  have I12b:=Aside0.mk j2
  have hb5:=Aside0.mk (zag hb4.out hB)
  clear hB hb4 j1 j2
  refine hK.out _ _ ((HI.out _ hb5.out).1) (fun hHeld=>?_)
  clear hK K
  refine zaS (a':=?_) ?_ ?_
  rotate_left
  ·
   show Act.put _ (some 59) _=_
   simp only [Act.put,List.setIfInBounds_toArray,List.set_cons_zero,List.set_cons_succ,zaq,zar]
   rfl
  refine one_ (i:=14) (N:=some 61) #[true,true,true,true,true,true,true,true,true,true,true,true,true,true,true,true,true,false,false] rfl rfl (zaO HT_.out (by kernel_rfl)) (by decide) (fun K hK=>?_)
  refine za7 Try.func48 (by kernel_rfl) rfl #[.agg #[.bool n1,.slice A1 p1.length c1,.slice B1 q1.length d1],.int .i64 1] (by rfl) rfl rfl (by (try simp only [List.map_toArray,List.map_cons,List.map_nil]); first | done | rfl) ?_
  refine((pow1_n (NA.out V5 (HI.out _ hb5.out).2)).mono (fun e w' h=>RTPost.ip h (HI.out _ hb5.out).2.size)).mono ?_
  rintro e V6 ⟨n14_,A14_,m14_,c14_,B14_,k14_,d14_,rfl,j1,j2,hB⟩
  refine⟨_,rfl,?_⟩
  replace ID1:=Aside0.mk (ID1.out.below hB)
  replace ID2:=Aside0.mk (ID2.out.below hB)
  replace IM1:=Aside0.mk (IM1.out.below hB)
  replace IM2:=Aside0.mk (IM2.out.below hB)
  replace I1a:=Aside0.mk (I1a.out.below hB)
  replace I1b:=Aside0.mk (I1b.out.below hB)
  replace I4a:=Aside0.mk (I4a.out.below hB)
  replace I4b:=Aside0.mk (I4b.out.below hB)
  replace I7a:=Aside0.mk (I7a.out.below hB)
  replace I7b:=Aside0.mk (I7b.out.below hB)
  replace I10a:=Aside0.mk (I10a.out.below hB)
  replace I10b:=Aside0.mk (I10b.out.below hB)
  replace I12a:=Aside0.mk (I12a.out.below hB)
  replace I12b:=Aside0.mk (I12b.out.below hB)
  have I14a:=Aside0.mk j1
  have I14b:=Aside0.mk j2
  have hb6:=Aside0.mk (zag hb5.out hB)
  clear hB hb5 j1 j2
  refine hK.out _ _ ((HI.out _ hb6.out).1) (fun hHeld=>?_)
  clear hK K
  refine zaS (a':=?_) ?_ ?_
  rotate_left
  ·
   show Act.put _ (some 61) _=_
   simp only [Act.put,List.setIfInBounds_toArray,List.set_cons_zero,List.set_cons_succ,zaq,zar]
   rfl
  refine one_ (i:=17) (N:=some 64) #[true,true,true,true,true,true,true,true,true,true,true,true,true,true,true,true,true,true,false] rfl rfl (zaO HT_.out (by kernel_rfl)) (by decide) (fun K hK=>?_)
  refine value_ (w1:=?_) (v:=?_) (by rfl) rfl ?_ ?_
  rotate_left 2
  ·
   go_simp
   constructor
   ·
    rfl
   ·
    rfl
  have hA:Below V6.heap.size V6 (V6.alloc (.cells #[.bool n1_,.slice A1_ m1_ c1_,.slice B1_ k1_ d1_,.bool n4_,.slice A4_ m4_ c4_,.slice B4_ k4_ d4_,.bool n7_,.slice A7_ m7_ c7_,.slice B7_ k7_ d7_,.bool n10_,.slice A10_ m10_ c10_,.slice B10_ k10_ d10_,.bool n12_,.slice A12_ m12_ c12_,.slice B12_ k12_ d12_,.bool n14_,.slice A14_ m14_ c14_,.slice B14_ k14_ d14_,.bool nd,.slice Ad md cd,.slice Bd kd dd,.bool nm,.slice Am mm cm,.slice Bm km dm] 25 (0,0))):=zab (Below.refl _ _) _
  have hN:=zbp V6 (.cells #[.bool n1_,.slice A1_ m1_ c1_,.slice B1_ k1_ d1_,.bool n4_,.slice A4_ m4_ c4_,.slice B4_ k4_ d4_,.bool n7_,.slice A7_ m7_ c7_,.slice B7_ k7_ d7_,.bool n10_,.slice A10_ m10_ c10_,.slice B10_ k10_ d10_,.bool n12_,.slice A12_ m12_ c12_,.slice B12_ k12_ d12_,.bool n14_,.slice A14_ m14_ c14_,.slice B14_ k14_ d14_,.bool nd,.slice Ad md cd,.slice Bd kd dd,.bool nm,.slice Am mm cm,.slice Bm km dm] 25 (0,0))
  replace ID1:=Aside0.mk (ID1.out.below hA)
  replace ID2:=Aside0.mk (ID2.out.below hA)
  replace IM1:=Aside0.mk (IM1.out.below hA)
  replace IM2:=Aside0.mk (IM2.out.below hA)
  replace I1a:=Aside0.mk (I1a.out.below hA)
  replace I1b:=Aside0.mk (I1b.out.below hA)
  replace I4a:=Aside0.mk (I4a.out.below hA)
  replace I4b:=Aside0.mk (I4b.out.below hA)
  replace I7a:=Aside0.mk (I7a.out.below hA)
  replace I7b:=Aside0.mk (I7b.out.below hA)
  replace I10a:=Aside0.mk (I10a.out.below hA)
  replace I10b:=Aside0.mk (I10b.out.below hA)
  replace I12a:=Aside0.mk (I12a.out.below hA)
  replace I12b:=Aside0.mk (I12b.out.below hA)
  replace I14a:=Aside0.mk (I14a.out.below hA)
  replace I14b:=Aside0.mk (I14b.out.below hA)
  have hbl:=Aside0.mk (zag hb6.out hA)
  have GL:=Aside0.mk hN
  obtain⟨gl,hgl⟩:∃ g,g=V6.heap.size:=⟨_,rfl⟩
  rw [← hgl] at GL ⊢
  generalize V6.alloc (.cells #[.bool n1_,.slice A1_ m1_ c1_,.slice B1_ k1_ d1_,.bool n4_,.slice A4_ m4_ c4_,.slice B4_ k4_ d4_,.bool n7_,.slice A7_ m7_ c7_,.slice B7_ k7_ d7_,.bool n10_,.slice A10_ m10_ c10_,.slice B10_ k10_ d10_,.bool n12_,.slice A12_ m12_ c12_,.slice B12_ k12_ d12_,.bool n14_,.slice A14_ m14_ c14_,.slice B14_ k14_ d14_,.bool nd,.slice Ad md cd,.slice Bd kd dd,.bool nm,.slice Am mm cm,.slice Bm km dm] 25 (0,0))=VL at ID1 ID2 IM1 IM2 I1a I1b I4a I4b I7a I7b I10a I10b I12a I12b I14a I14b hbl GL ⊢
  clear hA hN hgl hb6
  refine hK.out _ _ ((HI.out _ hbl.out).1) (fun hHeld=>?_)
  clear hK K
  refine zaS (a':=?_) ?_ ?_
  rotate_left
  ·
   show Act.put _ (some 64) _=_
   simp only [Act.put,List.setIfInBounds_toArray,List.set_cons_zero,List.set_cons_succ,zaq,zar]
   rfl
  refine zaA (i:=18) (N:=some 11) (v:=?_) (a':=?_) #[true,true,true,true,true,true,true,true,true,true,true,true,true,true,true,true,true,true,true] rfl rfl (zay HT_.out (by kernel_rfl)) (fun _ _ _ h=>h) (Or.inl ⟨by rfl,?_⟩) ?_ ?_
  rotate_left
  ·
   intro w'
   go_simp
   with_reducible rfl
  rotate_left
  ·
   simp only [Act.put,List.setIfInBounds_toArray,List.set_cons_zero,List.set_cons_succ,zaq,zar]
   rfl
  refine done_ (done_of HT_.out (by kernel_rfl)) ?_
  clear hHeld
  have HVL:=Aside0.mk (HI.out _ hbl.out).2
  clear HI hbl GD GM
  obtain⟨LC,hLC⟩:∃ X:Array Value,X=#[.bool n1_,.slice A1_ m1_ c1_,.slice B1_ k1_ d1_,.bool n4_,.slice A4_ m4_ c4_,.slice B4_ k4_ d4_,.bool n7_,.slice A7_ m7_ c7_,.slice B7_ k7_ d7_,.bool n10_,.slice A10_ m10_ c10_,.slice B10_ k10_ d10_,.bool n12_,.slice A12_ m12_ c12_,.slice B12_ k12_ d12_,.bool n14_,.slice A14_ m14_ c14_,.slice B14_ k14_ d14_,.bool nd,.slice Ad md cd,.slice Bd kd dd,.bool nm,.slice Am mm cm,.slice Bm km dm]:=⟨_,rfl⟩
  have HRL:=Aside0.mk (show RL W8 gl LC VL from ⟨by rw [hLC]; exact GL.out,fun i hi=>by
   rw [hLC]
   match i,hi with
   | 0,_=>exact I1a.out
   | 1,_=>exact I4a.out
   | 2,_=>exact I7a.out
   | 3,_=>exact I10a.out
   | 4,_=>exact I12a.out
   | 5,_=>exact I14a.out
   | 6,_=>exact ID1.out
   | 7,_=>exact IM1.out
   | i+8,hi=>exact absurd hi (by omega),fun i hi=>by
   rw [hLC]
   match i,hi with
   | 0,_=>exact I1b.out
   | 1,_=>exact I4b.out
   | 2,_=>exact I7b.out
   | 3,_=>exact I10b.out
   | 4,_=>exact I12b.out
   | 5,_=>exact I14b.out
   | 6,_=>exact ID2.out
   | 7,_=>exact IM2.out
   | i+8,hi=>exact absurd hi (by omega),HVL.out⟩)
  have hsz:LC.size=24:=by rw [hLC]; rfl
  have HSZ:=Aside0.mk hsz
  clear GL hLC HVL hsz I1a I4a I7a I10a I12a I14a ID1 IM1 I1b I4b I7b I10b I12b I14b ID2 IM2 KK OKD NA NB
  go_wp2
  go_loopw [12,13,14] (fun iv kv jv wr=>∃ i:Nat,i≤8∧iv=.int .i64 i∧Aside0 (RL W8 gl LC wr)) (fun iv _ _ _=>8-(intOf iv).toNat)
  case atStart=>exact⟨0,by omega,rfl,HRL⟩
  case round =>
   obtain⟨i,hi,rfl,HI⟩:=hrel
   by_cases hlt:i < 8
   ·
    skip
    obtain⟨A1,n1,cap1,hv,hn1⟩:=(HI.out.nr i hlt).form
    have hcN:=HI.out.cell HSZ.out (i*3+1) (by omega)
    rw [hv] at hcN
    have HV1:=Aside0.mk hv
    clear hv
    go_wp2
    clear hcN
    go_loopw [13] (fun kv wq=>∃ k:Nat,kv=.int .i64 k∧Aside0 (RL W8 gl LC wq)) (fun kv _=>n1-(intOf kv).toNat)
    case atStart=>exact⟨0,rfl,HI⟩
    case round =>
     obtain⟨k,rfl,HK1⟩:=hrel
     have hcK:=HK1.out.cell HSZ.out (i*3+1) (by omega)
     rw [HV1.out] at hcK
     by_cases hk:k < n1
     ·
      have hE:=HK1.out.nr i hlt
      rw [HV1.out] at hE
      obtain⟨g,cur,z,rfl,hbg,hg,hz⟩:=hE.elem hk
      have HGG:=Aside0.mk (And.intro hg (And.intro hz hbg))
      clear hg hz hE hbg
      go_wp2_with fail
      clear hcK
      refine start_ (n:=17) (S:=fun w'=>w'.cell? ⟨gl,i*3+1,none⟩=some (.slice (some ⟨g,0,none⟩) n1 cap1)∧w'.cell? ⟨g,k,none⟩=some (.int .u32 z)) (ds:=[16]) #[false,false,false,false,false,false,false,false,false,false,false,false,false,false,false,false,false] (by kernel_rfl) rfl rfl ⟨((((HK1.out.below (zac (Below.refl _ _))).cell HSZ.out (i*3+1) (by omega)).trans (by rw [HV1.out]))),((zai (zah HGG.out.1) k).trans HGG.out.2.1)⟩ (fun hHeld=>?_)
      have HG0:=Aside0.mk (zah HGG.out.1)
      have HR0:=Aside0.mk (HK1.out.below (zac (Below.refl _ _)))
      generalize wr.drew=V0 at HG0 HR0 hHeld ⊢
      refine with_tabW ratOwn.tab13 ratOwn.bits13 (fun HT_ HW_=>?_)
      refine zaA (i:=0) (N:=some 81) (v:=?_) (a':=?_) #[true,false,false,false,false,false,false,false,false,false,false,false,false,false,false,false,false] rfl rfl (zay HT_.out (by kernel_rfl)) (fun _ _ _ h=>h) (Or.inl ⟨by rfl,?_⟩) ?_ ?_
      rotate_left
      ·
       intro w'
       go_simp
       with_reducible rfl
      rotate_left
      ·
       simp only [Act.put,List.setIfInBounds_toArray,List.set_cons_zero,List.set_cons_succ,zaq,zar]
       rfl
      refine zaA (i:=1) (N:=some 82) (v:=?_) (a':=?_) #[true,true,false,false,false,false,false,false,false,false,false,false,false,false,false,false,false] rfl rfl (zay HT_.out (by kernel_rfl)) (fun _ _ _ h=>h) (Or.inl ⟨by rfl,?_⟩) ?_ ?_
      rotate_left
      ·
       intro w'
       go_simp
       with_reducible rfl
      rotate_left
      ·
       simp only [Act.put,List.setIfInBounds_toArray,List.set_cons_zero,List.set_cons_succ,zaq,zar]
       rfl
      refine zaA (i:=2) (N:=some 83) (v:=?_) (a':=?_) #[true,true,true,false,false,false,false,false,false,false,false,false,false,false,false,false,false] rfl rfl (zay HT_.out (by kernel_rfl)) (fun _ _ _ h=>h) (Or.inl ⟨by rfl,?_⟩) ?_ ?_
      rotate_left
      ·
       intro w'
       go_simp
       with_reducible rfl
      rotate_left
      ·
       simp only [Act.put,List.setIfInBounds_toArray,List.set_cons_zero,List.set_cons_succ,zaq,zar]
       rfl
      refine zaA (i:=3) (N:=some 84) (v:=?_) (a':=?_) #[true,true,true,true,false,false,false,false,false,false,false,false,false,false,false,false,false] rfl rfl (zay HT_.out (by kernel_rfl)) (fun _ _ _ h=>h) (Or.inl ⟨by rfl,?_⟩) ?_ ?_
      rotate_left
      ·
       intro w'
       go_simp
       with_reducible rfl
      rotate_left
      ·
       simp only [Act.put,List.setIfInBounds_toArray,List.set_cons_zero,List.set_cons_succ,zaq,zar]
       rfl
      refine zaA (i:=5) (N:=some 86) (v:=?_) (a':=?_) #[true,true,true,true,false,true,false,false,false,false,false,false,false,false,false,false,false] rfl rfl (zay HT_.out (by kernel_rfl)) (fun _ _ _ h=>h) (Or.inl ⟨by rfl,?_⟩) ?_ ?_
      rotate_left
      ·
       intro w'
       go_simp
       with_reducible rfl
      rotate_left
      ·
       simp only [Act.put,List.setIfInBounds_toArray,List.set_cons_zero,List.set_cons_succ,zaq,zar]
       rfl
      refine zaA (i:=6) (N:=some 87) (v:=?_) (a':=?_) #[true,true,true,true,false,true,true,false,false,false,false,false,false,false,false,false,false] rfl rfl (zay HT_.out (by kernel_rfl)) (fun _ _ _ h=>h) (Or.inl ⟨by rfl,?_⟩) ?_ ?_
      rotate_left
      ·
       intro w'
       go_simp
       with_reducible rfl
      rotate_left
      ·
       simp only [Act.put,List.setIfInBounds_toArray,List.set_cons_zero,List.set_cons_succ,zaq,zar]
       rfl
      refine zaA (i:=7) (N:=some 88) (v:=?_) (a':=?_) #[true,true,true,true,false,true,true,true,false,false,false,false,false,false,false,false,false] rfl rfl (zay HT_.out (by kernel_rfl)) (fun _ _ _ h=>h) (Or.inl ⟨by rfl,?_⟩) ?_ ?_
      rotate_left
      ·
       intro w'
       go_simp
       with_reducible rfl
      rotate_left
      ·
       simp only [Act.put,List.setIfInBounds_toArray,List.set_cons_zero,List.set_cons_succ,zaq,zar]
       rfl
      refine zaA (i:=8) (N:=some 89) (v:=?_) (a':=?_) #[true,true,true,true,false,true,true,true,true,false,false,false,false,false,false,false,false] rfl rfl (zay HT_.out (by kernel_rfl)) (fun _ _ _ h=>h) (Or.inl ⟨by rfl,?_⟩) ?_ ?_
      rotate_left
      ·
       intro w'
       go_simp
       with_reducible rfl
      rotate_left
      ·
       simp only [Act.put,List.setIfInBounds_toArray,List.set_cons_zero,List.set_cons_succ,zaq,zar]
       rfl
      refine zaA (i:=9) (N:=some 90) (v:=?_) (a':=?_) #[true,true,true,true,false,true,true,true,true,true,false,false,false,false,false,false,false] rfl rfl (zay HT_.out (by kernel_rfl)) (fun _ _ _ h=>h) (Or.inl ⟨by rfl,?_⟩) ?_ ?_
      rotate_left
      ·
       intro w'
       go_simp
       with_reducible rfl
      rotate_left
      ·
       simp only [Act.put,List.setIfInBounds_toArray,List.set_cons_zero,List.set_cons_succ,zaq,zar]
       rfl
      refine zaA (i:=11) (N:=some 92) (v:=?_) (a':=?_) #[true,true,true,true,false,true,true,true,true,true,false,true,false,false,false,false,false] rfl rfl (zay HT_.out (by kernel_rfl)) (fun _ _ _ h=>h) (Or.inl ⟨by rfl,?_⟩) ?_ ?_
      rotate_left
      ·
       intro w'
       go_simp
       with_reducible rfl
      rotate_left
      ·
       simp only [Act.put,List.setIfInBounds_toArray,List.set_cons_zero,List.set_cons_succ,zaq,zar]
       rfl
      refine take_ (i:=4) (N:=some 85) (v:=?_) (a':=?_) #[true,true,true,true,true,true,true,true,true,true,false,true,false,false,false,false,false] rfl rfl (zaQ HT_.out HW_.out (by kernel_rfl)) (fun _ _ _ h=>h) (Or.inl ⟨by rfl,?_⟩) hHeld ?_ ?_
      rotate_left
      ·
       rintro w' ⟨s0,s1⟩
       go_simp
       with_reducible rfl
      rotate_left
      ·
       simp only [Act.put,List.setIfInBounds_toArray,List.set_cons_zero,List.set_cons_succ,zaq,zar]
       rfl
      refine take_ (i:=10) (N:=some 91) (v:=?_) (a':=?_) #[true,true,true,true,true,true,true,true,true,true,true,true,false,false,false,false,false] rfl rfl (zaQ HT_.out HW_.out (by kernel_rfl)) (fun _ _ _ h=>h) (Or.inl ⟨by rfl,?_⟩) hHeld ?_ ?_
      rotate_left
      ·
       rintro w' ⟨s0,s1⟩
       go_simp
       with_reducible rfl
      rotate_left
      ·
       simp only [Act.put,List.setIfInBounds_toArray,List.set_cons_zero,List.set_cons_succ,zaq,zar]
       rfl
      refine zaA (i:=12) (N:=some 93) (v:=?_) (a':=?_) #[true,true,true,true,true,true,true,true,true,true,true,true,true,false,false,false,false] rfl rfl (zay HT_.out (by kernel_rfl)) (fun _ _ _ h=>h) (Or.inl ⟨by rfl,?_⟩) ?_ ?_
      rotate_left
      ·
       intro w'
       go_simp
       with_reducible rfl
      rotate_left
      ·
       simp only [Act.put,List.setIfInBounds_toArray,List.set_cons_zero,List.set_cons_succ,zaq,zar]
       rfl
      refine take_ (i:=13) (N:=some 94) (v:=?_) (a':=?_) #[true,true,true,true,true,true,true,true,true,true,true,true,true,true,false,false,false] rfl rfl (zaQ HT_.out HW_.out (by kernel_rfl)) (fun _ _ _ h=>h) (Or.inl ⟨by rfl,?_⟩) hHeld ?_ ?_
      rotate_left
      ·
       rintro w' ⟨s0,s1⟩
       go_simp
       with_reducible rfl
      rotate_left
      ·
       simp only [Act.put,List.setIfInBounds_toArray,List.set_cons_zero,List.set_cons_succ,zaq,zar]
       rfl
      refine zaA (i:=14) (N:=some 95) (v:=?_) (a':=?_) #[true,true,true,true,true,true,true,true,true,true,true,true,true,true,true,false,false] rfl rfl (zay HT_.out (by kernel_rfl)) (fun _ _ _ h=>h) (Or.inl ⟨by rfl,?_⟩) ?_ ?_
      rotate_left
      ·
       intro w'
       go_simp
       with_reducible rfl
      rotate_left
      ·
       simp only [Act.put,List.setIfInBounds_toArray,List.set_cons_zero,List.set_cons_succ,zaq,zar]
       rfl
      refine zaA (i:=15) (N:=some 96) (v:=?_) (a':=?_) #[true,true,true,true,true,true,true,true,true,true,true,true,true,true,true,true,false] rfl rfl (zay HT_.out (by kernel_rfl)) (fun _ _ _ h=>h) (Or.inl ⟨by rfl,?_⟩) ?_ ?_
      rotate_left
      ·
       intro w'
       go_simp
       with_reducible rfl
      rotate_left
      ·
       simp only [Act.put,List.setIfInBounds_toArray,List.set_cons_zero,List.set_cons_succ,zaq,zar]
       rfl
      refine last_ (i:=16) (N:=none) #[true,true,true,true,true,true,true,true,true,true,true,true,true,true,true,true,true] rfl rfl (zaO HT_.out (by kernel_rfl)) (by decide) (fun K hK=>?_)
      have hf3:=zak HG0.out k
      have hc3:=(zai HG0.out k).trans HGG.out.2.1
      refine skip_ (w1:=?_) (by rfl) rfl ?_ ?_
      rotate_left
      ·
       go_simp
       rfl
      refine hK.out _ _ ?_
      clear hK K
      refine done_ (done_of HT_.out (by kernel_rfl)) ?_
      clear hHeld hf3 hc3
      go_wp2
      go_roundw
      case rel=>exact⟨k+1,by go_num,⟨HR0.out.set HG0.out HGG.out.2.2 k _⟩⟩
      case measure=>simp [intOf]; omega
     ·
      have HKe1:=HK1
      clear HK1
      obtain⟨A2,n2,cap2,hv,hn2⟩:=(HKe1.out.dr i hlt).form
      have hcN:=HKe1.out.cell HSZ.out (i*3+2) (by omega)
      rw [hv] at hcN
      have HV2:=Aside0.mk hv
      clear hv
      go_wp2
      clear hcN
      go_loopw [14] (fun kv wq=>∃ k:Nat,kv=.int .i64 k∧Aside0 (RL W8 gl LC wq)) (fun kv _=>n2-(intOf kv).toNat)
      case atStart=>exact⟨0,rfl,HKe1⟩
      case round =>
       obtain⟨k,rfl,HK2⟩:=hrel
       have hcK:=HK2.out.cell HSZ.out (i*3+2) (by omega)
       rw [HV2.out] at hcK
       by_cases hk:k < n2
       ·
        have hE:=HK2.out.dr i hlt
        rw [HV2.out] at hE
        obtain⟨g,cur,z,rfl,hbg,hg,hz⟩:=hE.elem hk
        have HGG:=Aside0.mk (And.intro hg (And.intro hz hbg))
        clear hg hz hE hbg
        go_wp2_with fail
        clear hcK
        refine start_ (n:=17) (S:=fun w'=>w'.cell? ⟨gl,i*3+2,none⟩=some (.slice (some ⟨g,0,none⟩) n2 cap2)∧w'.cell? ⟨g,k,none⟩=some (.int .u32 z)) (ds:=[16]) #[false,false,false,false,false,false,false,false,false,false,false,false,false,false,false,false,false] (by kernel_rfl) rfl rfl ⟨((((HK2.out.below (zac (Below.refl _ _))).cell HSZ.out (i*3+2) (by omega)).trans (by rw [HV2.out]))),((zai (zah HGG.out.1) k).trans HGG.out.2.1)⟩ (fun hHeld=>?_)
        have HG0:=Aside0.mk (zah HGG.out.1)
        have HR0:=Aside0.mk (HK2.out.below (zac (Below.refl _ _)))
        generalize wr.drew=V0 at HG0 HR0 hHeld ⊢
        refine with_tabW ratOwn.tab17 ratOwn.bits17 (fun HT_ HW_=>?_)
        refine zaA (i:=0) (N:=some 107) (v:=?_) (a':=?_) #[true,false,false,false,false,false,false,false,false,false,false,false,false,false,false,false,false] rfl rfl (zay HT_.out (by kernel_rfl)) (fun _ _ _ h=>h) (Or.inl ⟨by rfl,?_⟩) ?_ ?_
        rotate_left
        ·
         intro w'
         go_simp
         with_reducible rfl
        rotate_left
        ·
         simp only [Act.put,List.setIfInBounds_toArray,List.set_cons_zero,List.set_cons_succ,zaq,zar]
         rfl
        refine zaA (i:=1) (N:=some 108) (v:=?_) (a':=?_) #[true,true,false,false,false,false,false,false,false,false,false,false,false,false,false,false,false] rfl rfl (zay HT_.out (by kernel_rfl)) (fun _ _ _ h=>h) (Or.inl ⟨by rfl,?_⟩) ?_ ?_
        rotate_left
        ·
         intro w'
         go_simp
         with_reducible rfl
        rotate_left
        ·
         simp only [Act.put,List.setIfInBounds_toArray,List.set_cons_zero,List.set_cons_succ,zaq,zar]
         rfl
        refine zaA (i:=2) (N:=some 109) (v:=?_) (a':=?_) #[true,true,true,false,false,false,false,false,false,false,false,false,false,false,false,false,false] rfl rfl (zay HT_.out (by kernel_rfl)) (fun _ _ _ h=>h) (Or.inl ⟨by rfl,?_⟩) ?_ ?_
        rotate_left
        ·
         intro w'
         go_simp
         with_reducible rfl
        rotate_left
        ·
         simp only [Act.put,List.setIfInBounds_toArray,List.set_cons_zero,List.set_cons_succ,zaq,zar]
         rfl
        refine zaA (i:=3) (N:=some 110) (v:=?_) (a':=?_) #[true,true,true,true,false,false,false,false,false,false,false,false,false,false,false,false,false] rfl rfl (zay HT_.out (by kernel_rfl)) (fun _ _ _ h=>h) (Or.inl ⟨by rfl,?_⟩) ?_ ?_
        rotate_left
        ·
         intro w'
         go_simp
         with_reducible rfl
        rotate_left
        ·
         simp only [Act.put,List.setIfInBounds_toArray,List.set_cons_zero,List.set_cons_succ,zaq,zar]
         rfl
        refine zaA (i:=5) (N:=some 112) (v:=?_) (a':=?_) #[true,true,true,true,false,true,false,false,false,false,false,false,false,false,false,false,false] rfl rfl (zay HT_.out (by kernel_rfl)) (fun _ _ _ h=>h) (Or.inl ⟨by rfl,?_⟩) ?_ ?_
        rotate_left
        ·
         intro w'
         go_simp
         with_reducible rfl
        rotate_left
        ·
         simp only [Act.put,List.setIfInBounds_toArray,List.set_cons_zero,List.set_cons_succ,zaq,zar]
         rfl
        refine zaA (i:=6) (N:=some 113) (v:=?_) (a':=?_) #[true,true,true,true,false,true,true,false,false,false,false,false,false,false,false,false,false] rfl rfl (zay HT_.out (by kernel_rfl)) (fun _ _ _ h=>h) (Or.inl ⟨by rfl,?_⟩) ?_ ?_
        rotate_left
        ·
         intro w'
         go_simp
         with_reducible rfl
        rotate_left
        ·
         simp only [Act.put,List.setIfInBounds_toArray,List.set_cons_zero,List.set_cons_succ,zaq,zar]
         rfl
        refine zaA (i:=7) (N:=some 114) (v:=?_) (a':=?_) #[true,true,true,true,false,true,true,true,false,false,false,false,false,false,false,false,false] rfl rfl (zay HT_.out (by kernel_rfl)) (fun _ _ _ h=>h) (Or.inl ⟨by rfl,?_⟩) ?_ ?_
        rotate_left
        ·
         intro w'
         go_simp
         with_reducible rfl
        rotate_left
        ·
         simp only [Act.put,List.setIfInBounds_toArray,List.set_cons_zero,List.set_cons_succ,zaq,zar]
         rfl
        refine zaA (i:=8) (N:=some 115) (v:=?_) (a':=?_) #[true,true,true,true,false,true,true,true,true,false,false,false,false,false,false,false,false] rfl rfl (zay HT_.out (by kernel_rfl)) (fun _ _ _ h=>h) (Or.inl ⟨by rfl,?_⟩) ?_ ?_
        rotate_left
        ·
         intro w'
         go_simp
         with_reducible rfl
        rotate_left
        ·
         simp only [Act.put,List.setIfInBounds_toArray,List.set_cons_zero,List.set_cons_succ,zaq,zar]
         rfl
        refine zaA (i:=9) (N:=some 116) (v:=?_) (a':=?_) #[true,true,true,true,false,true,true,true,true,true,false,false,false,false,false,false,false] rfl rfl (zay HT_.out (by kernel_rfl)) (fun _ _ _ h=>h) (Or.inl ⟨by rfl,?_⟩) ?_ ?_
        rotate_left
        ·
         intro w'
         go_simp
         with_reducible rfl
        rotate_left
        ·
         simp only [Act.put,List.setIfInBounds_toArray,List.set_cons_zero,List.set_cons_succ,zaq,zar]
         rfl
        refine zaA (i:=11) (N:=some 118) (v:=?_) (a':=?_) #[true,true,true,true,false,true,true,true,true,true,false,true,false,false,false,false,false] rfl rfl (zay HT_.out (by kernel_rfl)) (fun _ _ _ h=>h) (Or.inl ⟨by rfl,?_⟩) ?_ ?_
        rotate_left
        ·
         intro w'
         go_simp
         with_reducible rfl
        rotate_left
        ·
         simp only [Act.put,List.setIfInBounds_toArray,List.set_cons_zero,List.set_cons_succ,zaq,zar]
         rfl
        refine take_ (i:=4) (N:=some 111) (v:=?_) (a':=?_) #[true,true,true,true,true,true,true,true,true,true,false,true,false,false,false,false,false] rfl rfl (zaQ HT_.out HW_.out (by kernel_rfl)) (fun _ _ _ h=>h) (Or.inl ⟨by rfl,?_⟩) hHeld ?_ ?_
        rotate_left
        ·
         rintro w' ⟨s0,s1⟩
         go_simp
         with_reducible rfl
        rotate_left
        ·
         simp only [Act.put,List.setIfInBounds_toArray,List.set_cons_zero,List.set_cons_succ,zaq,zar]
         rfl
        refine take_ (i:=10) (N:=some 117) (v:=?_) (a':=?_) #[true,true,true,true,true,true,true,true,true,true,true,true,false,false,false,false,false] rfl rfl (zaQ HT_.out HW_.out (by kernel_rfl)) (fun _ _ _ h=>h) (Or.inl ⟨by rfl,?_⟩) hHeld ?_ ?_
        rotate_left
        ·
         rintro w' ⟨s0,s1⟩
         go_simp
         with_reducible rfl
        rotate_left
        ·
         simp only [Act.put,List.setIfInBounds_toArray,List.set_cons_zero,List.set_cons_succ,zaq,zar]
         rfl
        refine zaA (i:=12) (N:=some 119) (v:=?_) (a':=?_) #[true,true,true,true,true,true,true,true,true,true,true,true,true,false,false,false,false] rfl rfl (zay HT_.out (by kernel_rfl)) (fun _ _ _ h=>h) (Or.inl ⟨by rfl,?_⟩) ?_ ?_
        rotate_left
        ·
         intro w'
         go_simp
         with_reducible rfl
        rotate_left
        ·
         simp only [Act.put,List.setIfInBounds_toArray,List.set_cons_zero,List.set_cons_succ,zaq,zar]
         rfl
        refine take_ (i:=13) (N:=some 120) (v:=?_) (a':=?_) #[true,true,true,true,true,true,true,true,true,true,true,true,true,true,false,false,false] rfl rfl (zaQ HT_.out HW_.out (by kernel_rfl)) (fun _ _ _ h=>h) (Or.inl ⟨by rfl,?_⟩) hHeld ?_ ?_
        rotate_left
        ·
         rintro w' ⟨s0,s1⟩
         go_simp
         with_reducible rfl
        rotate_left
        ·
         simp only [Act.put,List.setIfInBounds_toArray,List.set_cons_zero,List.set_cons_succ,zaq,zar]
         rfl
        refine zaA (i:=14) (N:=some 121) (v:=?_) (a':=?_) #[true,true,true,true,true,true,true,true,true,true,true,true,true,true,true,false,false] rfl rfl (zay HT_.out (by kernel_rfl)) (fun _ _ _ h=>h) (Or.inl ⟨by rfl,?_⟩) ?_ ?_
        rotate_left
        ·
         intro w'
         go_simp
         with_reducible rfl
        rotate_left
        ·
         simp only [Act.put,List.setIfInBounds_toArray,List.set_cons_zero,List.set_cons_succ,zaq,zar]
         rfl
        refine zaA (i:=15) (N:=some 122) (v:=?_) (a':=?_) #[true,true,true,true,true,true,true,true,true,true,true,true,true,true,true,true,false] rfl rfl (zay HT_.out (by kernel_rfl)) (fun _ _ _ h=>h) (Or.inl ⟨by rfl,?_⟩) ?_ ?_
        rotate_left
        ·
         intro w'
         go_simp
         with_reducible rfl
        rotate_left
        ·
         simp only [Act.put,List.setIfInBounds_toArray,List.set_cons_zero,List.set_cons_succ,zaq,zar]
         rfl
        refine last_ (i:=16) (N:=none) #[true,true,true,true,true,true,true,true,true,true,true,true,true,true,true,true,true] rfl rfl (zaO HT_.out (by kernel_rfl)) (by decide) (fun K hK=>?_)
        have hf3:=zak HG0.out k
        have hc3:=(zai HG0.out k).trans HGG.out.2.1
        refine skip_ (w1:=?_) (by rfl) rfl ?_ ?_
        rotate_left
        ·
         go_simp
         rfl
        refine hK.out _ _ ?_
        clear hK K
        refine done_ (done_of HT_.out (by kernel_rfl)) ?_
        clear hHeld hf3 hc3
        go_wp2
        go_roundw
        case rel=>exact⟨k+1,by go_num,⟨HR0.out.set HG0.out HGG.out.2.2 k _⟩⟩
        case measure=>simp [intOf]; omega
       ·
        have HKe2:=HK2
        clear HK2
        go_wp2
        go_roundw
        case rel=>exact⟨i+1,by omega,by go_num,HKe2⟩
        case measure=>simp [intOf]; omega
   ·
    have hA4:=zal GA.out HI.out.be
    have hB5:=zal GB.out HI.out.be
    have hX1:=zal HX1.out HI.out.be
    have hX2:=zal HX2.out HI.out.be
    have HE1:=Aside0.mk (equal_n (OA.out.below HI.out.be).nl.1 (HM10.out wr (zag HB8.out HI.out.be)) (Nat.le_trans HS_p1.out.2 (by decide)))
    have HBw:=Aside0.mk HI.out.be
    have HA4:=Aside0.mk hA4
    have HB5:=Aside0.mk hB5
    have HY1:=Aside0.mk hX1
    have HY2:=Aside0.mk hX2
    obtain⟨⟨a0,a1,a2⟩,-⟩:=zat hA4
    obtain⟨⟨x0,x1,x2⟩,-⟩:=zat hX1
    clear hi hA4 hB5 hX1 hX2 HI
    go_wp2_with fail
    clear a0 a1 a2 x0 x1 x2
    refine HE1.out.mono ?_
    rintro e E1 ⟨rfl,hB⟩
    replace HBw:=Aside0.mk (zag HBw.out hB)
    replace HA4:=Aside0.mk (zal HA4.out hB)
    replace HB5:=Aside0.mk (zal HB5.out hB)
    replace HY1:=Aside0.mk (zal HY1.out hB)
    replace HY2:=Aside0.mk (zal HY2.out hB)
    clear hB
    obtain⟨⟨a0,a1,a2⟩,-⟩:=zat HA4.out
    obtain⟨⟨b0,b1,b2⟩,-⟩:=zat HB5.out
    obtain⟨⟨x0,x1,x2⟩,-⟩:=zat HY1.out
    obtain⟨⟨y0,y1,y2⟩,-⟩:=zat HY2.out
    go_wp2_with fail
    clear a0 a1 a2 b0 b1 b2 x0 x1 x2 y0 y1 y2
    refine(equal_n (OA.out.below HBw.out).nl.2 (HM11.out E1 (zag HB8.out HBw.out)) (Nat.le_trans HS_q1.out.2 (by decide))).mono ?_
    rintro e E2 ⟨rfl,hB⟩
    replace HBw:=Aside0.mk (zag HBw.out hB)
    replace HA4:=Aside0.mk (zal HA4.out hB)
    replace HB5:=Aside0.mk (zal HB5.out hB)
    replace HY1:=Aside0.mk (zal HY1.out hB)
    replace HY2:=Aside0.mk (zal HY2.out hB)
    clear hB
    obtain⟨⟨a0,a1,a2⟩,-⟩:=zat HA4.out
    obtain⟨⟨b0,b1,b2⟩,-⟩:=zat HB5.out
    obtain⟨⟨x0,x1,x2⟩,-⟩:=zat HY1.out
    obtain⟨⟨y0,y1,y2⟩,-⟩:=zat HY2.out
    go_wp2_with fail
    clear a0 a1 a2 b0 b1 b2 x0 x1 x2 y0 y1 y2
    refine(equal_n (OB.out.below HBw.out).nl.1 (HM20.out E2 (zag HB8.out HBw.out)) (Nat.le_trans HS_p2.out.2 (by decide))).mono ?_
    rintro e E3 ⟨rfl,hB⟩
    replace HBw:=Aside0.mk (zag HBw.out hB)
    replace HA4:=Aside0.mk (zal HA4.out hB)
    replace HB5:=Aside0.mk (zal HB5.out hB)
    replace HY1:=Aside0.mk (zal HY1.out hB)
    replace HY2:=Aside0.mk (zal HY2.out hB)
    clear hB
    obtain⟨⟨a0,a1,a2⟩,-⟩:=zat HA4.out
    obtain⟨⟨b0,b1,b2⟩,-⟩:=zat HB5.out
    obtain⟨⟨x0,x1,x2⟩,-⟩:=zat HY1.out
    obtain⟨⟨y0,y1,y2⟩,-⟩:=zat HY2.out
    go_wp2_with fail
    clear a0 a1 a2 b0 b1 b2 x0 x1 x2 y0 y1 y2
    refine(equal_n (OB.out.below HBw.out).nl.2 (HM21.out E3 (zag HB8.out HBw.out)) (Nat.le_trans HS_q2.out.2 (by decide))).mono ?_
    rintro e E4 ⟨rfl,hB⟩
    replace HBw:=Aside0.mk (zag HBw.out hB)
    replace HA4:=Aside0.mk (zal HA4.out hB)
    replace HB5:=Aside0.mk (zal HB5.out hB)
    replace HY1:=Aside0.mk (zal HY1.out hB)
    replace HY2:=Aside0.mk (zal HY2.out hB)
    clear hB
    obtain⟨⟨a0,a1,a2⟩,-⟩:=zat HA4.out
    obtain⟨⟨b0,b1,b2⟩,-⟩:=zat HB5.out
    obtain⟨⟨x0,x1,x2⟩,-⟩:=zat HY1.out
    obtain⟨⟨y0,y1,y2⟩,-⟩:=zat HY2.out
    go_wp2_with fail
    clear a0 a1 a2 b0 b1 b2 x0 x1 x2 y0 y1 y2
    refine(known_q _).mono ?_
    rintro e E5 ⟨rfl,hB⟩
    have HB9:=Aside0.mk (zag (zag HB8.out HBw.out) hB)
    clear hB
    go_wp2
    go_ret
    exact⟨rfl,HB9.out⟩
end Go.Proofs.Ytehghijlchpeaaa.Nat1
end
section
namespace Go.Proofs.Ytehghijlchpeaaa.ratOwn
open Go.ChangeShapes Go.WideShapes Go.ChangeAt Go.RowKit Go.Joins Go.Proofs.Ytehghijlchpeaaa.Nat1
open Go.ChangeMaps (open_string shut_string)
set_option linter.unusedVariables false
theorem own:ownKnob Try.prog.godebug=none:=by kernel_rfl
theorem laidOut:laidOutB Try.prog=true:=by kernel_rfl
set_option maxRecDepth 100000 in
theorem lifted (os:Os) (started:os.Started) (H:Type) (enc:TypeId×Value→H) :
  ReturnsInHanded {} Try.checked os 11 .any (Rows.ratOwnSpec.pre6 enc Try.prog Try.f11 Rows.ratOwnRow.domain false) (Rows.ratOwnSpec.post enc Try.prog Try.f11 false true false false):=by
 refine returnsInHanded_of_change_sized (C:=Try.checked) own started (by kernel_rfl) Try.func11
  (ChangeSpec.witness6 (enc:=enc) (C:=Try.checked) false ⟨#[],#[.agg #[.bool false,.slice none 0 0,.slice none 0 0],.agg #[.bool false,.slice none 0 0,.slice none 0 0]],[]⟩ 8 (by kernel_rfl) (by kernel_rfl) (by kernel_rfl) (by kernel_rfl)) ?_
 intro W base args ds gs before hval0 hW hcnd hsz0 _
 have hval:∀ (j:Nat) t v,Try.f11.params[j]? = some t→args[j]? = some v→Value.okWide Try.prog W .any base t v:=hval0
 have hW':=hW
 obtain⟨p,q,hA0,hV,rfl,hfz,hnd⟩:=hW
 have hA:DataW.TrodAll enc Try.prog W 0 (fun _=>true) true Try.f11.params.toList args.toList ds p:=hA0
 rw [Try.params11] at hA hval
 obtain⟨v0,vs0,d0,ds0,p0,q0,hargs,rfl,rfl,h0,r0⟩:=trodAll_cons hA
 obtain⟨v1,vs1,d1,ds1,p1,q1,rfl,rfl,rfl,h1,r1⟩:=trodAll_cons r0
 obtain⟨rfl,rfl,rfl⟩:=trodAll_nil r1
 obtain rfl:args=#[v0,v1]:=by cases args; simp_all
 obtain⟨rfl,rfl⟩:=trodVars_none hV
 have k0:=h0
 have lt0:∀ x∈p0,x.block < W.heap.size:=by obtain⟨m,hm⟩:=k0; exact DataW.trod_lt m _ _ _ hm
 obtain⟨n0,A0,c0,l0,B0,e0,m0,rfl,⟨hr0,hc0,ho0⟩,⟨hs0,he0,hp0⟩⟩:=rat_arg (hval 0 25 v0 rfl rfl) h0
 have k1:=h1
 have lt1:∀ x∈p1,x.block < W.heap.size:=by obtain⟨m,hm⟩:=k1; exact DataW.trod_lt m _ _ _ hm
 obtain⟨n1,A1,c1,l1,B1,e1,m1,rfl,⟨hr1,hc1,ho1⟩,⟨hs1,he1,hp1⟩⟩:=rat_arg (hval 1 25 v1 rfl rfl) h1
 clear hA0 hval0 hsz0
 refine(ratOwn_q n0 A0 c0 l0 B0 e0 m0 n1 A1 c1 l1 B1 e1 m1 W hr0 hc0 ho0 hs0 he0 hp0 hr1 hc1 ho1 hs1 he1 hp1).mono fun e W' ⟨he,bel⟩=>?_
 subst he
 exact⟨_,rfl,_,_,_,[],_,[],hW',trodAll_mk1 (shut_bool Try.underlying4 _),(trodAll_cons_mk (Below.trod laidOut (by kernel_rfl) (of_decide_eq_true (by kernel_rfl)) k0 bel lt0) (trodAll_cons_mk (Below.trod laidOut (by kernel_rfl) (of_decide_eq_true (by kernel_rfl)) k1 bel lt1) trodAll_mk0)),rfl,bel.frame _,fun h=>by cases h⟩
theorem over:Rows.ratOwnRow.holds Try.pinned (OpenSpec.ofChange Rows.ratOwnSpec) :=
 OpenClaim.holds_of_wide 11 Try.f11 rfl rfl rfl rfl rfl rfl rfl ⟨rfl,rfl,rfl,rfl,rfl⟩ rfl rfl rfl rfl rfl (by kernel_rfl) Try.func11 (by kernel_rfl)
  (of_decide_eq_true (by kernel_rfl)) (by unfold Func.isWrapper; first | (rw [if_pos (by decide +kernel)]; kernel_rfl) | (rw [if_neg (by decide +kernel)]; exact⟨rfl,rfl⟩))
  (fun os started H enc _=>lifted os started H enc)
end Go.Proofs.Ytehghijlchpeaaa.ratOwn
namespace Go.Proofs.Ytehghijlchpeaaa
theorem ratOwn_holds:Rows.RatOwnSaid:=ratOwn.over
end Go.Proofs.Ytehghijlchpeaaa
end
