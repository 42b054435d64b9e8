/- Part 5 of the proof of ratQuotients_holds: what it uses, in build order. -/
import Derived.Test.YtehghijlchpeaaaS23
import Derived.Below
import Derived.ChangeOld
import Derived.Lib.SmallJoins
import Derived.OpenShut
import Derived.ProofKit
import Derived.SizedLaws
import Derived.Test.YtehghijlchpeaaaRows
import Derived.WalkKit
section
namespace Go.Proofs.Ytehghijlchpeaaa.Nat1
open Go.ChangeShapes Go.WideShapes Go.ChangeAt Go.RowKit Go.Joins Go.Proofs.YtehghijlchpeaaaW.PrintWords Go.Proofs.YtehghijlchpeaaaW.PrintLast Go.Proofs.YtehghijlchpeaaaW.PrintMore Go.Proofs.Ytehghijlchpeaaa.L Go.Proofs.Ytehghijlchpeaaa.Nt
set_option linter.unusedVariables false
set_option linter.unusedSimpArgs false
set_option linter.unusedSectionVars false
theorem nat_arg {H:Type} {enc:TypeId×Value→H} {W:World} {m:Nat} {v:Value} {y:DataW H×List MemPlace} (h:DataW.trod enc Try.prog W 0 (fun _=>true) true m 23 [v]=some y) :
  ∃ (A:Option Addr) (c:Nat) (l:List Int),v=.slice A l.length c∧Kd.C (Kd.int .u32) W A l.length l∧l.length≤c∧ok B32 l:=by
 obtain⟨a,len,cap,zs,rfl,hz⟩:∃ a len cap zs,v=.slice a len cap∧((a=none∧len=0∧cap=0∧zs=[])∨∃ x,a=some x∧len≤cap∧cap≤maxLen∧zs.length=cap∧(∀ i,i < zs.length→W.cell? (x.add i)=some (.int .u32 (zs.getD i 0)))∧∀ n∈zs,(Lit.int .u32 n).wf=true):=by
  rcases open_ints Try.underlying23 Try.underlying63 (by kernel_rfl) h with ⟨hcs,_⟩ | ⟨x,l,c,zs,hcs,_,hl,hm,hz,_,hcell,hwz⟩
  ·
   injection hcs with hcs _
   exact⟨none,0,0,[],hcs,.inl ⟨rfl,rfl,rfl,rfl⟩⟩
  ·
   injection hcs with hcs _
   exact⟨some x,l,c,zs,hcs,.inr ⟨_,rfl,hl,hm,by simpa using hz,hcell,hwz⟩⟩
 obtain⟨l,rfl,hr,hm,hw,hc⟩:=za1.ofRowC hz
 refine⟨a,cap,l,rfl,Kd.C_of_reads (d:=(0:Int)) (h1:=fun _=>rfl) hr,hc,fun x hx=>?_⟩
 have:=hw x hx
 simp [Lit.wf,IntKind.min,IntKind.max,IntKind.bits,IntKind.signed] at this
 unfold B32
 omega
set_option maxRecDepth 100000 in
theorem rat_arg {H:Type} {enc:TypeId×Value→H} {W:World} {r:Reach} {b0:Nat} {v:Value} {d:DataW H} {p:List MemPlace} (hv:Value.okWide Try.prog W r b0 25 v) (h:DataW.Trod enc Try.prog W 0 (fun _=>true) true 25 v d p) :
  ∃ (n:Bool) (A1:Option Addr) (c1:Nat) (p:List Int) (A2:Option Addr) (c2:Nat) (q:List Int),v=.agg #[.bool n,.slice A1 p.length c1,.slice A2 q.length c2] ∧
   (Kd.C (Kd.int .u32) W A1 p.length p∧p.length≤c1∧ok B32 p)∧(Kd.C (Kd.int .u32) W A2 q.length q∧q.length≤c2∧ok B32 q):=by
 obtain⟨b0,b1,b2,y0,y1,y2,m,rfl,rfl,rfl,hy0,hy1,hy2⟩:=open_agg3 Try.underlying25 (by kernel_rfl) (by kernel_rfl) hv h
 obtain⟨n,e0,_⟩:=DataW.trod_bool Try.underlying4 hy0
 obtain⟨A1,c1,p,rfl,h1⟩:=nat_arg hy1
 obtain⟨A2,c2,q,rfl,h2⟩:=nat_arg hy2
 simp at e0
 subst e0
 exact⟨n,A1,c1,p,A2,c2,q,rfl,h1,h2⟩
end Go.Proofs.Ytehghijlchpeaaa.Nat1
end
section
namespace Go.Proofs.Ytehghijlchpeaaa.Nat1
open Go.RowKit Go.Proofs.YtehghijlchpeaaaW.PrintWords Go.Proofs.YtehghijlchpeaaaW.PrintLast Go.Proofs.YtehghijlchpeaaaW.PrintMore Go.Proofs.Ytehghijlchpeaaa.L Go.Proofs.Ytehghijlchpeaaa.Nt Go.Proofs.Ytehghijlchpeaaa.Ev
set_option linter.unusedVariables false
set_option linter.unusedSimpArgs false
set_option linter.unusedSectionVars false
set_option maxHeartbeats 1000000 in
set_option maxRecDepth 100000 in
theorem own_q (A0:Option Addr) (c0:Nat) (l0:List Int) (w:World) (hr0:Kd.C (Kd.int .u32) w A0 l0.length l0) (hc0:l0.length≤c0) (hl:l0.length≤1099511627776) :
  Calls Try.prog 23 #[.slice A0 l0.length c0] w fun e w'=>∃ v0_:Value,e=.returned (v0_)∧Kd.R (Kd.int .u32) 63 w' w.heap.size (fun _=>True) v0_ l0∧Below w.heap.size w w':=by
 have HR:=Aside0.mk hr0
 clear hr0
 go_enter Try.func23,Try.ntmps23
 go_wp2_with ((with_reducible refine zaI (b:=.append) rfl ?_); go_must (refine Kd.R_append_row (Value.int .u32) (0:Int) w.heap.size rfl _ _ 23 63 (.int .u32 0) 4 rfl Try.underlying23 infoU32 rfl (by omega) (.slice none 0 0) [] l0 A0 l0.length c0 (fun _=>True) rfl rfl (fun _ _=>trivial) (Kd.R_nil _ _ _ _ _) HR.out (Below.refl _ _) (Nat.le_refl _) (by simp only [List.length_nil]; omega) ?_); intro v1 w1 hR hB hx1 hx2; clear hx1 hx2; obtain⟨A,c,rfl⟩:=Kd.R_slice hR; have HR1:=Aside0.mk hR; have HB1:=Aside0.mk hB; clear hR hB)
 go_ret
 exact⟨_,rfl,HR1.out,HB1.out⟩
set_option maxHeartbeats 2000000 in
set_option maxRecDepth 100000 in
theorem ownR_q (n:Bool) (A1:Option Addr) (c1:Nat) (p:List Int) (A2:Option Addr) (c2:Nat) (q:List Int) (w:World) (hr1:Kd.C (Kd.int .u32) w A1 p.length p) (hc1:p.length≤c1) (hr2:Kd.C (Kd.int .u32) w A2 q.length q) (hc2:q.length≤c2) (hp:p.length≤1099511627776) (hq:q.length≤1099511627776) :
  Calls Try.prog 17 #[.agg #[.bool n,.slice A1 p.length c1,.slice A2 q.length c2]] w fun e w'=>∃ v1 v2,e=.returned (.agg #[.bool n,v1,v2])∧Kd.R (Kd.int .u32) 63 w' w.heap.size (fun k_=>some k_≠v2.ownBlock) v1 p∧Kd.R (Kd.int .u32) 63 w' w.heap.size (fun k_=>some k_≠v1.ownBlock) v2 q∧Below w.heap.size w w':=by
 have hu25:=Try.underlying25
 have H1:=Aside0.mk (fun (W:World) (hb:Below w.heap.size w W)=>own_q A1 c1 p W (Kd.C_below hr1 hb) hc1 hp)
 have H2:=Aside0.mk (fun (W:World) (hb:Below w.heap.size w W)=>own_q A2 c2 q W (Kd.C_below hr2 hb) hc2 hq)
 clear hr1 hr2 hp hq
 go_enter Try.func17,Try.ntmps17
 go_wp2_with fail
 have hb1:=zae (zbp w (.cells #[.bool n,.slice A1 p.length c1,.slice A2 q.length c2] 25)) (.cells #[.bool false,.slice none 0 0,.slice none 0 0] 25)
 have hb2:=zbp (w.alloc (.cells #[.bool n,.slice A1 p.length c1,.slice A2 q.length c2] 25)) (.cells #[.bool false,.slice none 0 0,.slice none 0 0] 25)
 have hs:(w.alloc (.cells #[.bool n,.slice A1 p.length c1,.slice A2 q.length c2] 25)).heap.size=w.heap.size+1:=by simp
 rw [hs] at hb2
 have hbw:Below w.heap.size w ((w.alloc (.cells #[.bool n,.slice A1 p.length c1,.slice A2 q.length c2] 25)).alloc (.cells #[.bool false,.slice none 0 0,.slice none 0 0] 25)):=zab (zab (Below.refl _ _) _) _
 have HX0:=Aside0.mk (And.intro (zah hb1) (And.intro (zah hb2) (zac hbw)))
 clear hb1 hb2 hbw hs
 generalize (w.alloc (.cells #[.bool n,.slice A1 p.length c1,.slice A2 q.length c2] 25)).alloc (.cells #[.bool false,.slice none 0 0,.slice none 0 0] 25)=W0 at HX0 ⊢
 refine start_ (n:=10) (S:=fun w'=>(w'.cell? ⟨w.heap.size,0,none⟩=some (.bool n)∧w'.cell? ⟨w.heap.size,1,none⟩=some (.slice A1 p.length c1)∧w'.cell? ⟨w.heap.size,2,none⟩=some (.slice A2 q.length c2))) (ds:=[9]) #[false,false,false,false,false,false,false,false,false,false] (by kernel_rfl) rfl rfl (⟨(zai HX0.out.1 0).trans rfl,(zai HX0.out.1 1).trans rfl,(zai HX0.out.1 2).trans rfl⟩) (fun hHeld=>?_)
 generalize W0.drew=V0 at HX0 hHeld ⊢
 refine zaA (i:=0) (N:=some 3) (v:=?_) (a':=?_) #[true,false,false,false,false,false,false,false,false,false] rfl rfl (by kernel_rfl) (fun _ _ _ h=>h) (Or.inl ⟨by rfl,?_⟩) ?_ ?_
 rotate_left
 ·
  intro w'
  go_simp
  with_reducible rfl
 rotate_left
 ·
  simp only [Act.put,List.setIfInBounds_toArray,List.set_cons_zero,List.set_cons_succ,zaq,zar]
  rfl
 refine zaA (i:=2) (N:=some 5) (v:=?_) (a':=?_) #[true,false,true,false,false,false,false,false,false,false] rfl rfl (by kernel_rfl) (fun _ _ _ h=>h) (Or.inl ⟨by rfl,?_⟩) ?_ ?_
 rotate_left
 ·
  intro w'
  go_simp
  with_reducible rfl
 rotate_left
 ·
  simp only [Act.put,List.setIfInBounds_toArray,List.set_cons_zero,List.set_cons_succ,zaq,zar]
  rfl
 refine zaA (i:=5) (N:=some 8) (v:=?_) (a':=?_) #[true,false,true,false,false,true,false,false,false,false] rfl rfl (by kernel_rfl) (fun _ _ _ h=>h) (Or.inl ⟨by rfl,?_⟩) ?_ ?_
 rotate_left
 ·
  intro w'
  go_simp
  with_reducible rfl
 rotate_left
 ·
  simp only [Act.put,List.setIfInBounds_toArray,List.set_cons_zero,List.set_cons_succ,zaq,zar]
  rfl
 refine take_ (i:=1) (N:=some 4) (v:=?_) (a':=?_) #[true,true,true,false,false,true,false,false,false,false] rfl rfl (by kernel_rfl) (fun _ _ _ h=>h) (Or.inl ⟨by rfl,?_⟩) hHeld ?_ ?_
 rotate_left
 ·
  intro w' s0
  go_simp
  with_reducible rfl
 rotate_left
 ·
  simp only [Act.put,List.setIfInBounds_toArray,List.set_cons_zero,List.set_cons_succ,zaq,zar]
  rfl
 refine take_ (i:=3) (N:=some 6) (v:=?_) (a':=?_) #[true,true,true,true,false,true,false,false,false,false] rfl rfl (by kernel_rfl) (fun _ _ _ h=>h) (Or.inl ⟨by rfl,?_⟩) hHeld ?_ ?_
 rotate_left
 ·
  intro w' s0
  go_simp
  with_reducible rfl
 rotate_left
 ·
  simp only [Act.put,List.setIfInBounds_toArray,List.set_cons_zero,List.set_cons_succ,zaq,zar]
  rfl
 refine take_ (i:=6) (N:=some 9) (v:=?_) (a':=?_) #[true,true,true,true,false,true,true,false,false,false] rfl rfl (by kernel_rfl) (fun _ _ _ h=>h) (Or.inl ⟨by rfl,?_⟩) hHeld ?_ ?_
 rotate_left
 ·
  intro w' s0
  go_simp
  with_reducible rfl
 rotate_left
 ·
  simp only [Act.put,List.setIfInBounds_toArray,List.set_cons_zero,List.set_cons_succ,zaq,zar]
  rfl
 refine one_ (i:=4) (N:=some 7) #[true,true,true,true,true,true,true,false,false,false] rfl rfl (by kernel_rfl) (by decide) (fun K hK=>?_)
 refine za7 Try.func23 (by kernel_rfl) rfl #[.slice A1 p.length c1] (by rfl) rfl rfl (by (try simp only [List.map_toArray,List.map_cons,List.map_nil]); first | done | rfl) ?_
 refine(H1.out V0 HX0.out.2.2).mono ?_
 rintro e V1 ⟨v,rfl,hR,hB⟩
 refine⟨_,rfl,?_⟩
 obtain⟨B0,d0,rfl⟩:=Kd.R_slice hR
 have HX1:=Aside0.mk (And.intro (zal HX0.out.1 hB) (And.intro (zal HX0.out.2.1 hB) (zag HX0.out.2.2 hB)))
 have HR1:=Aside0.mk (Kd.R_lower hR HX0.out.2.2.size)
 clear hR hB HX0
 refine hK.out _ _ (⟨(zai HX1.out.1 0).trans rfl,(zai HX1.out.1 1).trans rfl,(zai HX1.out.1 2).trans rfl⟩) (fun hHeld=>?_)
 clear hK K
 refine zaS (a':=?_) ?_ ?_
 rotate_left
 ·
  show Act.put _ (some 7) _=_
  simp only [Act.put,List.setIfInBounds_toArray,List.set_cons_zero,List.set_cons_succ,zaq,zar]
  rfl
 refine one_ (i:=7) (N:=some 10) #[true,true,true,true,true,true,true,true,false,false] rfl rfl (by kernel_rfl) (by decide) (fun K hK=>?_)
 refine za7 Try.func23 (by kernel_rfl) rfl #[.slice A2 q.length c2] (by rfl) rfl rfl (by (try simp only [List.map_toArray,List.map_cons,List.map_nil]); first | done | rfl) ?_
 refine(H2.out V1 HX1.out.2.2).mono ?_
 rintro e V2 ⟨v,rfl,hR,hB⟩
 refine⟨_,rfl,?_⟩
 obtain⟨B1,d1,rfl⟩:=Kd.R_slice hR
 have HX2:=Aside0.mk (And.intro (zal HX1.out.1 hB) (And.intro (zal HX1.out.2.1 hB) (zag HX1.out.2.2 hB)))
 have HRR:=Aside0.mk (two_apart HR1.out hR hB HX1.out.2.2.size)
 clear hR hB HX1
 refine hK.out _ _ (⟨(zai HX2.out.1 0).trans rfl,(zai HX2.out.1 1).trans rfl,(zai HX2.out.1 2).trans rfl⟩) (fun hHeld=>?_)
 clear hK K
 refine zaS (a':=?_) ?_ ?_
 rotate_left
 ·
  show Act.put _ (some 10) _=_
  simp only [Act.put,List.setIfInBounds_toArray,List.set_cons_zero,List.set_cons_succ,zaq,zar]
  rfl
 refine zaA (i:=8) (N:=some 11) (v:=?_) (a':=?_) #[true,true,true,true,true,true,true,true,true,false] rfl rfl (by kernel_rfl) (fun _ _ _ h=>h) (Or.inl ⟨by rfl,?_⟩) ?_ ?_
 rotate_left
 ·
  intro w'
  go_simp
  with_reducible rfl
 rotate_left
 ·
  simp only [Act.put,List.setIfInBounds_toArray,List.set_cons_zero,List.set_cons_succ,zaq,zar]
  rfl
 refine last_ (i:=9) (N:=none) #[true,true,true,true,true,true,true,true,true,true] rfl rfl (by kernel_rfl) (by decide) (fun K hK=>?_)
 obtain⟨⟨x0,x1,x2⟩,y0,y1,y2⟩:=zat HX2.out.2.1
 refine skip_ (w1:=?_) (by rfl) rfl ?_ ?_
 rotate_left
 ·
  go_simp
  rfl
 refine hK.out _ _ ?_
 clear hK K
 refine done_ (by kernel_rfl) ?_
 clear hHeld
 go_wp2
 refine bodyPost_ret (results_cell_row rfl _ _ (w.heap.size+1) 25 _ (0,0) _ rfl (zaK HX2.out.2.1 _ _ _) Try.underlying25 rfl (by kernel_rfl)) rfl ?_
 exact⟨_,_,rfl,zbr HRR.out.1 HX2.out.2.1 _ _ _,zbr HRR.out.2 HX2.out.2.1 _ _ _,zaL HX2.out.2.2 (by omega) _ _ _⟩
end Go.Proofs.Ytehghijlchpeaaa.Nat1
end
section
namespace Go.Proofs.Ytehghijlchpeaaa.Ev
open Go.RowKit Go.Proofs.YtehghijlchpeaaaW.PrintWords Go.Proofs.YtehghijlchpeaaaW.PrintLast Go.Proofs.YtehghijlchpeaaaW.PrintMore Go.Proofs.Ytehghijlchpeaaa.L Go.Proofs.Ytehghijlchpeaaa.Nt Go.Proofs.Ytehghijlchpeaaa.Nat1
set_option linter.unusedVariables false
set_option linter.unusedSimpArgs false
set_option linter.unusedSectionVars false
def fewB (ls:List (List Int)):Bool:=ls.all (fun l=>decide (l.length≤60))
theorem few_loop (ls:List (List Int)) (hl:ls.length≤1000000) (j:Nat):∀ i,i+j=ls.length→Ev (fun k=>fluxionlaw03_few.l0 k ls (i:Int)) (fewB (ls.drop i)):=by
 induction j with
 | zero =>
  intro i hi
  rw [List.drop_eq_nil_of_le (by omega)]
  refine Ev.succ (Ev.congr (Ev.some _) (fun k=>?_))
  rw [fluxionlaw03_few.l0,if_neg (by omega)]
  rfl
 | succ j ih =>
  intro i hi
  have hlt:i < ls.length:=by omega
  have hr:rd_L2 ls (i:Int)=ls[i]:=by
   unfold rd_L2
   rw [Int.toNat_natCast,List.getD_eq_getElem?_getD,List.getElem?_eq_getElem hlt]
   rfl
  have e:fewB (ls.drop i)=(decide (ls[i].length≤60) && fewB (ls.drop (i+1))):=by
   rw [List.drop_eq_getElem_cons hlt]
   rfl
  rw [e]
  by_cases h:ls[i].length > 60
  ·
   rw [decide_eq_false (by omega),Bool.false_and]
   refine Ev.succ (Ev.congr (Ev.some _) (fun k=>?_))
   rw [fluxionlaw03_few.l0,if_pos (by omega),if_pos (by omega),hr,if_pos (by omega)]
  ·
   rw [decide_eq_true (by omega),Bool.true_and]
   refine Ev.succ (Ev.congr (ih (i+1) (by omega)) (fun k=>?_))
   rw [fluxionlaw03_few.l0,if_pos (by omega),if_pos (by omega),hr,if_neg (by omega),w_succ (by omega)]
end Go.Proofs.Ytehghijlchpeaaa.Ev
namespace Go.Proofs.Ytehghijlchpeaaa.Nat1
open Go.RowKit Go.Proofs.YtehghijlchpeaaaW.PrintWords Go.Proofs.YtehghijlchpeaaaW.PrintLast Go.Proofs.YtehghijlchpeaaaW.PrintMore Go.Proofs.Ytehghijlchpeaaa.L Go.Proofs.Ytehghijlchpeaaa.Nt Go.Proofs.Ytehghijlchpeaaa.Ev
abbrev SL:=Option Addr×Nat×List Int
def slV (x:SL):Value:=.slice x.1 x.2.2.length x.2.1
theorem few_q (xs:List SL) (g:Nat) (t:TypeId) (W:World) (hg:W.heap[g]? = some (.cells (xs.map slV).toArray t (0,0))) (hC:∀ x∈xs,Kd.C (Kd.int .u32) W x.1 x.2.2.length x.2.2∧x.2.2.length≤x.2.1) (hn:xs.length≤1000000) :
  Calls Try.prog 14 #[.slice (some ⟨g,0,none⟩) xs.length xs.length] W fun e w'=>e=.returned (.bool (fewB (xs.map (fun x=>x.2.2))))∧Drawn0 W w':=by
 obtain⟨k,hk⟩:=few_loop (xs.map (fun x=>x.2.2)) (by rw [List.length_map]; exact hn) xs.length 0 (by rw [List.length_map]; omega)
 have hk:fluxionlaw03_few.f k (xs.map (fun x=>x.2.2))=_:=hk k (Nat.le_refl _)
 have:=fluxionlaw03_few.calls k (some ⟨g,0,none⟩) xs.length (xs.map (fun x=>x.2.2)) _ W ⟨rfl,by rw [List.length_map]; omega,fun _=>⟨_,rfl,fun j p hj=>?_⟩⟩ (by rw [List.length_map]; exact Nat.le_refl _) hk
 ·
  rw [List.length_map,List.drop_zero] at this
  exact this
 ·
  rw [List.getElem?_map] at hj
  obtain⟨x,hx,rfl⟩:=Option.map_eq_some_iff.1 hj
  have hm:=List.mem_of_getElem? hx
  refine⟨[slV x],rfl,⟨x.1,x.2.1,rfl,(hC x hm).2,(hC x hm).1⟩,fun i u hi=>?_⟩
  match i,hi with
  | 0,hi =>
   cases hi
   have hc:=zai hg j
   rw [List.getElem?_toArray,List.getElem?_map,hx] at hc
   have ea:(⟨g,0,none⟩:Addr).add (j*1+0)=⟨g,j,none⟩:=by
    cases j with
    | zero=>rfl
    | succ j=>simp [Addr.add]
   have es:(Kd.slice 63 (Kd.int .u32)).sz=1:=rfl
   rw [es,ea,hc]
   rfl
  | i+1,hi=>simp at hi
end Go.Proofs.Ytehghijlchpeaaa.Nat1
end
section
namespace Go.Proofs.Ytehghijlchpeaaa.Nat1
open Go.RowKit Go.Proofs.YtehghijlchpeaaaW.PrintWords Go.Proofs.YtehghijlchpeaaaW.PrintLast Go.Proofs.YtehghijlchpeaaaW.PrintMore Go.Proofs.Ytehghijlchpeaaa.L Go.Proofs.Ytehghijlchpeaaa.Nt Go.Proofs.Ytehghijlchpeaaa.Ev
set_option linter.unusedVariables false
set_option linter.unusedSimpArgs false
set_option linter.unusedSectionVars false
theorem lim_up {j k:Nat} {X:QN} (h:lim j X) (hk:j≤k):lim k X :=
 ⟨Nat.lt_of_lt_of_le h.1 (Nat.pow_le_pow_right (by decide) hk),Nat.lt_of_lt_of_le h.2 (Nat.pow_le_pow_right (by decide) hk)⟩
theorem lim_mul2 {j k a b:Nat} (ha:a < B32 ^ j) (hb:b < B32 ^ k):a*b < B32 ^ (j+k):=by
 rw [Nat.pow_add]
 exact Nat.mul_lt_mul'' ha hb
theorem lim_mul {j k:Nat} {X Y:QN} (h1:lim j X) (h2:lim k Y) (hk:0 < j+k):lim (j+k) (mulQ X Y):=lim_nrm (lim_mul2 h1.1 h2.1) (lim_mul2 h1.2 h2.2) hk
theorem lim_raw {n:Bool} {p q:List Int} (hp:ok B32 p) (hq:ok B32 q) (h1:p.length≤60) (h2:q.length≤60):lim 60 (nrm n (val B32 p) (val B32 q)) :=
 lim_nrm (Nat.lt_of_lt_of_le (val_lt hp) (Nat.pow_le_pow_right (by decide) h1)) (Nat.lt_of_lt_of_le (val_lt hq) (Nat.pow_le_pow_right (by decide) h2)) (by decide)
theorem NR.below {w w':World} {v:Value} {X:QN} (h:NR w v X) (hb:Below w.heap.size w w'):NR w' v X:=by
 obtain⟨n,A1,c1,p,A2,c2,q,rfl,h1,h2,e⟩:=h
 exact⟨n,A1,c1,p,A2,c2,q,rfl,⟨Kd.C_below h1.1 hb,h1.2⟩,⟨Kd.C_below h2.1 hb,h2.2⟩,e⟩
section
variable {W:World} {u v:Value} {X Y:QN} (hu:NR W u X) (hv:NR W v Y)
include hu
theorem ref_of_n:Calls Try.prog 21 #[u] W fun e w'=>∃ v,e=.returned v∧QT w' W.heap.size v X∧Below W.heap.size W w':=by
 obtain⟨n,A1,c1,p,A2,c2,q,rfl,h1,h2,rfl⟩:=hu
 obtain⟨k,hk⟩:=ofR_ev (n:=n) (p:=p) (q:=q) h1.2.2 h2.2.2
 have hk:fluxionref03_Of.f k n p q=_:=hk k (Nat.le_refl _)
 unfold DR at hk
 refine(fluxionref03_Of.calls k n A1 c1 p A2 c2 q _ _ _ W h1.1 h1.2.1 h2.1 h2.2.1 hk).mono ?_
 rintro e w' ⟨v1,v2,rfl,R1,R2,hb⟩
 exact⟨_,rfl,⟨v1,v2,rfl,Kd.R_mono R1 (fun _ _=>trivial),Kd.R_mono R2 (fun _ _=>trivial)⟩,hb⟩
include hv
theorem div_n:Calls Try.prog 38 #[u,v] W (MakePost W (divP X Y)):=by
 obtain⟨n,A1,c1,p,A2,c2,q,rfl,h1,h2,rfl⟩:=hu
 obtain⟨m,A3,c3,r,A4,c4,s,rfl,h3,h4,rfl⟩:=hv
 exact divR_q n A1 c1 p A2 c2 q m A3 c3 r A4 c4 s W h1.1 h1.2.1 h2.1 h2.2.1 h3.1 h3.2.1 h4.1 h4.2.1 h1.2.2 h2.2.2 h3.2.2 h4.2.2
theorem divY_n (hz:Y.2.1≠0):Calls Try.prog 38 #[u,v] W (RTE W (divQ X Y) 0):=by
 have:=div_n hu hv
 rw [divP,if_neg hz] at this
 exact this.mono (fun e w' h=>MakePost.rte h)
end
theorem okS60 {l:List Int} (h:ok B32 l) (hl:l.length≤60):okS l:=⟨h,by omega⟩
def DT (w:World) (v:Value) (n:Nat):Prop:=∃ (A:Option Addr) (c:Nat),v=.slice A (dg 10000 n).length c∧Kd.C (Kd.int .i64) w A (dg 10000 n).length (dg 10000 n)∧(dg 10000 n).length≤c
theorem DT.below {w w':World} {v:Value} {n:Nat} (h:DT w v n) (hb:Below w.heap.size w w'):DT w' v n:=by
 obtain⟨A,c,rfl,h1,h2⟩:=h
 exact⟨A,c,rfl,Kd.C_below h1 hb,h2⟩
theorem ref_make_n {W:World} {n:Bool} {u v:Value} {a b:Nat} (hu:DT W u a) (hv:DT W v b) (ha:sh a) (hb:sh b):Calls Try.prog 25 #[.bool n,u,v] W fun e w'=>∃ x,e=.returned x∧QT w' W.heap.size x (nrm n a b)∧Below W.heap.size W w':=by
 obtain⟨A1,c1,rfl,a1,b1⟩:=hu
 obtain⟨A2,c2,rfl,a2,b2⟩:=hv
 obtain⟨k,hk⟩:=make_ev (n:=n) ha hb
 have hk:fluxionref03_Make.f k n _ _=_:=hk k (Nat.le_refl _)
 unfold DR at hk
 refine(fluxionref03_Make.calls k n A1 c1 _ A2 c2 _ _ _ _ W a1 b1 a2 b2 hk).mono ?_
 rintro e w' ⟨v1,v2,rfl,R1,R2,hb⟩
 exact⟨_,rfl,⟨v1,v2,rfl,Kd.R_mono R1 (fun _ _=>trivial),Kd.R_mono R2 (fun _ _=>trivial)⟩,hb⟩
theorem ownR_n {W:World} {u:Value} {X:QN} (hu:NR W u X):Calls Try.prog 17 #[u] W fun e w'=>∃ v,e=.returned v∧NR w' v X∧Below W.heap.size W w':=by
 obtain⟨n,A1,c1,p,A2,c2,q,rfl,h1,h2,rfl⟩:=hu
 refine(ownR_q n A1 c1 p A2 c2 q W h1.1 h1.2.1 h2.1 h2.2.1 (Nat.le_trans h1.2.2.2 (by decide)) (Nat.le_trans h2.2.2.2 (by decide))).mono ?_
 rintro e w' ⟨v1,v2,rfl,R1,R2,hb⟩
 obtain⟨B1,d1,rfl⟩:=Kd.R_slice R1
 obtain⟨B2,d2,rfl⟩:=Kd.R_slice R2
 exact⟨_,rfl,⟨n,B1,d1,p,B2,d2,q,rfl,⟨(Kd.R_reads' R1).2.2,(Kd.R_reads' R1).2.1,h1.2.2⟩,⟨(Kd.R_reads' R2).2.2,(Kd.R_reads' R2).2.1,h2.2.2⟩,rfl⟩,hb⟩
end Go.Proofs.Ytehghijlchpeaaa.Nat1
end
section
namespace Go.Proofs.Ytehghijlchpeaaa.Ev
open Go.RowKit Go.Proofs.YtehghijlchpeaaaW.PrintWords Go.Proofs.YtehghijlchpeaaaW.PrintLast Go.Proofs.YtehghijlchpeaaaW.PrintMore Go.Proofs.Ytehghijlchpeaaa.L Go.Proofs.Ytehghijlchpeaaa.Nt Go.Proofs.Ytehghijlchpeaaa.Nat1
set_option linter.unusedVariables false
set_option linter.unusedSimpArgs false
set_option linter.unusedSectionVars false
theorem mul_loop {a b:Nat} (ha:sm a) (hb:sm b) (hab:sm (a*b)) (j:Nat):j≤(dg 10000 b).length→Ev (fun k=>fluxionref01_Mul.l0 k (dg 10000 a) (dg 10000 b) (dg 10000 (a*(b / 10000 ^ j))) ((j:Int)-1)) (dg 10000 (a*b)):=by
 induction j with
 | zero =>
  intro _
  rw [Nat.pow_zero,Nat.div_one]
  refine Ev.succ (Ev.congr (Ev.some _) (fun k=>?_))
  rw [fluxionref01_Mul.l0,if_neg (by omega)]
 | succ j ih =>
  intro hj
  have hih:=ih (by omega)
  unfold sm at ha hb hab
  have hle:a*(b / 10000 ^ j)≤a*b:=Nat.mul_le_mul_left _ (Nat.div_le_self _ _)
  have hd:=za0 b j
  have hrd:=rd_D b j
  generalize hM:b / 10000 ^ j=M at *
  generalize hA:b / 10000 ^ (j+1)=A at *
  have e1:=times_ev (a:=a) (d:=M % 10000) (by omega) ha
  have eM:a*M=10000*(a*A)+a*(M % 10000):=by
   rw [hd]
   have h2:M=10000*(M / 10000)+M % 10000:=(Nat.div_add_mod M 10000).symm
   calc a*M=a*(10000*(M / 10000)+M % 10000):=by rw [← h2]
    _=10000*(a*(M / 10000))+a*(M % 10000):=by rw [Nat.mul_add,Nat.mul_left_comm]
  have e4:=add_ev (a:=10000*(a*A)) (b:=a*(M % 10000)) (by
   rw [← eM]
   have:=zaF zaY hle
   omega)
  rw [← eM] at e4
  have hup:dg 10000 (10000*(a*A))=if 0 < a*A then [(0:Int)]++dg 10000 (a*A) else []:=by
   by_cases h0:0 < a*A
   ·
    rw [if_pos h0,D_pos (by omega),show 10000*(a*A) % 10000=0 by omega,show 10000*(a*A) / 10000=a*A by omega]
    rfl
   ·
    rw [if_neg h0,show 10000*(a*A)=0 by omega,zaH]
  have hAl:(dg 10000 (a*A)).length≤1099511627776:=by
   have h1:a*A≤a*b:=by
    have:a*A≤a*M:=by rw [hd]; exact Nat.mul_le_mul_left _ (Nat.div_le_self _ _)
    omega
   exact Nat.le_trans (zaF zaY h1) hab
  have ex:(((j+1:Nat):Int)-1)=(j:Int):=by omega
  have ew:wrap64 ((j:Int)-1)=(j:Int)-1:=w64 (by omega) (by omega)
  rw [ex]
  obtain⟨k1,h1⟩:=e1
  obtain⟨k4,h4⟩:=e4
  obtain⟨k5,h5⟩:=hih
  dsimp only at h1 h4 h5
  refine Ev.succ ⟨k1+k4+k5,fun k hk=>?_⟩
  dsimp only
  have hl:=len_pos (n:=a*A)
  have h4:=h4 k (by omega)
  rw [hup] at h4
  by_cases h0:0 < a*A
  ·
   rw [if_pos h0] at h4
   rw [fluxionref01_Mul.l0,if_pos (by omega),if_pos (by omega),Option.bind_some,if_pos (by simp only [List.length_cons,List.length_nil]; omega),if_pos (by omega),if_pos (by omega),hrd,h1 k (by omega),Option.bind_some,h4,Option.bind_some,ew]
   exact h5 k (by omega)
  ·
   rw [if_neg h0] at h4
   rw [fluxionref01_Mul.l0,if_pos (by omega),if_neg (by omega),if_pos (by omega),if_pos (by omega),hrd,h1 k (by omega),Option.bind_some,h4,Option.bind_some,ew]
   exact h5 k (by omega)
theorem mul_ev {a b:Nat} (ha:sm a) (hb:sm b) (hab:sm (a*b)):Ev (fun k=>fluxionref01_Mul.f k (dg 10000 a) (dg 10000 b)) (dg 10000 (a*b)):=by
 have:=mul_loop ha hb hab (dg 10000 b).length (Nat.le_refl _)
 have h0:b / 10000 ^ (dg 10000 b).length=0:=Nat.div_eq_of_lt (lt_dg zaY)
 rw [h0,Nat.mul_zero,zaH] at this
 refine Ev.congr this (fun k=>?_)
 unfold sm at hb
 rw [fluxionref01_Mul.f,w64 (by omega) (by omega)]
theorem sh_pow {n m:Nat} (h:n < B32 ^ m) (hm:m≤1000):sh n:=by
 have h1:B32 ^ m≤10000 ^ (3*m):=by
  rw [Nat.pow_mul]
  exact Nat.pow_le_pow_left (by decide) m
 have:=zaE (k:=3*m) zaY (Nat.lt_of_lt_of_le h h1)
 unfold sh
 omega
end Go.Proofs.Ytehghijlchpeaaa.Ev
namespace Go.Proofs.Ytehghijlchpeaaa.Nat1
open Go.RowKit Go.Proofs.YtehghijlchpeaaaW.PrintWords Go.Proofs.YtehghijlchpeaaaW.PrintLast Go.Proofs.YtehghijlchpeaaaW.PrintMore Go.Proofs.Ytehghijlchpeaaa.L Go.Proofs.Ytehghijlchpeaaa.Nt Go.Proofs.Ytehghijlchpeaaa.Ev
def QD (w:World) (v:Value) (X:QN):Prop:=∃ v1 v2:Value,v=.agg #[.bool X.1,v1,v2]∧DT w v1 X.2.1∧DT w v2 X.2.2
theorem R_DT {w:World} {base:Nat} {P:Nat→Prop} {v:Value} {n:Nat} (h:Kd.R (Kd.int .i64) 3 w base P v (dg 10000 n)):DT w v n:=by
 obtain⟨A,c,rfl⟩:=Kd.R_slice h
 exact⟨A,c,rfl,(Kd.R_reads' h).2.2,(Kd.R_reads' h).2.1⟩
theorem QT.qd {w:World} {b:Nat} {v:Value} {X:QN} (h:QT w b v X):QD w v X:=by
 obtain⟨v1,v2,rfl,R1,R2⟩:=h
 exact⟨v1,v2,rfl,R_DT R1,R_DT R2⟩
theorem nmul_n {W:World} {u v:Value} {a b:Nat} (hu:DT W u a) (hv:DT W v b) (ha:sm a) (hb:sm b) (hab:sm (a*b)):Calls Try.prog 73 #[u,v] W fun e w'=>∃ x,e=.returned x∧DT w' x (a*b)∧Below W.heap.size W w':=by
 obtain⟨A1,c1,rfl,a1,b1⟩:=hu
 obtain⟨A2,c2,rfl,a2,b2⟩:=hv
 obtain⟨k,hk⟩:=mul_ev ha hb hab
 refine(fluxionref01_Mul.calls k A1 c1 _ A2 c2 _ _ W a1 b1 a2 b2 (hk k (Nat.le_refl _))).mono ?_
 rintro e w' ⟨x,rfl,hR,hB⟩
 exact⟨_,rfl,R_DT hR,hB⟩
theorem zero_n {W:World} {u:Value} {X:QN} (hu:QD W u X):Calls Try.prog 79 #[u] W fun e w'=>e=.returned (.bool (decide (X.2.1=0)))∧Below W.heap.size W w':=by
 obtain⟨v1,v2,rfl,⟨A1,c1,rfl,a1,b1⟩,⟨A2,c2,rfl,a2,b2⟩⟩:=hu
 refine fluxionref03_Zero.calls X.1 A1 c1 _ A2 c2 _ _ W a1 b1 a2 b2 ?_
 rw [fluxionref03_Zero.f]
 congr 1
 have:=len_pos (n:=X.2.1)
 by_cases h:X.2.1=0
 ·
  rw [decide_eq_true h,h,D_zero]; rfl
 ·
  rw [decide_eq_false h,beq_eq_false_iff_ne]; omega
theorem ref_is_n {w:World} {b2:Nat} {u v:Value} {r x:QN} (hu:QD w u r) (hv:RT w b2 v x) (hx:okQ x) (e:x=r) :
  Calls Try.prog 20 #[u,v] w fun e w'=>e=.returned (.bool true)∧Below w.heap.size w w':=by
 obtain⟨k,hk⟩:=isR_ev (r:=r) (n:=x.1) (okE_dg hx.1) (okE_dg hx.2)
 have hk:=hk k (Nat.le_refl _)
 rw [decide_eq_true (by rw [e]; exact⟨rfl,rfl,rfl⟩)] at hk
 obtain⟨v1,v2,rfl,⟨A1,c1,rfl,a1,b1⟩,⟨A2,c2,rfl,a2,b2⟩⟩:=hu
 obtain⟨B1,d1,B2,d2,rfl,S1,S2⟩:=hv.args
 exact fluxionref03_Is.calls k r.1 A1 c1 _ A2 c2 _ x.1 B1 d1 _ B2 d2 _ _ w a1 b1 a2 b2 (Kd.R_reads' S1).2.2 (Kd.R_reads' S1).2.1 (Kd.R_reads' S2).2.2 (Kd.R_reads' S2).2.1 hk
end Go.Proofs.Ytehghijlchpeaaa.Nat1
end
section
namespace Go.Proofs.Ytehghijlchpeaaa.Nat1
open Go.RowKit Go.Proofs.YtehghijlchpeaaaW.PrintWords Go.Proofs.YtehghijlchpeaaaW.PrintLast Go.Proofs.YtehghijlchpeaaaW.PrintMore Go.Proofs.Ytehghijlchpeaaa.L Go.Proofs.Ytehghijlchpeaaa.Nt Go.Proofs.Ytehghijlchpeaaa.Ev
set_option linter.unusedVariables false
set_option linter.unusedSimpArgs false
set_option linter.unusedSectionVars false
def QTPost (W:World) (r:QN) (e:Ending) (w':World):Prop:=∃ x,e=.returned x∧QT w' W.heap.size x r∧Below W.heap.size W w'
theorem store3_R3 {W:World} {base g:Nat} {ok':Nat→Prop} {v:Value} {xs:List Int} {cs:Array Value} (h:Kd.R (Kd.int .i64) 3 W base ok' v xs) (hg:W.heap[g]? = some (.cells cs 36 (0,0))) (a b c:Value):Kd.R (Kd.int .i64) 3 (store3 W g a b c) base ok' v xs :=
 Kd.R_mono (Kd.R_far (p:=⟨g,2,none⟩) (Kd.R_far (p:=⟨g,1,none⟩) (Kd.R_far (p:=⟨g,0,none⟩) (Kd.R_types h hg (by decide)) (fun _ hk=>hk.2) a) (fun _ hk=>hk.2) b) (fun _ hk=>hk.2) c) (fun _ hk=>hk.1)
theorem QT.store3 {W:World} {base g:Nat} {v:Value} {r:QN} {cs:Array Value} (h:QT W base v r) (hg:W.heap[g]? = some (.cells cs 36 (0,0))) (a b c:Value):QT (store3 W g a b c) base v r:=by
 obtain⟨v1,v2,he,h1,h2⟩:=h
 exact⟨v1,v2,he,store3_R3 h1 hg _ _ _,store3_R3 h2 hg _ _ _⟩
theorem prod_sh {a b:Nat} (ha:a < B32 ^ 200) (hb:b < B32 ^ 200):sm a∧sm b∧sm (a*b)∧sh (a*b) :=
 ⟨(sh_pow ha (by decide)).sm,(sh_pow hb (by decide)).sm,(sh_pow (lim_mul2 ha hb) (by decide)).sm,sh_pow (lim_mul2 ha hb) (by decide)⟩
def refmul.T1:Bool×List (List Nat×List Nat):=(true,[([],[]),([0],[0]),([],[]),([2],[2]),([1,3],[1,3]),([],[]),([5],[5]),([],[]),([7],[7]),([6,8],[6,8]),([],[]),([10],[10]),([],[]),([12],[12]),([11,13,9],[11,13]),([4,9,14,14],[4,9,14]),([15,15,0,1,2,3,4,5,6,7,8,9,10,11,12,13,14,15],[15])])
def refmul.B1:List Nat:=[0,1,0,4,15,0,32,0,128,480,0,1024,0,4096,16352,32767,65535]
theorem refmul.tab1:rtab .any (opsOf Try.f34 1)=refmul.T1:=by kernel_rfl
theorem refmul.bits1:waitsOk refmul.T1.2 refmul.B1=true:=by kernel_rfl
set_option maxHeartbeats 4000000 in
set_option maxRecDepth 100000 in
theorem refmul_n {W:World} {u v:Value} {X Y:QN} (hu:QD W u X) (hv:QD W v Y) (kX:lim 200 X) (kY:lim 200 Y) :
  Calls Try.prog 34 #[u,v] W (QTPost W (mulQ X Y)):=by
 have hu36:=Try.underlying36
 have K1:=Aside0.mk (prod_sh kX.1 kY.1)
 have K2:=Aside0.mk (prod_sh kX.2 kY.2)
 clear kX kY
 obtain⟨u1,u2,rfl,hu1,hu2⟩:=hu
 have HU1:=Aside0.mk hu1
 have HU2:=Aside0.mk hu2
 obtain⟨v1,v2,rfl,hv1,hv2⟩:=hv
 have HV1:=Aside0.mk hv1
 have HV2:=Aside0.mk hv2
 clear hu1 hu2 hv1 hv2
 go_enter Try.func34,Try.ntmps34
 go_wp2_with fail
 have hx0:=zae (zae (zbp W (.cells #[.bool X.1,u1,u2] 36)) (.cells #[.bool Y.1,v1,v2] 36)) (.cells #[.bool false,.slice none 0 0,.slice none 0 0] 36)
 have hx1:=zae (zbp (W.alloc (.cells #[.bool X.1,u1,u2] 36)) (.cells #[.bool Y.1,v1,v2] 36)) (.cells #[.bool false,.slice none 0 0,.slice none 0 0] 36)
 rw [show (W.alloc (.cells #[.bool X.1,u1,u2] 36)).heap.size=W.heap.size+1 by simp] at hx1
 have hx2:=zbp ((W.alloc (.cells #[.bool X.1,u1,u2] 36)).alloc (.cells #[.bool Y.1,v1,v2] 36)) (.cells #[.bool false,.slice none 0 0,.slice none 0 0] 36)
 rw [show ((W.alloc (.cells #[.bool X.1,u1,u2] 36)).alloc (.cells #[.bool Y.1,v1,v2] 36)).heap.size=W.heap.size+1+1 by simp] at hx2
 have hbw:Below W.heap.size W (((W.alloc (.cells #[.bool X.1,u1,u2] 36)).alloc (.cells #[.bool Y.1,v1,v2] 36)).alloc (.cells #[.bool false,.slice none 0 0,.slice none 0 0] 36)):=zab (zab (zab (Below.refl _ _) _) _) _
 generalize ((W.alloc (.cells #[.bool X.1,u1,u2] 36)).alloc (.cells #[.bool Y.1,v1,v2] 36)).alloc (.cells #[.bool false,.slice none 0 0,.slice none 0 0] 36)=W0 at hx0 hx1 hx2 hbw ⊢
 have HF:Aside0 (∀ w':World,Below W0.heap.size W0 w'→(w'.cell? ⟨W.heap.size,0,none⟩=some (.bool X.1)∧w'.cell? ⟨W.heap.size,1,none⟩=some (u1)∧w'.cell? ⟨W.heap.size,2,none⟩=some (u2)∧w'.cell? ⟨W.heap.size+1,0,none⟩=some (.bool Y.1)∧w'.cell? ⟨W.heap.size+1,1,none⟩=some (v1)∧w'.cell? ⟨W.heap.size+1,2,none⟩=some (v2))∧w'.heap[W.heap.size+1+1]? = some (.cells #[.bool false,.slice none 0 0,.slice none 0 0] 36 (0,0))∧Below W.heap.size W w'):=⟨fun w' hb=>⟨⟨(zai (zal hx0 hb) 0).trans rfl,(zai (zal hx0 hb) 1).trans rfl,(zai (zal hx0 hb) 2).trans rfl,(zai (zal hx1 hb) 0).trans rfl,(zai (zal hx1 hb) 1).trans rfl,(zai (zal hx1 hb) 2).trans rfl⟩,zal hx2 hb,zag hbw hb⟩⟩
 clear hbw hx0 hx1 hx2
 refine start_ (n:=17) (S:=fun w'=>(w'.cell? ⟨W.heap.size,0,none⟩=some (.bool X.1)∧w'.cell? ⟨W.heap.size,1,none⟩=some (u1)∧w'.cell? ⟨W.heap.size,2,none⟩=some (u2)∧w'.cell? ⟨W.heap.size+1,0,none⟩=some (.bool Y.1)∧w'.cell? ⟨W.heap.size+1,1,none⟩=some (v1)∧w'.cell? ⟨W.heap.size+1,2,none⟩=some (v2))) (ds:=[16]) #[false,false,false,false,false,false,false,false,false,false,false,false,false,false,false,false,false] (by kernel_rfl) rfl rfl ((HF.out _ (zac (Below.refl _ _))).1) (fun hHeld=>?_)
 have hb0:=Aside0.mk (show Below W0.heap.size W0 W0.drew from zac (Below.refl _ _))
 generalize W0.drew=V0 at hb0 hHeld ⊢
 refine with_tabW refmul.tab1 refmul.bits1 (fun HT_ HW_=>?_)
 refine zaA (i:=0) (N:=some 5) (v:=?_) (a':=?_) #[true,false,false,false,false,false,false,false,false,false,false,false,false,false,false,false,false] rfl rfl (zay HT_.out (by kernel_rfl)) (fun _ _ _ h=>h) (Or.inl ⟨by rfl,?_⟩) ?_ ?_
 rotate_left
 ·
  intro w'
  go_simp
  with_reducible rfl
 rotate_left
 ·
  simp only [Act.put,List.setIfInBounds_toArray,List.set_cons_zero,List.set_cons_succ,zaq,zar]
  rfl
 refine zaA (i:=2) (N:=some 7) (v:=?_) (a':=?_) #[true,false,true,false,false,false,false,false,false,false,false,false,false,false,false,false,false] rfl rfl (zay HT_.out (by kernel_rfl)) (fun _ _ _ h=>h) (Or.inl ⟨by rfl,?_⟩) ?_ ?_
 rotate_left
 ·
  intro w'
  go_simp
  with_reducible rfl
 rotate_left
 ·
  simp only [Act.put,List.setIfInBounds_toArray,List.set_cons_zero,List.set_cons_succ,zaq,zar]
  rfl
 refine zaA (i:=5) (N:=some 10) (v:=?_) (a':=?_) #[true,false,true,false,false,true,false,false,false,false,false,false,false,false,false,false,false] rfl rfl (zay HT_.out (by kernel_rfl)) (fun _ _ _ h=>h) (Or.inl ⟨by rfl,?_⟩) ?_ ?_
 rotate_left
 ·
  intro w'
  go_simp
  with_reducible rfl
 rotate_left
 ·
  simp only [Act.put,List.setIfInBounds_toArray,List.set_cons_zero,List.set_cons_succ,zaq,zar]
  rfl
 refine zaA (i:=7) (N:=some 12) (v:=?_) (a':=?_) #[true,false,true,false,false,true,false,true,false,false,false,false,false,false,false,false,false] rfl rfl (zay HT_.out (by kernel_rfl)) (fun _ _ _ h=>h) (Or.inl ⟨by rfl,?_⟩) ?_ ?_
 rotate_left
 ·
  intro w'
  go_simp
  with_reducible rfl
 rotate_left
 ·
  simp only [Act.put,List.setIfInBounds_toArray,List.set_cons_zero,List.set_cons_succ,zaq,zar]
  rfl
 refine zaA (i:=10) (N:=some 15) (v:=?_) (a':=?_) #[true,false,true,false,false,true,false,true,false,false,true,false,false,false,false,false,false] rfl rfl (zay HT_.out (by kernel_rfl)) (fun _ _ _ h=>h) (Or.inl ⟨by rfl,?_⟩) ?_ ?_
 rotate_left
 ·
  intro w'
  go_simp
  with_reducible rfl
 rotate_left
 ·
  simp only [Act.put,List.setIfInBounds_toArray,List.set_cons_zero,List.set_cons_succ,zaq,zar]
  rfl
 refine zaA (i:=12) (N:=some 17) (v:=?_) (a':=?_) #[true,false,true,false,false,true,false,true,false,false,true,false,true,false,false,false,false] rfl rfl (zay HT_.out (by kernel_rfl)) (fun _ _ _ h=>h) (Or.inl ⟨by rfl,?_⟩) ?_ ?_
 rotate_left
 ·
  intro w'
  go_simp
  with_reducible rfl
 rotate_left
 ·
  simp only [Act.put,List.setIfInBounds_toArray,List.set_cons_zero,List.set_cons_succ,zaq,zar]
  rfl
 refine take_ (i:=1) (N:=some 6) (v:=?_) (a':=?_) #[true,true,true,false,false,true,false,true,false,false,true,false,true,false,false,false,false] rfl rfl (zaQ HT_.out HW_.out (by kernel_rfl)) (fun _ _ _ h=>h) (Or.inl ⟨by rfl,?_⟩) hHeld ?_ ?_
 rotate_left
 ·
  intro w' s0
  go_simp
  with_reducible rfl
 rotate_left
 ·
  simp only [Act.put,List.setIfInBounds_toArray,List.set_cons_zero,List.set_cons_succ,zaq,zar]
  rfl
 refine take_ (i:=3) (N:=some 8) (v:=?_) (a':=?_) #[true,true,true,true,false,true,false,true,false,false,true,false,true,false,false,false,false] rfl rfl (zaQ HT_.out HW_.out (by kernel_rfl)) (fun _ _ _ h=>h) (Or.inl ⟨by rfl,?_⟩) hHeld ?_ ?_
 rotate_left
 ·
  intro w' s0
  go_simp
  with_reducible rfl
 rotate_left
 ·
  simp only [Act.put,List.setIfInBounds_toArray,List.set_cons_zero,List.set_cons_succ,zaq,zar]
  rfl
 refine zaA (i:=4) (N:=some 9) (v:=?_) (a':=?_) #[true,true,true,true,true,true,false,true,false,false,true,false,true,false,false,false,false] rfl rfl (zay HT_.out (by kernel_rfl)) (fun _ _ _ h=>h) (Or.inl ⟨by rfl,?_⟩) ?_ ?_
 rotate_left
 ·
  intro w'
  go_simp
  with_reducible rfl
 rotate_left
 ·
  simp only [Act.put,List.setIfInBounds_toArray,List.set_cons_zero,List.set_cons_succ,zaq,zar]
  rfl
 refine take_ (i:=6) (N:=some 11) (v:=?_) (a':=?_) #[true,true,true,true,true,true,true,true,false,false,true,false,true,false,false,false,false] rfl rfl (zaQ HT_.out HW_.out (by kernel_rfl)) (fun _ _ _ h=>h) (Or.inl ⟨by rfl,?_⟩) hHeld ?_ ?_
 rotate_left
 ·
  intro w' s0
  go_simp
  with_reducible rfl
 rotate_left
 ·
  simp only [Act.put,List.setIfInBounds_toArray,List.set_cons_zero,List.set_cons_succ,zaq,zar]
  rfl
 refine take_ (i:=8) (N:=some 13) (v:=?_) (a':=?_) #[true,true,true,true,true,true,true,true,true,false,true,false,true,false,false,false,false] rfl rfl (zaQ HT_.out HW_.out (by kernel_rfl)) (fun _ _ _ h=>h) (Or.inl ⟨by rfl,?_⟩) hHeld ?_ ?_
 rotate_left
 ·
  intro w' s0
  go_simp
  with_reducible rfl
 rotate_left
 ·
  simp only [Act.put,List.setIfInBounds_toArray,List.set_cons_zero,List.set_cons_succ,zaq,zar]
  rfl
 refine take_ (i:=11) (N:=some 16) (v:=?_) (a':=?_) #[true,true,true,true,true,true,true,true,true,false,true,true,true,false,false,false,false] rfl rfl (zaQ HT_.out HW_.out (by kernel_rfl)) (fun _ _ _ h=>h) (Or.inl ⟨by rfl,?_⟩) hHeld ?_ ?_
 rotate_left
 ·
  intro w' s0
  go_simp
  with_reducible rfl
 rotate_left
 ·
  simp only [Act.put,List.setIfInBounds_toArray,List.set_cons_zero,List.set_cons_succ,zaq,zar]
  rfl
 refine take_ (i:=13) (N:=some 18) (v:=?_) (a':=?_) #[true,true,true,true,true,true,true,true,true,false,true,true,true,true,false,false,false] rfl rfl (zaQ HT_.out HW_.out (by kernel_rfl)) (fun _ _ _ h=>h) (Or.inl ⟨by rfl,?_⟩) hHeld ?_ ?_
 rotate_left
 ·
  intro w' s0
  go_simp
  with_reducible rfl
 rotate_left
 ·
  simp only [Act.put,List.setIfInBounds_toArray,List.set_cons_zero,List.set_cons_succ,zaq,zar]
  rfl
 refine one_ (i:=9) (N:=some 14) #[true,true,true,true,true,true,true,true,true,true,true,true,true,true,false,false,false] rfl rfl (zaO HT_.out (by kernel_rfl)) (by decide) (fun K hK=>?_)
 refine za7 Try.func73 (by kernel_rfl) rfl #[u1,v1] (by rfl) rfl rfl (by (try simp only [List.map_toArray,List.map_cons,List.map_nil]); first | done | rfl) ?_
 refine(nmul_n (HU1.out.below (HF.out _ hb0.out).2.2) (HV1.out.below (HF.out _ hb0.out).2.2) K1.out.1 K1.out.2.1 K1.out.2.2.1).mono ?_
 rintro e V1 ⟨f9,rfl,hD,hB⟩
 refine⟨_,rfl,?_⟩
 have HD1:=Aside0.mk hD
 have hb1:=Aside0.mk (zag hb0.out hB)
 clear hB hb0 hD
 refine hK.out _ _ ((HF.out _ hb1.out).1) (fun hHeld=>?_)
 clear hK K
 refine zaS (a':=?_) ?_ ?_
 rotate_left
 ·
  show Act.put _ (some 14) _=_
  simp only [Act.put,List.setIfInBounds_toArray,List.set_cons_zero,List.set_cons_succ,zaq,zar]
  rfl
 refine one_ (i:=14) (N:=some 19) #[true,true,true,true,true,true,true,true,true,true,true,true,true,true,true,false,false] rfl rfl (zaO HT_.out (by kernel_rfl)) (by decide) (fun K hK=>?_)
 refine za7 Try.func73 (by kernel_rfl) rfl #[u2,v2] (by rfl) rfl rfl (by (try simp only [List.map_toArray,List.map_cons,List.map_nil]); first | done | rfl) ?_
 refine(nmul_n (HU2.out.below (HF.out _ hb1.out).2.2) (HV2.out.below (HF.out _ hb1.out).2.2) K2.out.1 K2.out.2.1 K2.out.2.2.1).mono ?_
 rintro e V2 ⟨f14,rfl,hD,hB⟩
 refine⟨_,rfl,?_⟩
 replace HD1:=Aside0.mk (HD1.out.below hB)
 have HD2:=Aside0.mk hD
 have hb2:=Aside0.mk (zag hb1.out hB)
 clear hB hb1 hD
 refine hK.out _ _ ((HF.out _ hb2.out).1) (fun hHeld=>?_)
 clear hK K
 refine zaS (a':=?_) ?_ ?_
 rotate_left
 ·
  show Act.put _ (some 19) _=_
  simp only [Act.put,List.setIfInBounds_toArray,List.set_cons_zero,List.set_cons_succ,zaq,zar]
  rfl
 refine one_ (i:=15) (N:=some 20) #[true,true,true,true,true,true,true,true,true,true,true,true,true,true,true,true,false] rfl rfl (zaO HT_.out (by kernel_rfl)) (by decide) (fun K hK=>?_)
 refine za7 Try.func25 (by kernel_rfl) rfl #[.bool (X.1 != Y.1),f9,f14] (by rfl) rfl rfl (by (try simp only [List.map_toArray,List.map_cons,List.map_nil]); first | done | rfl) ?_
 refine(ref_make_n HD1.out HD2.out K1.out.2.2.2 K2.out.2.2.2).mono ?_
 rintro e V3 ⟨_,rfl,⟨m1,m2,rfl,R1,R2⟩,hB⟩
 obtain⟨M1,d1,rfl⟩:=Kd.R_slice R1
 obtain⟨M2,d2,rfl⟩:=Kd.R_slice R2
 refine⟨_,rfl,?_⟩
 clear HD1 HD2
 have HR1:=Aside0.mk (Kd.R_lower R1 (HF.out _ hb2.out).2.2.size)
 have HR2:=Aside0.mk (Kd.R_lower R2 (HF.out _ hb2.out).2.2.size)
 have hb3:=Aside0.mk (zag hb2.out hB)
 clear hB hb2 R1 R2
 refine hK.out _ _ ((HF.out _ hb3.out).1) (fun hHeld=>?_)
 clear hK K
 refine zaS (a':=?_) ?_ ?_
 rotate_left
 ·
  show Act.put _ (some 20) _=_
  simp only [Act.put,List.setIfInBounds_toArray,List.set_cons_zero,List.set_cons_succ,zaq,zar]
  rfl
 refine last_ (i:=16) (N:=none) #[true,true,true,true,true,true,true,true,true,true,true,true,true,true,true,true,true] rfl rfl (zaO HT_.out (by kernel_rfl)) (by decide) (fun K hK=>?_)
 obtain⟨⟨x0,x1,x2⟩,y0,y1,y2⟩:=zat (HF.out _ hb3.out).2.1
 refine skip_ (w1:=?_) (by rfl) rfl ?_ ?_
 rotate_left
 ·
  go_simp
  rfl
 refine hK.out _ _ ?_
 clear hK K
 refine done_ (done_of HT_.out (by kernel_rfl)) ?_
 clear hHeld
 go_wp2
 refine bodyPost_ret (results_cell_row rfl _ _ (W.heap.size+1+1) 36 _ (0,0) _ rfl (zaK (HF.out _ hb3.out).2.1 _ _ _) Try.underlying36 rfl (by kernel_rfl)) rfl ?_
 exact⟨_,rfl,⟨_,_,rfl,Kd.R_mono (store3_R3 HR1.out (HF.out _ hb3.out).2.1 _ _ _) (fun _ _=>trivial),Kd.R_mono (store3_R3 HR2.out (HF.out _ hb3.out).2.1 _ _ _) (fun _ _=>trivial)⟩,zaL (HF.out _ hb3.out).2.2 (by omega) _ _ _⟩
end Go.Proofs.Ytehghijlchpeaaa.Nat1
end
section
namespace Go.Proofs.Ytehghijlchpeaaa.Nat1
open Go.RowKit Go.Proofs.YtehghijlchpeaaaW.PrintWords Go.Proofs.YtehghijlchpeaaaW.PrintLast Go.Proofs.YtehghijlchpeaaaW.PrintMore Go.Proofs.Ytehghijlchpeaaa.L Go.Proofs.Ytehghijlchpeaaa.Nt Go.Proofs.Ytehghijlchpeaaa.Ev
set_option linter.unusedVariables false
set_option linter.unusedSimpArgs false
set_option linter.unusedSectionVars false
set_option maxHeartbeats 4000000 in
set_option maxRecDepth 100000 in
theorem refdiv0_n {W:World} {u v:Value} {X Y:QN} (hu:QD W u X) (hv:QD W v Y) (hz:Y.2.1=0) :
  Calls Try.prog 39 #[u,v] W fun e w'=>e=.returned (.tuple #[.agg #[.bool false,.slice none 0 0,.slice none 0 0],.bool false])∧Below W.heap.size W w':=by
 have hu36:=Try.underlying36
 have HZ:=Aside0.mk (fun (w':World) (x:Value) (h:QD w' x Y)=>zero_n h)
 rw [decide_eq_true hz] at HZ
 clear hz
 obtain⟨u1,u2,rfl,hu1,hu2⟩:=hu
 have HU1:=Aside0.mk hu1
 have HU2:=Aside0.mk hu2
 obtain⟨v1,v2,rfl,hv1,hv2⟩:=hv
 have HV1:=Aside0.mk hv1
 have HV2:=Aside0.mk hv2
 clear hu1 hu2 hv1 hv2
 go_enter Try.func39,Try.ntmps39
 go_wp2_with fail
 have hx0:=zae (zae (zbp W (.cells #[.bool X.1,u1,u2] 36)) (.cells #[.bool Y.1,v1,v2] 36)) (.cells #[.bool false,.slice none 0 0,.slice none 0 0] 36)
 have hx1:=zae (zbp (W.alloc (.cells #[.bool X.1,u1,u2] 36)) (.cells #[.bool Y.1,v1,v2] 36)) (.cells #[.bool false,.slice none 0 0,.slice none 0 0] 36)
 rw [show (W.alloc (.cells #[.bool X.1,u1,u2] 36)).heap.size=W.heap.size+1 by simp] at hx1
 have hx2:=zbp ((W.alloc (.cells #[.bool X.1,u1,u2] 36)).alloc (.cells #[.bool Y.1,v1,v2] 36)) (.cells #[.bool false,.slice none 0 0,.slice none 0 0] 36)
 rw [show ((W.alloc (.cells #[.bool X.1,u1,u2] 36)).alloc (.cells #[.bool Y.1,v1,v2] 36)).heap.size=W.heap.size+1+1 by simp] at hx2
 have hbw:Below W.heap.size W (((W.alloc (.cells #[.bool X.1,u1,u2] 36)).alloc (.cells #[.bool Y.1,v1,v2] 36)).alloc (.cells #[.bool false,.slice none 0 0,.slice none 0 0] 36)):=zab (zab (zab (Below.refl _ _) _) _) _
 generalize ((W.alloc (.cells #[.bool X.1,u1,u2] 36)).alloc (.cells #[.bool Y.1,v1,v2] 36)).alloc (.cells #[.bool false,.slice none 0 0,.slice none 0 0] 36)=W0 at hx0 hx1 hx2 hbw ⊢
 have HF:Aside0 (∀ w':World,Below W0.heap.size W0 w'→(w'.cell? ⟨W.heap.size,0,none⟩=some (.bool X.1)∧w'.cell? ⟨W.heap.size,1,none⟩=some (u1)∧w'.cell? ⟨W.heap.size,2,none⟩=some (u2)∧w'.cell? ⟨W.heap.size+1,0,none⟩=some (.bool Y.1)∧w'.cell? ⟨W.heap.size+1,1,none⟩=some (v1)∧w'.cell? ⟨W.heap.size+1,2,none⟩=some (v2))∧w'.heap[W.heap.size+1+1]? = some (.cells #[.bool false,.slice none 0 0,.slice none 0 0] 36 (0,0))∧Below W.heap.size W w'):=⟨fun w' hb=>⟨⟨(zai (zal hx0 hb) 0).trans rfl,(zai (zal hx0 hb) 1).trans rfl,(zai (zal hx0 hb) 2).trans rfl,(zai (zal hx1 hb) 0).trans rfl,(zai (zal hx1 hb) 1).trans rfl,(zai (zal hx1 hb) 2).trans rfl⟩,zal hx2 hb,zag hbw hb⟩⟩
 clear hbw hx0 hx1 hx2
 obtain⟨⟨c00,c01,c02,c10,c11,c12⟩,hz,-⟩:=HF.out _ (Below.refl _ _)
 go_wp2_with fail
 have hb0:=Aside0.mk (Below.refl W0.heap.size W0)
 clear hz c00 c01 c02 c10 c11 c12
 refine(HZ.out W0 _ ⟨_,_,rfl,(HV1.out.below (HF.out _ hb0.out).2.2),(HV2.out.below (HF.out _ hb0.out).2.2)⟩).mono ?_
 rintro e V1 ⟨rfl,hB⟩
 have hb1:=Aside0.mk (zag hb0.out hB)
 clear hB hb0
 obtain⟨⟨c00,c01,c02,c10,c11,c12⟩,hz,-⟩:=HF.out _ hb1.out
 obtain⟨⟨x0,x1,x2⟩,y0,y1,y2⟩:=zat hz
 go_wp2
 refine bodyPost_ret (results_ct rfl _ _ (W.heap.size+1+1) 36 _ (0,0) _ rfl (zaK (HF.out _ hb1.out).2.1 _ _ _) Try.underlying36 rfl (by kernel_rfl)) rfl ?_
 exact⟨rfl,zaL (HF.out _ hb1.out).2.2 (by omega) _ _ _⟩
set_option maxHeartbeats 4000000 in
set_option maxRecDepth 100000 in
theorem refdivY_n {W:World} {u v:Value} {X Y:QN} (hu:QD W u X) (hv:QD W v Y) (hz:Y.2.1≠0) (kX:lim 200 X) (kY:lim 200 Y) :
  Calls Try.prog 39 #[u,v] W fun e w'=>∃ A1 c1 A2 c2,e=.returned (.tuple #[.agg #[.bool (divQ X Y).1,.slice A1 (dg 10000 (divQ X Y).2.1).length c1,.slice A2 (dg 10000 (divQ X Y).2.2).length c2],.bool true])∧QT w' W.heap.size (.agg #[.bool (divQ X Y).1,.slice A1 (dg 10000 (divQ X Y).2.1).length c1,.slice A2 (dg 10000 (divQ X Y).2.2).length c2]) (divQ X Y)∧Below W.heap.size W w':=by
 have hu36:=Try.underlying36
 have HZ:=Aside0.mk (fun (w':World) (x:Value) (h:QD w' x Y)=>zero_n h)
 rw [decide_eq_false hz] at HZ
 clear hz
 have KX:=Aside0.mk kX
 have KY:=Aside0.mk (show lim 200 ((Y.1,Y.2.2,Y.2.1):QN) from ⟨kY.2,kY.1⟩)
 clear kX kY
 obtain⟨u1,u2,rfl,hu1,hu2⟩:=hu
 have HU1:=Aside0.mk hu1
 have HU2:=Aside0.mk hu2
 obtain⟨v1,v2,rfl,hv1,hv2⟩:=hv
 have HV1:=Aside0.mk hv1
 have HV2:=Aside0.mk hv2
 clear hu1 hu2 hv1 hv2
 have ⟨G1,h1,e1,_,_⟩:=HV1.out
 subst e1
 have ⟨G2,h2,e2,_,_⟩:=HV2.out
 subst e2
 go_enter Try.func39,Try.ntmps39
 go_wp2_with fail
 have hx0:=zae (zae (zbp W (.cells #[.bool X.1,u1,u2] 36)) (.cells #[.bool Y.1,.slice G1 (dg 10000 Y.2.1).length h1,.slice G2 (dg 10000 Y.2.2).length h2] 36)) (.cells #[.bool false,.slice none 0 0,.slice none 0 0] 36)
 have hx1:=zae (zbp (W.alloc (.cells #[.bool X.1,u1,u2] 36)) (.cells #[.bool Y.1,.slice G1 (dg 10000 Y.2.1).length h1,.slice G2 (dg 10000 Y.2.2).length h2] 36)) (.cells #[.bool false,.slice none 0 0,.slice none 0 0] 36)
 rw [show (W.alloc (.cells #[.bool X.1,u1,u2] 36)).heap.size=W.heap.size+1 by simp] at hx1
 have hx2:=zbp ((W.alloc (.cells #[.bool X.1,u1,u2] 36)).alloc (.cells #[.bool Y.1,.slice G1 (dg 10000 Y.2.1).length h1,.slice G2 (dg 10000 Y.2.2).length h2] 36)) (.cells #[.bool false,.slice none 0 0,.slice none 0 0] 36)
 rw [show ((W.alloc (.cells #[.bool X.1,u1,u2] 36)).alloc (.cells #[.bool Y.1,.slice G1 (dg 10000 Y.2.1).length h1,.slice G2 (dg 10000 Y.2.2).length h2] 36)).heap.size=W.heap.size+1+1 by simp] at hx2
 have hbw:Below W.heap.size W (((W.alloc (.cells #[.bool X.1,u1,u2] 36)).alloc (.cells #[.bool Y.1,.slice G1 (dg 10000 Y.2.1).length h1,.slice G2 (dg 10000 Y.2.2).length h2] 36)).alloc (.cells #[.bool false,.slice none 0 0,.slice none 0 0] 36)):=zab (zab (zab (Below.refl _ _) _) _) _
 generalize ((W.alloc (.cells #[.bool X.1,u1,u2] 36)).alloc (.cells #[.bool Y.1,.slice G1 (dg 10000 Y.2.1).length h1,.slice G2 (dg 10000 Y.2.2).length h2] 36)).alloc (.cells #[.bool false,.slice none 0 0,.slice none 0 0] 36)=W0 at hx0 hx1 hx2 hbw ⊢
 have HF:Aside0 (∀ w':World,Below W0.heap.size W0 w'→(w'.cell? ⟨W.heap.size,0,none⟩=some (.bool X.1)∧w'.cell? ⟨W.heap.size,1,none⟩=some (u1)∧w'.cell? ⟨W.heap.size,2,none⟩=some (u2)∧w'.cell? ⟨W.heap.size+1,0,none⟩=some (.bool Y.1)∧w'.cell? ⟨W.heap.size+1,1,none⟩=some (.slice G1 (dg 10000 Y.2.1).length h1)∧w'.cell? ⟨W.heap.size+1,2,none⟩=some (.slice G2 (dg 10000 Y.2.2).length h2))∧w'.heap[W.heap.size+1+1]? = some (.cells #[.bool false,.slice none 0 0,.slice none 0 0] 36 (0,0))∧Below W.heap.size W w'):=⟨fun w' hb=>⟨⟨(zai (zal hx0 hb) 0).trans rfl,(zai (zal hx0 hb) 1).trans rfl,(zai (zal hx0 hb) 2).trans rfl,(zai (zal hx1 hb) 0).trans rfl,(zai (zal hx1 hb) 1).trans rfl,(zai (zal hx1 hb) 2).trans rfl⟩,zal hx2 hb,zag hbw hb⟩⟩
 clear hbw hx0 hx1 hx2
 obtain⟨⟨c00,c01,c02,c10,c11,c12⟩,hz,-⟩:=HF.out _ (Below.refl _ _)
 go_wp2_with fail
 have hb0:=Aside0.mk (Below.refl W0.heap.size W0)
 clear hz c00 c01 c02 c10 c11 c12
 refine(HZ.out W0 _ ⟨_,_,rfl,(HV1.out.below (HF.out _ hb0.out).2.2),(HV2.out.below (HF.out _ hb0.out).2.2)⟩).mono ?_
 rintro e V1 ⟨rfl,hB⟩
 have hb1:=Aside0.mk (zag hb0.out hB)
 clear hB hb0
 obtain⟨⟨c00,c01,c02,c10,c11,c12⟩,hz,-⟩:=HF.out _ hb1.out
 go_wp2_with fail
 clear hz c00 c01 c02 c10 c11 c12
 refine(refmul_n (Y:=(Y.1,Y.2.2,Y.2.1)) (show QD V1 _ X from ⟨_,_,rfl,(HU1.out.below (HF.out _ hb1.out).2.2),(HU2.out.below (HF.out _ hb1.out).2.2)⟩) ⟨_,_,rfl,(HV2.out.below (HF.out _ hb1.out).2.2),(HV1.out.below (HF.out _ hb1.out).2.2)⟩ KX.out KY.out).mono ?_
 rintro e V2 ⟨_,rfl,⟨m1,m2,rfl,R1,R2⟩,hB⟩
 obtain⟨M1,d1,rfl⟩:=Kd.R_slice R1
 obtain⟨M2,d2,rfl⟩:=Kd.R_slice R2
 have HR1:=Aside0.mk (Kd.R_lower R1 (HF.out _ hb1.out).2.2.size)
 have HR2:=Aside0.mk (Kd.R_lower R2 (HF.out _ hb1.out).2.2.size)
 have hb2:=Aside0.mk (zag hb1.out hB)
 clear hB hb1 R1 R2
 obtain⟨⟨c00,c01,c02,c10,c11,c12⟩,hz,-⟩:=HF.out _ hb2.out
 obtain⟨⟨x0,x1,x2⟩,y0,y1,y2⟩:=zat hz
 go_wp2
 refine bodyPost_ret (results_ct rfl _ _ (W.heap.size+1+1) 36 _ (0,0) _ rfl (zaK (HF.out _ hb2.out).2.1 _ _ _) Try.underlying36 rfl (by kernel_rfl)) rfl ?_
 exact⟨_,_,_,_,rfl,⟨_,_,rfl,Kd.R_mono (store3_R3 HR1.out (HF.out _ hb2.out).2.1 _ _ _) (fun _ _=>trivial),Kd.R_mono (store3_R3 HR2.out (HF.out _ hb2.out).2.1 _ _ _) (fun _ _=>trivial)⟩,zaL (HF.out _ hb2.out).2.2 (by omega) _ _ _⟩
end Go.Proofs.Ytehghijlchpeaaa.Nat1
end
section
namespace Go.Proofs.Ytehghijlchpeaaa.Nat1
open Go.RowKit Go.Proofs.YtehghijlchpeaaaW.PrintWords Go.Proofs.YtehghijlchpeaaaW.PrintLast Go.Proofs.YtehghijlchpeaaaW.PrintMore Go.Proofs.Ytehghijlchpeaaa.L Go.Proofs.Ytehghijlchpeaaa.Nt Go.Proofs.Ytehghijlchpeaaa.Ev
set_option linter.unusedVariables false
set_option linter.unusedSimpArgs false
set_option linter.unusedSectionVars false
def ratQuotients.T3:Bool×List (List Nat×List Nat):=(true,[([],[]),([0],[0]),([],[]),([2,1],[2]),([1,3,3],[1,3]),([4],[4]),([5],[5]),([5],[5]),([],[]),([8,6,4,0,1,2,3,4,5,6,8],[6,8]),([7,9,0,1,2,3,4,5,6,7,8,9],[7])])
def ratQuotients.B3:List Nat:=[0,1,0,7,15,31,63,63,0,383,1023]
theorem ratQuotients.tab3:rtab .any (opsOf Try.f7 3)=ratQuotients.T3:=by kernel_rfl
theorem ratQuotients.bits3:waitsOk ratQuotients.T3.2 ratQuotients.B3=true:=by kernel_rfl
def ratQuotients.T4:Bool×List (List Nat×List Nat):=(true,[([],[]),([0],[0]),([],[]),([2,1],[2]),([1,3,3],[1,3]),([4],[4]),([5],[5]),([5],[5]),([],[]),([8,6,4,0,1,2,3,4,5,6,8],[6,8]),([7,9,0,1,2,3,4,5,6,7,8,9],[7])])
def ratQuotients.B4:List Nat:=[0,1,0,7,15,31,63,63,0,383,1023]
theorem ratQuotients.tab4:rtab .any (opsOf Try.f7 4)=ratQuotients.T4:=by kernel_rfl
theorem ratQuotients.bits4:waitsOk ratQuotients.T4.2 ratQuotients.B4=true:=by kernel_rfl
theorem div0_n {W:World} {u v:Value} {X Y:QN} (hu:NR W u X) (hv:NR W v Y) (hz:Y.2.1=0):Calls Try.prog 38 #[u,v] W fun e w'=>∃ A1 c1 A2 c2,e=.returned (.tuple #[.agg #[.bool false,.slice A1 0 c1,.slice A2 0 c2],.int .i64 17])∧Below W.heap.size W w':=by
 have:=div_n hu hv
 rw [divP,if_pos hz] at this
 refine this.mono ?_
 rintro e w' ⟨v1,v2,rfl,R1,R2,hb⟩
 obtain⟨A1,c1,rfl⟩:=Kd.R_slice R1
 obtain⟨A2,c2,rfl⟩:=Kd.R_slice R2
 exact⟨A1,c1,A2,c2,rfl,hb⟩
set_option maxHeartbeats 8000000 in
set_option maxRecDepth 100000 in
theorem ratQuotients_q (n1:Bool) (Aa1:Option Addr) (ca1:Nat) (p1:List Int) (Ab1:Option Addr) (cb1:Nat) (q1:List Int) (n2:Bool) (Aa2:Option Addr) (ca2:Nat) (p2:List Int) (Ab2:Option Addr) (cb2:Nat) (q2:List Int) (w:World) (hr_p1:Kd.C (Kd.int .u32) w Aa1 p1.length p1) (hc_p1:p1.length≤ca1) (ho_p1:ok B32 p1) (hr_q1:Kd.C (Kd.int .u32) w Ab1 q1.length q1) (hc_q1:q1.length≤cb1) (ho_q1:ok B32 q1) (hr_p2:Kd.C (Kd.int .u32) w Aa2 p2.length p2) (hc_p2:p2.length≤ca2) (ho_p2:ok B32 p2) (hr_q2:Kd.C (Kd.int .u32) w Ab2 q2.length q2) (hc_q2:q2.length≤cb2) (ho_q2:ok B32 q2) :
  Calls Try.prog 7 #[.agg #[.bool n1,.slice Aa1 p1.length ca1,.slice Ab1 q1.length cb1],.agg #[.bool n2,.slice Aa2 p2.length ca2,.slice Ab2 q2.length cb2]] w fun e w'=>e=.returned (.bool true)∧Below w.heap.size w w':=by
 have hu25:=Try.underlying25
 have HF0:=Aside0.mk (fun (g:Nat) (t:TypeId) (W:World) hg (hb:Below w.heap.size w W)=>few_q [(Aa1,ca1,p1),(Ab1,cb1,q1),(Aa2,ca2,p2),(Ab2,cb2,q2)] g t W hg (by
  intro x hx
  simp only [List.mem_cons,List.not_mem_nil,or_false] at hx
  rcases hx with rfl | rfl | rfl | rfl
  ·
   exact⟨Kd.C_below hr_p1 hb,hc_p1⟩
  ·
   exact⟨Kd.C_below hr_q1 hb,hc_q1⟩
  ·
   exact⟨Kd.C_below hr_p2 hb,hc_p2⟩
  ·
   exact⟨Kd.C_below hr_q2 hb,hc_q2⟩
  ) (by simp))
 cases hfb:fewB [p1,q1,p2,q2] with
 | false =>
  simp only [List.map_cons,List.map_nil,hfb] at HF0
  clear hfb hr_p1 ho_p1 hr_q1 ho_q1 hr_p2 ho_p2 hr_q2 ho_q2
  go_enter Try.func7,Try.ntmps7
  go_wp2_with fail
  have hg:=zbp ((w.alloc (.cells #[.bool n1,.slice Aa1 p1.length ca1,.slice Ab1 q1.length cb1] 25)).alloc (.cells #[.bool n2,.slice Aa2 p2.length ca2,.slice Ab2 q2.length cb2] 25)) (.cells #[.slice Aa1 p1.length ca1,.slice Ab1 q1.length cb1,.slice Aa2 p2.length ca2,.slice Ab2 q2.length cb2] 23)
  rw [show ((w.alloc (.cells #[.bool n1,.slice Aa1 p1.length ca1,.slice Ab1 q1.length cb1] 25)).alloc (.cells #[.bool n2,.slice Aa2 p2.length ca2,.slice Ab2 q2.length cb2] 25)).heap.size=w.heap.size+1+1 by simp] at hg
  have hbw:Below w.heap.size w (((w.alloc (.cells #[.bool n1,.slice Aa1 p1.length ca1,.slice Ab1 q1.length cb1] 25)).alloc (.cells #[.bool n2,.slice Aa2 p2.length ca2,.slice Ab2 q2.length cb2] 25)).alloc (.cells #[.slice Aa1 p1.length ca1,.slice Ab1 q1.length cb1,.slice Aa2 p2.length ca2,.slice Ab2 q2.length cb2] 23)):=zab (zab (zab (Below.refl _ _) _) _) _
  generalize ((w.alloc (.cells #[.bool n1,.slice Aa1 p1.length ca1,.slice Ab1 q1.length cb1] 25)).alloc (.cells #[.bool n2,.slice Aa2 p2.length ca2,.slice Ab2 q2.length cb2] 25)).alloc (.cells #[.slice Aa1 p1.length ca1,.slice Ab1 q1.length cb1,.slice Aa2 p2.length ca2,.slice Ab2 q2.length cb2] 23)=W1 at hg hbw ⊢
  refine(HF0.out _ _ W1 hg hbw).mono ?_
  rintro e w2 ⟨rfl,hd⟩
  obtain⟨m,rfl⟩:=hd.out
  have HB:=Aside0.mk (zaa hbw m)
  clear hg hbw hd
  go_wp2_with fail
  refine(known_q _).mono ?_
  rintro e w3 ⟨rfl,hB⟩
  have HB2:=Aside0.mk (zag HB.out hB)
  clear hB
  go_wp2
  go_ret
  exact⟨rfl,HB2.out⟩
 | true =>
  have hl:p1.length≤60∧q1.length≤60∧p2.length≤60∧q2.length≤60:=by simpa [fewB] using hfb
  have HP1:=Aside0.mk (show ∀ W:World,Below w.heap.size w W→NR W (.agg #[.bool n1,.slice Aa1 p1.length ca1,.slice Ab1 q1.length cb1]) (nrm n1 (val B32 p1) (val B32 q1)) from fun W hb=>⟨_,_,_,_,_,_,_,rfl,⟨Kd.C_below hr_p1 hb,hc_p1,okS60 ho_p1 hl.1⟩,⟨Kd.C_below hr_q1 hb,hc_q1,okS60 ho_q1 hl.2.1⟩,rfl⟩)
  have HL1:=Aside0.mk (lim_raw (n:=n1) ho_p1 ho_q1 hl.1 hl.2.1)
  have HD1:=Aside0.mk (nrm_red n1 (val B32 p1) (val B32 q1))
  have HP2:=Aside0.mk (show ∀ W:World,Below w.heap.size w W→NR W (.agg #[.bool n2,.slice Aa2 p2.length ca2,.slice Ab2 q2.length cb2]) (nrm n2 (val B32 p2) (val B32 q2)) from fun W hb=>⟨_,_,_,_,_,_,_,rfl,⟨Kd.C_below hr_p2 hb,hc_p2,okS60 ho_p2 hl.2.2.1⟩,⟨Kd.C_below hr_q2 hb,hc_q2,okS60 ho_q2 hl.2.2.2⟩,rfl⟩)
  have HL2:=Aside0.mk (lim_raw (n:=n2) ho_p2 ho_q2 hl.2.2.1 hl.2.2.2)
  have HD2:=Aside0.mk (nrm_red n2 (val B32 p2) (val B32 q2))
  generalize nrm n1 (val B32 p1) (val B32 q1)=X1 at HP1 HL1 HD1
  generalize nrm n2 (val B32 p2) (val B32 q2)=X2 at HP2 HL2 HD2
  have N2:=Aside0.mk (And.intro (lim_up HL1.out (show 60≤200 by decide)) (lim_up HL2.out (show 60≤200 by decide)))
  by_cases hz:X2.2.1=0
  ·
   have HZ:=Aside0.mk hz
   clear hz
   simp only [List.map_cons,List.map_nil,hfb] at HF0
   clear hfb hl hr_p1 ho_p1 hr_q1 ho_q1 hr_p2 ho_p2 hr_q2 ho_q2
   go_enter Try.func7,Try.ntmps7
   go_wp2_with fail
   have hg:=zbp ((w.alloc (.cells #[.bool n1,.slice Aa1 p1.length ca1,.slice Ab1 q1.length cb1] 25)).alloc (.cells #[.bool n2,.slice Aa2 p2.length ca2,.slice Ab2 q2.length cb2] 25)) (.cells #[.slice Aa1 p1.length ca1,.slice Ab1 q1.length cb1,.slice Aa2 p2.length ca2,.slice Ab2 q2.length cb2] 23)
   rw [show ((w.alloc (.cells #[.bool n1,.slice Aa1 p1.length ca1,.slice Ab1 q1.length cb1] 25)).alloc (.cells #[.bool n2,.slice Aa2 p2.length ca2,.slice Ab2 q2.length cb2] 25)).heap.size=w.heap.size+1+1 by simp] at hg
   have hx1:=zae (zae (zbp w (.cells #[.bool n1,.slice Aa1 p1.length ca1,.slice Ab1 q1.length cb1] 25)) (.cells #[.bool n2,.slice Aa2 p2.length ca2,.slice Ab2 q2.length cb2] 25)) (.cells #[.slice Aa1 p1.length ca1,.slice Ab1 q1.length cb1,.slice Aa2 p2.length ca2,.slice Ab2 q2.length cb2] 23)
   have hx2:=zae (zbp (w.alloc (.cells #[.bool n1,.slice Aa1 p1.length ca1,.slice Ab1 q1.length cb1] 25)) (.cells #[.bool n2,.slice Aa2 p2.length ca2,.slice Ab2 q2.length cb2] 25)) (.cells #[.slice Aa1 p1.length ca1,.slice Ab1 q1.length cb1,.slice Aa2 p2.length ca2,.slice Ab2 q2.length cb2] 23)
   rw [show (w.alloc (.cells #[.bool n1,.slice Aa1 p1.length ca1,.slice Ab1 q1.length cb1] 25)).heap.size=w.heap.size+1 by simp] at hx2
   have hbw:Below w.heap.size w (((w.alloc (.cells #[.bool n1,.slice Aa1 p1.length ca1,.slice Ab1 q1.length cb1] 25)).alloc (.cells #[.bool n2,.slice Aa2 p2.length ca2,.slice Ab2 q2.length cb2] 25)).alloc (.cells #[.slice Aa1 p1.length ca1,.slice Ab1 q1.length cb1,.slice Aa2 p2.length ca2,.slice Ab2 q2.length cb2] 23)):=zab (zab (zab (Below.refl _ _) _) _) _
   generalize ((w.alloc (.cells #[.bool n1,.slice Aa1 p1.length ca1,.slice Ab1 q1.length cb1] 25)).alloc (.cells #[.bool n2,.slice Aa2 p2.length ca2,.slice Ab2 q2.length cb2] 25)).alloc (.cells #[.slice Aa1 p1.length ca1,.slice Ab1 q1.length cb1,.slice Aa2 p2.length ca2,.slice Ab2 q2.length cb2] 23)=W1 at hg hbw hx1 hx2 ⊢
   refine(HF0.out _ _ W1 hg hbw).mono ?_
   rintro e w2 ⟨rfl,hd⟩
   obtain⟨m,rfl⟩:=hd.out
   have HB2:=Aside0.mk (zaa hbw m)
   have HX1:=Aside0.mk (zaf hx1 m)
   obtain⟨⟨x10,x11,x12⟩,y10,y11,y12⟩:=zat HX1.out
   have HX2:=Aside0.mk (zaf hx2 m)
   obtain⟨⟨x20,x21,x22⟩,y20,y21,y22⟩:=zat HX2.out
   clear hg hbw hd HF0 hx1 hx2
   go_wp2_with fail
   generalize W1.drewN m=W2 at HB2 HX1 HX2 ⊢
   clear x10 x11 x12 y10 y11 y12
   clear x20 x21 x22 y20 y21 y22
   have HF:Aside0 (∀ w':World,Below W2.heap.size W2 w'→(w'.cell? ⟨w.heap.size,0,none⟩=some (.bool n1)∧w'.cell? ⟨w.heap.size,1,none⟩=some (.slice Aa1 p1.length ca1)∧w'.cell? ⟨w.heap.size,2,none⟩=some (.slice Ab1 q1.length cb1)∧w'.cell? ⟨w.heap.size+1,0,none⟩=some (.bool n2)∧w'.cell? ⟨w.heap.size+1,1,none⟩=some (.slice Aa2 p2.length ca2)∧w'.cell? ⟨w.heap.size+1,2,none⟩=some (.slice Ab2 q2.length cb2))∧Below w.heap.size w w'):=⟨fun W hb=>⟨⟨(zai (zal HX1.out hb) 0).trans rfl,(zai (zal HX1.out hb) 1).trans rfl,(zai (zal HX1.out hb) 2).trans rfl,(zai (zal HX2.out hb) 0).trans rfl,(zai (zal HX2.out hb) 1).trans rfl,(zai (zal HX2.out hb) 2).trans rfl⟩,zag HB2.out hb⟩⟩
   refine start_ (n:=11) (S:=fun w'=>(w'.cell? ⟨w.heap.size,0,none⟩=some (.bool n1)∧w'.cell? ⟨w.heap.size,1,none⟩=some (.slice Aa1 p1.length ca1)∧w'.cell? ⟨w.heap.size,2,none⟩=some (.slice Ab1 q1.length cb1)∧w'.cell? ⟨w.heap.size+1,0,none⟩=some (.bool n2)∧w'.cell? ⟨w.heap.size+1,1,none⟩=some (.slice Aa2 p2.length ca2)∧w'.cell? ⟨w.heap.size+1,2,none⟩=some (.slice Ab2 q2.length cb2))) (ds:=[9]) #[false,false,false,false,false,false,false,false,false,false,false] (by kernel_rfl) rfl rfl ((HF.out _ (zac (Below.refl _ _))).1) (fun hHeld=>?_)
   have hb0:=Aside0.mk (show Below W2.heap.size W2 W2.drew from zac (Below.refl _ _))
   generalize W2.drew=V0 at hb0 hHeld ⊢
   refine with_tabW ratQuotients.tab3 ratQuotients.bits3 (fun HT_ HW_=>?_)
   refine take_ (i:=0) (N:=some 22) (v:=?_) (a':=?_) #[true,false,false,false,false,false,false,false,false,false,false] rfl rfl (zaQ HT_.out HW_.out (by kernel_rfl)) (fun _ _ _ h=>h) (Or.inl ⟨by rfl,?_⟩) hHeld ?_ ?_
   rotate_left
   ·
    intro w' s0
    go_simp
    with_reducible rfl
   rotate_left
   ·
    simp only [Act.put,List.setIfInBounds_toArray,List.set_cons_zero,List.set_cons_succ,zaq,zar]
    rfl
   refine take_ (i:=2) (N:=some 24) (v:=?_) (a':=?_) #[true,false,true,false,false,false,false,false,false,false,false] rfl rfl (zaQ HT_.out HW_.out (by kernel_rfl)) (fun _ _ _ h=>h) (Or.inl ⟨by rfl,?_⟩) hHeld ?_ ?_
   rotate_left
   ·
    intro w' s0
    go_simp
    with_reducible rfl
   rotate_left
   ·
    simp only [Act.put,List.setIfInBounds_toArray,List.set_cons_zero,List.set_cons_succ,zaq,zar]
    rfl
   refine join_ (σ:=Value×Value×Option Addr×Nat×Option Addr×Nat×Nat) 2 #[true,true,true,true,true,true,true,true,true,false,false] (fun s=>[(23,s.1),(25,s.2.1),(26,.tuple #[.agg #[.bool false,.slice s.2.2.1 0 s.2.2.2.1,.slice s.2.2.2.2.1 0 s.2.2.2.2.2.1],.int .i64 17]),(21,.tuple #[.agg #[.bool false,.slice s.2.2.1 0 s.2.2.2.1,.slice s.2.2.2.2.1 0 s.2.2.2.2.2.1],.int .i64 17]),(27,.agg #[.bool false,.slice s.2.2.1 0 s.2.2.2.1,.slice s.2.2.2.2.1 0 s.2.2.2.2.2.1]),(28,.int .i64 17),(5,.pointer (some ⟨s.2.2.2.2.2.2,0,none⟩))]) (fun s w'=>(w'.cell? ⟨w.heap.size,0,none⟩=some (.bool n1)∧w'.cell? ⟨w.heap.size,1,none⟩=some (.slice Aa1 p1.length ca1)∧w'.cell? ⟨w.heap.size,2,none⟩=some (.slice Ab1 q1.length cb1)∧w'.cell? ⟨w.heap.size+1,0,none⟩=some (.bool n2)∧w'.cell? ⟨w.heap.size+1,1,none⟩=some (.slice Aa2 p2.length ca2)∧w'.cell? ⟨w.heap.size+1,2,none⟩=some (.slice Ab2 q2.length cb2))∧(NR w' s.1 X1)∧(NR w' s.2.1 X2)∧(w'.heap[s.2.2.2.2.2.2]? = some (.cells #[.bool false,.slice none 0 0,.slice none 0 0] 25 (0,0))∧W2.heap.size≤s.2.2.2.2.2.2)∧Below W2.heap.size W2 w') ?_ ?_
   rotate_left
   ·
    intro hJ1_3_4_8
    refine join_ (σ:=Value×Value×Option Addr×Nat×Option Addr×Nat) 3 #[true,true,true,true,true,true,true,true,false,false,false] (fun s=>[(23,s.1),(25,s.2.1),(26,.tuple #[.agg #[.bool false,.slice s.2.2.1 0 s.2.2.2.1,.slice s.2.2.2.2.1 0 s.2.2.2.2.2],.int .i64 17]),(21,.tuple #[.agg #[.bool false,.slice s.2.2.1 0 s.2.2.2.1,.slice s.2.2.2.2.1 0 s.2.2.2.2.2],.int .i64 17]),(27,.agg #[.bool false,.slice s.2.2.1 0 s.2.2.2.1,.slice s.2.2.2.2.1 0 s.2.2.2.2.2]),(28,.int .i64 17)]) (fun s w'=>(w'.cell? ⟨w.heap.size,0,none⟩=some (.bool n1)∧w'.cell? ⟨w.heap.size,1,none⟩=some (.slice Aa1 p1.length ca1)∧w'.cell? ⟨w.heap.size,2,none⟩=some (.slice Ab1 q1.length cb1)∧w'.cell? ⟨w.heap.size+1,0,none⟩=some (.bool n2)∧w'.cell? ⟨w.heap.size+1,1,none⟩=some (.slice Aa2 p2.length ca2)∧w'.cell? ⟨w.heap.size+1,2,none⟩=some (.slice Ab2 q2.length cb2))∧(NR w' s.1 X1)∧(NR w' s.2.1 X2)∧Below W2.heap.size W2 w') ?_ ?_
    rotate_left
    ·
     intro hJ1_3_4
     refine join_ (σ:=Value×Value×Nat) 6 #[true,true,true,true,false,false,false,false,true,false,false] (fun s=>[(23,s.1),(25,s.2.1),(5,.pointer (some ⟨s.2.2,0,none⟩))]) (fun s w'=>(w'.cell? ⟨w.heap.size,0,none⟩=some (.bool n1)∧w'.cell? ⟨w.heap.size,1,none⟩=some (.slice Aa1 p1.length ca1)∧w'.cell? ⟨w.heap.size,2,none⟩=some (.slice Ab1 q1.length cb1)∧w'.cell? ⟨w.heap.size+1,0,none⟩=some (.bool n2)∧w'.cell? ⟨w.heap.size+1,1,none⟩=some (.slice Aa2 p2.length ca2)∧w'.cell? ⟨w.heap.size+1,2,none⟩=some (.slice Ab2 q2.length cb2))∧(NR w' s.1 X1)∧(NR w' s.2.1 X2)∧(w'.heap[s.2.2]? = some (.cells #[.bool false,.slice none 0 0,.slice none 0 0] 25 (0,0))∧W2.heap.size≤s.2.2)∧Below W2.heap.size W2 w') ?_ ?_
     rotate_left
     ·
      intro hJ1_3_8
      refine join_ (σ:=Value×Value) 7 #[true,true,true,true,false,false,false,false,false,false,false] (fun s=>[(23,s.1),(25,s.2)]) (fun s w'=>(w'.cell? ⟨w.heap.size,0,none⟩=some (.bool n1)∧w'.cell? ⟨w.heap.size,1,none⟩=some (.slice Aa1 p1.length ca1)∧w'.cell? ⟨w.heap.size,2,none⟩=some (.slice Ab1 q1.length cb1)∧w'.cell? ⟨w.heap.size+1,0,none⟩=some (.bool n2)∧w'.cell? ⟨w.heap.size+1,1,none⟩=some (.slice Aa2 p2.length ca2)∧w'.cell? ⟨w.heap.size+1,2,none⟩=some (.slice Ab2 q2.length cb2))∧(NR w' s.1 X1)∧(NR w' s.2 X2)∧Below W2.heap.size W2 w') ?_ ?_
      rotate_left
      ·
       intro hJ1_3
       refine join_ (σ:=Value×Nat) 7 #[true,true,true,false,false,false,false,false,true,false,false] (fun s=>[(23,s.1),(5,.pointer (some ⟨s.2,0,none⟩))]) (fun s w'=>(w'.cell? ⟨w.heap.size,0,none⟩=some (.bool n1)∧w'.cell? ⟨w.heap.size,1,none⟩=some (.slice Aa1 p1.length ca1)∧w'.cell? ⟨w.heap.size,2,none⟩=some (.slice Ab1 q1.length cb1)∧w'.cell? ⟨w.heap.size+1,0,none⟩=some (.bool n2)∧w'.cell? ⟨w.heap.size+1,1,none⟩=some (.slice Aa2 p2.length ca2)∧w'.cell? ⟨w.heap.size+1,2,none⟩=some (.slice Ab2 q2.length cb2))∧(NR w' s.1 X1)∧(w'.heap[s.2]? = some (.cells #[.bool false,.slice none 0 0,.slice none 0 0] 25 (0,0))∧W2.heap.size≤s.2)∧Below W2.heap.size W2 w') ?_ ?_
       rotate_left
       ·
        intro hJ1_8
        refine join_ (σ:=Value) 8 #[true,true,true,false,false,false,false,false,false,false,false] (fun s=>[(23,s)]) (fun s w'=>(w'.cell? ⟨w.heap.size,0,none⟩=some (.bool n1)∧w'.cell? ⟨w.heap.size,1,none⟩=some (.slice Aa1 p1.length ca1)∧w'.cell? ⟨w.heap.size,2,none⟩=some (.slice Ab1 q1.length cb1)∧w'.cell? ⟨w.heap.size+1,0,none⟩=some (.bool n2)∧w'.cell? ⟨w.heap.size+1,1,none⟩=some (.slice Aa2 p2.length ca2)∧w'.cell? ⟨w.heap.size+1,2,none⟩=some (.slice Ab2 q2.length cb2))∧(NR w' s X1)∧Below W2.heap.size W2 w') ?_ ?_
        rotate_left
        ·
         intro hJ1
         refine join_ (σ:=Nat) 8 #[true,false,true,false,false,false,false,false,true,false,false] (fun s=>[(5,.pointer (some ⟨s,0,none⟩))]) (fun s w'=>(w'.cell? ⟨w.heap.size,0,none⟩=some (.bool n1)∧w'.cell? ⟨w.heap.size,1,none⟩=some (.slice Aa1 p1.length ca1)∧w'.cell? ⟨w.heap.size,2,none⟩=some (.slice Ab1 q1.length cb1)∧w'.cell? ⟨w.heap.size+1,0,none⟩=some (.bool n2)∧w'.cell? ⟨w.heap.size+1,1,none⟩=some (.slice Aa2 p2.length ca2)∧w'.cell? ⟨w.heap.size+1,2,none⟩=some (.slice Ab2 q2.length cb2))∧(w'.heap[s]? = some (.cells #[.bool false,.slice none 0 0,.slice none 0 0] 25 (0,0))∧W2.heap.size≤s)∧Below W2.heap.size W2 w') ?_ ?_
         rotate_left
         ·
          intro hJ8
          refine two_ (i:=1) (j:=8) (Ni:=some 23) (Nj:=some 5) #[true,true,true,false,false,false,false,false,false,false,false] #[true,false,true,false,false,false,false,false,true,false,false] rfl rfl rfl rfl (two_of HT_.out (by kernel_rfl)) (by decide) (by decide) (fun K hK=>?_) (fun K hK=>?_)
          ·
           skip
           refine za7 Try.func17 (by kernel_rfl) rfl #[.agg #[.bool n1,.slice Aa1 p1.length ca1,.slice Ab1 q1.length cb1]] (by rfl) rfl rfl (by (try simp only [List.map_toArray,List.map_cons,List.map_nil]); first | done | rfl) ?_
           refine(ownR_n (HP1.out V0 (HF.out _ hb0.out).2)).mono ?_
           rintro e Vn ⟨o1,rfl,new,hB⟩
           refine⟨_,rfl,?_⟩
           have hbn:=Aside0.mk (zag hb0.out hB)
           refine hK.out _ _ ((HF.out _ hbn.out).1) (fun hHeld=>?_)
           clear hK K
           refine zaS (a':=?_) ?_ ?_
           rotate_left
           ·
            show Act.put _ (some 23) _=_
            simp only [Act.put,List.setIfInBounds_toArray,List.set_cons_zero,List.set_cons_succ,zaq,zar]
            rfl
           exact zaS (by first | (simp only [putAll,Act.put,List.setIfInBounds_toArray,List.set_cons_zero,List.set_cons_succ]; done) | (simp only [putAll,Act.put,List.setIfInBounds_toArray,List.set_cons_zero,List.set_cons_succ]; rfl)) (hJ1 (o1) _ ⟨(HF.out _ hbn.out).1,new,hbn.out⟩)
          ·
           skip
           refine value_ (w1:=?_) (v:=?_) (by rfl) rfl ?_ ?_
           rotate_left 2
           ·
            go_simp
            constructor
            ·
             rfl
            ·
             rfl
           have hB:Below V0.heap.size V0 (V0.alloc (.cells #[.bool false,.slice none 0 0,.slice none 0 0] 25 (0,0))):=zab (Below.refl _ _) _
           have hN:=zbp V0 (.cells #[.bool false,.slice none 0 0,.slice none 0 0] 25 (0,0))
           have hbn:=Aside0.mk (zag hb0.out hB)
           refine hK.out _ _ ((HF.out _ hbn.out).1) (fun hHeld=>?_)
           clear hK K
           refine zaS (a':=?_) ?_ ?_
           rotate_left
           ·
            show Act.put _ (some 5) _=_
            simp only [Act.put,List.setIfInBounds_toArray,List.set_cons_zero,List.set_cons_succ,zaq,zar]
            rfl
           exact zaS (by first | (simp only [putAll,Act.put,List.setIfInBounds_toArray,List.set_cons_zero,List.set_cons_succ]; done) | (simp only [putAll,Act.put,List.setIfInBounds_toArray,List.set_cons_zero,List.set_cons_succ]; rfl)) (hJ8 (V0.heap.size) _ ⟨(HF.out _ hbn.out).1,⟨hN,hb0.out.size⟩,hbn.out⟩)
         ·
          skip
          rintro g8 V ⟨hHeld,kK8,hb⟩
          have K8:=Aside0.mk kK8
          have hbv:=Aside0.mk hb
          clear hb kK8
          refine zaS (a':=?_) ?_ ?_
          rotate_left
          ·
           simp only [putAll,Act.put,List.setIfInBounds_toArray,List.set_cons_zero,List.set_cons_succ]
           rfl
          refine one_ (i:=1) (N:=some 23) #[true,true,true,false,false,false,false,false,true,false,false] rfl rfl (zaO HT_.out (by kernel_rfl)) (by decide) (fun K hK=>?_)
          refine za7 Try.func17 (by kernel_rfl) rfl #[.agg #[.bool n1,.slice Aa1 p1.length ca1,.slice Ab1 q1.length cb1]] (by rfl) rfl rfl (by (try simp only [List.map_toArray,List.map_cons,List.map_nil]); first | done | rfl) ?_
          refine(ownR_n (HP1.out V (HF.out _ hbv.out).2)).mono ?_
          rintro e Vn ⟨o1,rfl,new,hB⟩
          refine⟨_,rfl,?_⟩
          have hbn:=Aside0.mk (zag hbv.out hB)
          refine hK.out _ _ ((HF.out _ hbn.out).1) (fun hHeld=>?_)
          clear hK K
          refine zaS (a':=?_) ?_ ?_
          rotate_left
          ·
           show Act.put _ (some 23) _=_
           simp only [Act.put,List.setIfInBounds_toArray,List.set_cons_zero,List.set_cons_succ,zaq,zar]
           rfl
          exact zaS (by first | (simp only [putAll,Act.put,List.setIfInBounds_toArray,List.set_cons_zero,List.set_cons_succ]; done) | (simp only [putAll,Act.put,List.setIfInBounds_toArray,List.set_cons_zero,List.set_cons_succ]; rfl)) (hJ1_8 (o1,g8) _ ⟨(HF.out _ hbn.out).1,new,⟨zal K8.out.1 hB,K8.out.2⟩,hbn.out⟩)
        ·
         skip
         rintro o1 V ⟨hHeld,kK1,hb⟩
         have K1:=Aside0.mk kK1
         have hbv:=Aside0.mk hb
         clear hb kK1
         refine zaS (a':=?_) ?_ ?_
         rotate_left
         ·
          simp only [putAll,Act.put,List.setIfInBounds_toArray,List.set_cons_zero,List.set_cons_succ]
          rfl
         refine two_ (i:=3) (j:=8) (Ni:=some 25) (Nj:=some 5) #[true,true,true,true,false,false,false,false,false,false,false] #[true,true,true,false,false,false,false,false,true,false,false] rfl rfl rfl rfl (two_of HT_.out (by kernel_rfl)) (by decide) (by decide) (fun K hK=>?_) (fun K hK=>?_)
         ·
          skip
          refine za7 Try.func17 (by kernel_rfl) rfl #[.agg #[.bool n2,.slice Aa2 p2.length ca2,.slice Ab2 q2.length cb2]] (by rfl) rfl rfl (by (try simp only [List.map_toArray,List.map_cons,List.map_nil]); first | done | rfl) ?_
          refine(ownR_n (HP2.out V (HF.out _ hbv.out).2)).mono ?_
          rintro e Vn ⟨o3,rfl,new,hB⟩
          refine⟨_,rfl,?_⟩
          have hbn:=Aside0.mk (zag hbv.out hB)
          refine hK.out _ _ ((HF.out _ hbn.out).1) (fun hHeld=>?_)
          clear hK K
          refine zaS (a':=?_) ?_ ?_
          rotate_left
          ·
           show Act.put _ (some 25) _=_
           simp only [Act.put,List.setIfInBounds_toArray,List.set_cons_zero,List.set_cons_succ,zaq,zar]
           rfl
          exact zaS (by first | (simp only [putAll,Act.put,List.setIfInBounds_toArray,List.set_cons_zero,List.set_cons_succ]; done) | (simp only [putAll,Act.put,List.setIfInBounds_toArray,List.set_cons_zero,List.set_cons_succ]; rfl)) (hJ1_3 (o1,o3) _ ⟨(HF.out _ hbn.out).1,K1.out.below hB,new,hbn.out⟩)
         ·
          skip
          refine value_ (w1:=?_) (v:=?_) (by rfl) rfl ?_ ?_
          rotate_left 2
          ·
           go_simp
           constructor
           ·
            rfl
           ·
            rfl
          have hB:Below V.heap.size V (V.alloc (.cells #[.bool false,.slice none 0 0,.slice none 0 0] 25 (0,0))):=zab (Below.refl _ _) _
          have hN:=zbp V (.cells #[.bool false,.slice none 0 0,.slice none 0 0] 25 (0,0))
          have hbn:=Aside0.mk (zag hbv.out hB)
          refine hK.out _ _ ((HF.out _ hbn.out).1) (fun hHeld=>?_)
          clear hK K
          refine zaS (a':=?_) ?_ ?_
          rotate_left
          ·
           show Act.put _ (some 5) _=_
           simp only [Act.put,List.setIfInBounds_toArray,List.set_cons_zero,List.set_cons_succ,zaq,zar]
           rfl
          exact zaS (by first | (simp only [putAll,Act.put,List.setIfInBounds_toArray,List.set_cons_zero,List.set_cons_succ]; done) | (simp only [putAll,Act.put,List.setIfInBounds_toArray,List.set_cons_zero,List.set_cons_succ]; rfl)) (hJ1_8 (o1,V.heap.size) _ ⟨(HF.out _ hbn.out).1,K1.out.below hB,⟨hN,hbv.out.size⟩,hbn.out⟩)
       ·
        skip
        rintro⟨o1,g8⟩ V ⟨hHeld,kK1,kK8,hb⟩
        have K1:=Aside0.mk kK1
        have K8:=Aside0.mk kK8
        have hbv:=Aside0.mk hb
        clear hb kK1 kK8
        refine zaS (a':=?_) ?_ ?_
        rotate_left
        ·
         simp only [putAll,Act.put,List.setIfInBounds_toArray,List.set_cons_zero,List.set_cons_succ]
         rfl
        refine one_ (i:=3) (N:=some 25) #[true,true,true,true,false,false,false,false,true,false,false] rfl rfl (zaO HT_.out (by kernel_rfl)) (by decide) (fun K hK=>?_)
        refine za7 Try.func17 (by kernel_rfl) rfl #[.agg #[.bool n2,.slice Aa2 p2.length ca2,.slice Ab2 q2.length cb2]] (by rfl) rfl rfl (by (try simp only [List.map_toArray,List.map_cons,List.map_nil]); first | done | rfl) ?_
        refine(ownR_n (HP2.out V (HF.out _ hbv.out).2)).mono ?_
        rintro e Vn ⟨o3,rfl,new,hB⟩
        refine⟨_,rfl,?_⟩
        have hbn:=Aside0.mk (zag hbv.out hB)
        refine hK.out _ _ ((HF.out _ hbn.out).1) (fun hHeld=>?_)
        clear hK K
        refine zaS (a':=?_) ?_ ?_
        rotate_left
        ·
         show Act.put _ (some 25) _=_
         simp only [Act.put,List.setIfInBounds_toArray,List.set_cons_zero,List.set_cons_succ,zaq,zar]
         rfl
        exact zaS (by first | (simp only [putAll,Act.put,List.setIfInBounds_toArray,List.set_cons_zero,List.set_cons_succ]; done) | (simp only [putAll,Act.put,List.setIfInBounds_toArray,List.set_cons_zero,List.set_cons_succ]; rfl)) (hJ1_3_8 (o1,o3,g8) _ ⟨(HF.out _ hbn.out).1,K1.out.below hB,new,⟨zal K8.out.1 hB,K8.out.2⟩,hbn.out⟩)
      ·
       skip
       rintro⟨o1,o3⟩ V ⟨hHeld,kK1,kK3,hb⟩
       have K1:=Aside0.mk kK1
       have K3:=Aside0.mk kK3
       have hbv:=Aside0.mk hb
       clear hb kK1 kK3
       refine zaS (a':=?_) ?_ ?_
       rotate_left
       ·
        simp only [putAll,Act.put,List.setIfInBounds_toArray,List.set_cons_zero,List.set_cons_succ]
        rfl
       refine two_ (i:=4) (j:=8) (Ni:=some 26) (Nj:=some 5) #[true,true,true,true,true,false,false,false,false,false,false] #[true,true,true,true,false,false,false,false,true,false,false] rfl rfl rfl rfl (two_of HT_.out (by kernel_rfl)) (by decide) (by decide) (fun K hK=>?_) (fun K hK=>?_)
       ·
        skip
        refine za7 Try.func38 (by kernel_rfl) rfl #[o1,o3] (by rfl) rfl rfl (by (try simp only [List.map_toArray,List.map_cons,List.map_nil]); first | done | rfl) ?_
        refine(div0_n K1.out K3.out HZ.out).mono ?_
        rintro e Vn ⟨A4,c4,B4,d4,rfl,hB⟩
        refine⟨_,rfl,?_⟩
        have hbn:=Aside0.mk (zag hbv.out hB)
        refine hK.out _ _ ((HF.out _ hbn.out).1) (fun hHeld=>?_)
        clear hK K
        refine zaS (a':=?_) ?_ ?_
        rotate_left
        ·
         show Act.put _ (some 26) _=_
         simp only [Act.put,List.setIfInBounds_toArray,List.set_cons_zero,List.set_cons_succ,zaq,zar]
         rfl
        refine zaA (i:=5) (N:=some 21) (v:=?_) (a':=?_) #[true,true,true,true,true,true,false,false,false,false,false] rfl rfl (zay HT_.out (by kernel_rfl)) (fun _ _ _ h=>h) (Or.inl ⟨by rfl,?_⟩) ?_ ?_
        rotate_left
        ·
         intro w'
         go_simp
         with_reducible rfl
        rotate_left
        ·
         simp only [Act.put,List.setIfInBounds_toArray,List.set_cons_zero,List.set_cons_succ,zaq,zar]
         rfl
        refine zaA (i:=6) (N:=some 27) (v:=?_) (a':=?_) #[true,true,true,true,true,true,true,false,false,false,false] rfl rfl (zay HT_.out (by kernel_rfl)) (fun _ _ _ h=>h) (Or.inl ⟨by rfl,?_⟩) ?_ ?_
        rotate_left
        ·
         intro w'
         go_simp
         with_reducible rfl
        rotate_left
        ·
         simp only [Act.put,List.setIfInBounds_toArray,List.set_cons_zero,List.set_cons_succ,zaq,zar]
         rfl
        refine zaA (i:=7) (N:=some 28) (v:=?_) (a':=?_) #[true,true,true,true,true,true,true,true,false,false,false] rfl rfl (zay HT_.out (by kernel_rfl)) (fun _ _ _ h=>h) (Or.inl ⟨by rfl,?_⟩) ?_ ?_
        rotate_left
        ·
         intro w'
         go_simp
         with_reducible rfl
        rotate_left
        ·
         simp only [Act.put,List.setIfInBounds_toArray,List.set_cons_zero,List.set_cons_succ,zaq,zar]
         rfl
        exact zaS (by first | (simp only [putAll,Act.put,List.setIfInBounds_toArray,List.set_cons_zero,List.set_cons_succ]; done) | (simp only [putAll,Act.put,List.setIfInBounds_toArray,List.set_cons_zero,List.set_cons_succ]; rfl)) (hJ1_3_4 (o1,o3,A4,c4,B4,d4) _ ⟨(HF.out _ hbn.out).1,K1.out.below hB,K3.out.below hB,hbn.out⟩)
       ·
        skip
        refine value_ (w1:=?_) (v:=?_) (by rfl) rfl ?_ ?_
        rotate_left 2
        ·
         go_simp
         constructor
         ·
          rfl
         ·
          rfl
        have hB:Below V.heap.size V (V.alloc (.cells #[.bool false,.slice none 0 0,.slice none 0 0] 25 (0,0))):=zab (Below.refl _ _) _
        have hN:=zbp V (.cells #[.bool false,.slice none 0 0,.slice none 0 0] 25 (0,0))
        have hbn:=Aside0.mk (zag hbv.out hB)
        refine hK.out _ _ ((HF.out _ hbn.out).1) (fun hHeld=>?_)
        clear hK K
        refine zaS (a':=?_) ?_ ?_
        rotate_left
        ·
         show Act.put _ (some 5) _=_
         simp only [Act.put,List.setIfInBounds_toArray,List.set_cons_zero,List.set_cons_succ,zaq,zar]
         rfl
        exact zaS (by first | (simp only [putAll,Act.put,List.setIfInBounds_toArray,List.set_cons_zero,List.set_cons_succ]; done) | (simp only [putAll,Act.put,List.setIfInBounds_toArray,List.set_cons_zero,List.set_cons_succ]; rfl)) (hJ1_3_8 (o1,o3,V.heap.size) _ ⟨(HF.out _ hbn.out).1,K1.out.below hB,K3.out.below hB,⟨hN,hbv.out.size⟩,hbn.out⟩)
     ·
      skip
      rintro⟨o1,o3,g8⟩ V ⟨hHeld,kK1,kK3,kK8,hb⟩
      have K1:=Aside0.mk kK1
      have K3:=Aside0.mk kK3
      have K8:=Aside0.mk kK8
      have hbv:=Aside0.mk hb
      clear hb kK1 kK3 kK8
      refine zaS (a':=?_) ?_ ?_
      rotate_left
      ·
       simp only [putAll,Act.put,List.setIfInBounds_toArray,List.set_cons_zero,List.set_cons_succ]
       rfl
      refine one_ (i:=4) (N:=some 26) #[true,true,true,true,true,false,false,false,true,false,false] rfl rfl (zaO HT_.out (by kernel_rfl)) (by decide) (fun K hK=>?_)
      refine za7 Try.func38 (by kernel_rfl) rfl #[o1,o3] (by rfl) rfl rfl (by (try simp only [List.map_toArray,List.map_cons,List.map_nil]); first | done | rfl) ?_
      refine(div0_n K1.out K3.out HZ.out).mono ?_
      rintro e Vn ⟨A4,c4,B4,d4,rfl,hB⟩
      refine⟨_,rfl,?_⟩
      have hbn:=Aside0.mk (zag hbv.out hB)
      refine hK.out _ _ ((HF.out _ hbn.out).1) (fun hHeld=>?_)
      clear hK K
      refine zaS (a':=?_) ?_ ?_
      rotate_left
      ·
       show Act.put _ (some 26) _=_
       simp only [Act.put,List.setIfInBounds_toArray,List.set_cons_zero,List.set_cons_succ,zaq,zar]
       rfl
      refine zaA (i:=5) (N:=some 21) (v:=?_) (a':=?_) #[true,true,true,true,true,true,false,false,true,false,false] rfl rfl (zay HT_.out (by kernel_rfl)) (fun _ _ _ h=>h) (Or.inl ⟨by rfl,?_⟩) ?_ ?_
      rotate_left
      ·
       intro w'
       go_simp
       with_reducible rfl
      rotate_left
      ·
       simp only [Act.put,List.setIfInBounds_toArray,List.set_cons_zero,List.set_cons_succ,zaq,zar]
       rfl
      refine zaA (i:=6) (N:=some 27) (v:=?_) (a':=?_) #[true,true,true,true,true,true,true,false,true,false,false] rfl rfl (zay HT_.out (by kernel_rfl)) (fun _ _ _ h=>h) (Or.inl ⟨by rfl,?_⟩) ?_ ?_
      rotate_left
      ·
       intro w'
       go_simp
       with_reducible rfl
      rotate_left
      ·
       simp only [Act.put,List.setIfInBounds_toArray,List.set_cons_zero,List.set_cons_succ,zaq,zar]
       rfl
      refine zaA (i:=7) (N:=some 28) (v:=?_) (a':=?_) #[true,true,true,true,true,true,true,true,true,false,false] rfl rfl (zay HT_.out (by kernel_rfl)) (fun _ _ _ h=>h) (Or.inl ⟨by rfl,?_⟩) ?_ ?_
      rotate_left
      ·
       intro w'
       go_simp
       with_reducible rfl
      rotate_left
      ·
       simp only [Act.put,List.setIfInBounds_toArray,List.set_cons_zero,List.set_cons_succ,zaq,zar]
       rfl
      exact zaS (by first | (simp only [putAll,Act.put,List.setIfInBounds_toArray,List.set_cons_zero,List.set_cons_succ]; done) | (simp only [putAll,Act.put,List.setIfInBounds_toArray,List.set_cons_zero,List.set_cons_succ]; rfl)) (hJ1_3_4_8 (o1,o3,A4,c4,B4,d4,g8) _ ⟨(HF.out _ hbn.out).1,K1.out.below hB,K3.out.below hB,⟨zal K8.out.1 hB,K8.out.2⟩,hbn.out⟩)
    ·
     skip
     rintro⟨o1,o3,A4,c4,B4,d4⟩ V ⟨hHeld,kK1,kK3,hb⟩
     have K1:=Aside0.mk kK1
     have K3:=Aside0.mk kK3
     have hbv:=Aside0.mk hb
     clear hb kK1 kK3
     refine zaS (a':=?_) ?_ ?_
     rotate_left
     ·
      simp only [putAll,Act.put,List.setIfInBounds_toArray,List.set_cons_zero,List.set_cons_succ]
      rfl
     refine one_ (i:=8) (N:=some 5) #[true,true,true,true,true,true,true,true,true,false,false] rfl rfl (zaO HT_.out (by kernel_rfl)) (by decide) (fun K hK=>?_)
     refine value_ (w1:=?_) (v:=?_) (by rfl) rfl ?_ ?_
     rotate_left 2
     ·
      go_simp
      constructor
      ·
       rfl
      ·
       rfl
     have hB:Below V.heap.size V (V.alloc (.cells #[.bool false,.slice none 0 0,.slice none 0 0] 25 (0,0))):=zab (Below.refl _ _) _
     have hN:=zbp V (.cells #[.bool false,.slice none 0 0,.slice none 0 0] 25 (0,0))
     have hbn:=Aside0.mk (zag hbv.out hB)
     refine hK.out _ _ ((HF.out _ hbn.out).1) (fun hHeld=>?_)
     clear hK K
     refine zaS (a':=?_) ?_ ?_
     rotate_left
     ·
      show Act.put _ (some 5) _=_
      simp only [Act.put,List.setIfInBounds_toArray,List.set_cons_zero,List.set_cons_succ,zaq,zar]
      rfl
     exact zaS (by first | (simp only [putAll,Act.put,List.setIfInBounds_toArray,List.set_cons_zero,List.set_cons_succ]; done) | (simp only [putAll,Act.put,List.setIfInBounds_toArray,List.set_cons_zero,List.set_cons_succ]; rfl)) (hJ1_3_4_8 (o1,o3,A4,c4,B4,d4,V.heap.size) _ ⟨(HF.out _ hbn.out).1,K1.out.below hB,K3.out.below hB,⟨hN,hbv.out.size⟩,hbn.out⟩)
   rintro⟨o1,o3,A4,c4,B4,d4,g8⟩ V ⟨hHeld,kK1,kK3,kK8,hb⟩
   have K1:=Aside0.mk kK1
   have K3:=Aside0.mk kK3
   have K8:=Aside0.mk kK8
   have hbv:=Aside0.mk hb
   clear hb kK1 kK3 kK8
   refine zaS (a':=?_) ?_ ?_
   rotate_left
   ·
    simp only [putAll,Act.put,List.setIfInBounds_toArray,List.set_cons_zero,List.set_cons_succ]
    rfl
   refine last_ (i:=9) (N:=none) #[true,true,true,true,true,true,true,true,true,true,false] rfl rfl (zaO HT_.out (by kernel_rfl)) (by decide) (fun K hK=>?_)
   obtain⟨⟨z0,z1,z2⟩,z3,z4,z5⟩:=zat K8.out.1
   refine skip_ (w1:=?_) (by rfl) rfl ?_ ?_
   rotate_left
   ·
    go_simp
    rfl
   refine hK.out _ _ ?_
   clear hK K
   refine zaA (i:=10) (N:=some 6) (v:=?_) (a':=?_) #[true,true,true,true,true,true,true,true,true,true,true] rfl rfl (zay HT_.out (by kernel_rfl)) (fun _ _ _ h=>h) (Or.inl ⟨by rfl,?_⟩) ?_ ?_
   rotate_left
   ·
    intro w'
    go_simp
    with_reducible rfl
   rotate_left
   ·
    simp only [Act.put,List.setIfInBounds_toArray,List.set_cons_zero,List.set_cons_succ,zaq,zar]
    rfl
   refine done_ (done_of HT_.out (by kernel_rfl)) ?_
   clear hHeld z0 z1 z2 z3 z4 z5
   rw [store3_eq]
   have hg8:=zaK (K8.out.1) (.bool false) (.slice A4 0 c4) (.slice B4 0 d4)
   have hb8:Below W2.heap.size W2 (store3 V g8 (.bool false) (.slice A4 0 c4) (.slice B4 0 d4)):=zaL (hbv.out) K8.out.2 (.bool false) (.slice A4 0 c4) (.slice B4 0 d4)
   generalize store3 V g8 (.bool false) (.slice A4 0 c4) (.slice B4 0 d4)=W8 at hg8 hb8 ⊢
   clear hbv K1 K3 K8
   have HG:Aside0 (∀ w':World,Below W8.heap.size W8 w'→(w'.cell? ⟨w.heap.size,0,none⟩=some (.bool n1)∧w'.cell? ⟨w.heap.size,1,none⟩=some (.slice Aa1 p1.length ca1)∧w'.cell? ⟨w.heap.size,2,none⟩=some (.slice Ab1 q1.length cb1)∧w'.cell? ⟨w.heap.size+1,0,none⟩=some (.bool n2)∧w'.cell? ⟨w.heap.size+1,1,none⟩=some (.slice Aa2 p2.length ca2)∧w'.cell? ⟨w.heap.size+1,2,none⟩=some (.slice Ab2 q2.length cb2)∧w'.cell? ⟨g8,0,none⟩=some (.bool false)∧w'.cell? ⟨g8,1,none⟩=some (.slice A4 0 c4)∧w'.cell? ⟨g8,2,none⟩=some (.slice B4 0 d4))∧Below w.heap.size w w'):=⟨fun W hb=>⟨⟨(zai (zal (zal HX1.out hb8) hb) 0).trans rfl,(zai (zal (zal HX1.out hb8) hb) 1).trans rfl,(zai (zal (zal HX1.out hb8) hb) 2).trans rfl,(zai (zal (zal HX2.out hb8) hb) 0).trans rfl,(zai (zal (zal HX2.out hb8) hb) 1).trans rfl,(zai (zal (zal HX2.out hb8) hb) 2).trans rfl,(zai (zal hg8 hb) 0).trans rfl,(zai (zal hg8 hb) 1).trans rfl,(zai (zal hg8 hb) 2).trans rfl⟩,zag (HF.out _ hb8).2 hb⟩⟩
   clear hg8 hb8 HF HX1 HX2 HB2 hb0
   go_wp2_with fail
   refine start_ (n:=11) (S:=fun w'=>(w'.cell? ⟨w.heap.size,0,none⟩=some (.bool n1)∧w'.cell? ⟨w.heap.size,1,none⟩=some (.slice Aa1 p1.length ca1)∧w'.cell? ⟨w.heap.size,2,none⟩=some (.slice Ab1 q1.length cb1)∧w'.cell? ⟨w.heap.size+1,0,none⟩=some (.bool n2)∧w'.cell? ⟨w.heap.size+1,1,none⟩=some (.slice Aa2 p2.length ca2)∧w'.cell? ⟨w.heap.size+1,2,none⟩=some (.slice Ab2 q2.length cb2)∧w'.cell? ⟨g8,0,none⟩=some (.bool false)∧w'.cell? ⟨g8,1,none⟩=some (.slice A4 0 c4)∧w'.cell? ⟨g8,2,none⟩=some (.slice B4 0 d4))) (ds:=[9]) #[false,false,false,false,false,false,false,false,false,false,false] (by kernel_rfl) rfl rfl ((HG.out _ (zac (Below.refl _ _))).1) (fun hHeld=>?_)
   have hb0:=Aside0.mk (show Below W8.heap.size W8 W8.drew from zac (Below.refl _ _))
   generalize W8.drew=V0 at hb0 hHeld ⊢
   refine with_tabW ratQuotients.tab4 ratQuotients.bits4 (fun HT_ HW_=>?_)
   refine take_ (i:=0) (N:=some 30) (v:=?_) (a':=?_) #[true,false,false,false,false,false,false,false,false,false,false] rfl rfl (zaQ HT_.out HW_.out (by kernel_rfl)) (fun _ _ _ h=>h) (Or.inl ⟨by rfl,?_⟩) hHeld ?_ ?_
   rotate_left
   ·
    intro w' s0
    go_simp
    with_reducible rfl
   rotate_left
   ·
    simp only [Act.put,List.setIfInBounds_toArray,List.set_cons_zero,List.set_cons_succ,zaq,zar]
    rfl
   refine take_ (i:=2) (N:=some 32) (v:=?_) (a':=?_) #[true,false,true,false,false,false,false,false,false,false,false] rfl rfl (zaQ HT_.out HW_.out (by kernel_rfl)) (fun _ _ _ h=>h) (Or.inl ⟨by rfl,?_⟩) hHeld ?_ ?_
   rotate_left
   ·
    intro w' s0
    go_simp
    with_reducible rfl
   rotate_left
   ·
    simp only [Act.put,List.setIfInBounds_toArray,List.set_cons_zero,List.set_cons_succ,zaq,zar]
    rfl
   refine join_ (σ:=Option Addr×Nat×Option Addr×Nat×Option Addr×Nat×Option Addr×Nat×Nat) 2 #[true,true,true,true,true,true,true,true,true,false,false] (fun s=>[(31,.agg #[.bool X1.1,.slice s.1 (dg 10000 X1.2.1).length s.2.1,.slice s.2.2.1 (dg 10000 X1.2.2).length s.2.2.2.1]),(33,.agg #[.bool X2.1,.slice s.2.2.2.2.1 (dg 10000 X2.2.1).length s.2.2.2.2.2.1,.slice s.2.2.2.2.2.2.1 (dg 10000 X2.2.2).length s.2.2.2.2.2.2.2.1]),(34,.tuple #[.agg #[.bool false,.slice none 0 0,.slice none 0 0],.bool false]),(29,.tuple #[.agg #[.bool false,.slice none 0 0,.slice none 0 0],.bool false]),(35,.agg #[.bool false,.slice none 0 0,.slice none 0 0]),(36,.bool false),(7,.pointer (some ⟨s.2.2.2.2.2.2.2.2,0,none⟩))]) (fun s w'=>(w'.cell? ⟨w.heap.size,0,none⟩=some (.bool n1)∧w'.cell? ⟨w.heap.size,1,none⟩=some (.slice Aa1 p1.length ca1)∧w'.cell? ⟨w.heap.size,2,none⟩=some (.slice Ab1 q1.length cb1)∧w'.cell? ⟨w.heap.size+1,0,none⟩=some (.bool n2)∧w'.cell? ⟨w.heap.size+1,1,none⟩=some (.slice Aa2 p2.length ca2)∧w'.cell? ⟨w.heap.size+1,2,none⟩=some (.slice Ab2 q2.length cb2)∧w'.cell? ⟨g8,0,none⟩=some (.bool false)∧w'.cell? ⟨g8,1,none⟩=some (.slice A4 0 c4)∧w'.cell? ⟨g8,2,none⟩=some (.slice B4 0 d4))∧(QT w' w.heap.size (.agg #[.bool X1.1,.slice s.1 (dg 10000 X1.2.1).length s.2.1,.slice s.2.2.1 (dg 10000 X1.2.2).length s.2.2.2.1]) X1)∧(QT w' w.heap.size (.agg #[.bool X2.1,.slice s.2.2.2.2.1 (dg 10000 X2.2.1).length s.2.2.2.2.2.1,.slice s.2.2.2.2.2.2.1 (dg 10000 X2.2.2).length s.2.2.2.2.2.2.2.1]) X2)∧(w'.heap[s.2.2.2.2.2.2.2.2]? = some (.cells #[.bool false,.slice none 0 0,.slice none 0 0] 36 (0,0))∧W8.heap.size≤s.2.2.2.2.2.2.2.2)∧Below W8.heap.size W8 w') ?_ ?_
   rotate_left
   ·
    intro hJ1_3_4_8
    refine join_ (σ:=Option Addr×Nat×Option Addr×Nat×Option Addr×Nat×Option Addr×Nat) 3 #[true,true,true,true,true,true,true,true,false,false,false] (fun s=>[(31,.agg #[.bool X1.1,.slice s.1 (dg 10000 X1.2.1).length s.2.1,.slice s.2.2.1 (dg 10000 X1.2.2).length s.2.2.2.1]),(33,.agg #[.bool X2.1,.slice s.2.2.2.2.1 (dg 10000 X2.2.1).length s.2.2.2.2.2.1,.slice s.2.2.2.2.2.2.1 (dg 10000 X2.2.2).length s.2.2.2.2.2.2.2]),(34,.tuple #[.agg #[.bool false,.slice none 0 0,.slice none 0 0],.bool false]),(29,.tuple #[.agg #[.bool false,.slice none 0 0,.slice none 0 0],.bool false]),(35,.agg #[.bool false,.slice none 0 0,.slice none 0 0]),(36,.bool false)]) (fun s w'=>(w'.cell? ⟨w.heap.size,0,none⟩=some (.bool n1)∧w'.cell? ⟨w.heap.size,1,none⟩=some (.slice Aa1 p1.length ca1)∧w'.cell? ⟨w.heap.size,2,none⟩=some (.slice Ab1 q1.length cb1)∧w'.cell? ⟨w.heap.size+1,0,none⟩=some (.bool n2)∧w'.cell? ⟨w.heap.size+1,1,none⟩=some (.slice Aa2 p2.length ca2)∧w'.cell? ⟨w.heap.size+1,2,none⟩=some (.slice Ab2 q2.length cb2)∧w'.cell? ⟨g8,0,none⟩=some (.bool false)∧w'.cell? ⟨g8,1,none⟩=some (.slice A4 0 c4)∧w'.cell? ⟨g8,2,none⟩=some (.slice B4 0 d4))∧(QT w' w.heap.size (.agg #[.bool X1.1,.slice s.1 (dg 10000 X1.2.1).length s.2.1,.slice s.2.2.1 (dg 10000 X1.2.2).length s.2.2.2.1]) X1)∧(QT w' w.heap.size (.agg #[.bool X2.1,.slice s.2.2.2.2.1 (dg 10000 X2.2.1).length s.2.2.2.2.2.1,.slice s.2.2.2.2.2.2.1 (dg 10000 X2.2.2).length s.2.2.2.2.2.2.2]) X2)∧Below W8.heap.size W8 w') ?_ ?_
    rotate_left
    ·
     intro hJ1_3_4
     refine join_ (σ:=Option Addr×Nat×Option Addr×Nat×Option Addr×Nat×Option Addr×Nat×Nat) 6 #[true,true,true,true,false,false,false,false,true,false,false] (fun s=>[(31,.agg #[.bool X1.1,.slice s.1 (dg 10000 X1.2.1).length s.2.1,.slice s.2.2.1 (dg 10000 X1.2.2).length s.2.2.2.1]),(33,.agg #[.bool X2.1,.slice s.2.2.2.2.1 (dg 10000 X2.2.1).length s.2.2.2.2.2.1,.slice s.2.2.2.2.2.2.1 (dg 10000 X2.2.2).length s.2.2.2.2.2.2.2.1]),(7,.pointer (some ⟨s.2.2.2.2.2.2.2.2,0,none⟩))]) (fun s w'=>(w'.cell? ⟨w.heap.size,0,none⟩=some (.bool n1)∧w'.cell? ⟨w.heap.size,1,none⟩=some (.slice Aa1 p1.length ca1)∧w'.cell? ⟨w.heap.size,2,none⟩=some (.slice Ab1 q1.length cb1)∧w'.cell? ⟨w.heap.size+1,0,none⟩=some (.bool n2)∧w'.cell? ⟨w.heap.size+1,1,none⟩=some (.slice Aa2 p2.length ca2)∧w'.cell? ⟨w.heap.size+1,2,none⟩=some (.slice Ab2 q2.length cb2)∧w'.cell? ⟨g8,0,none⟩=some (.bool false)∧w'.cell? ⟨g8,1,none⟩=some (.slice A4 0 c4)∧w'.cell? ⟨g8,2,none⟩=some (.slice B4 0 d4))∧(QT w' w.heap.size (.agg #[.bool X1.1,.slice s.1 (dg 10000 X1.2.1).length s.2.1,.slice s.2.2.1 (dg 10000 X1.2.2).length s.2.2.2.1]) X1)∧(QT w' w.heap.size (.agg #[.bool X2.1,.slice s.2.2.2.2.1 (dg 10000 X2.2.1).length s.2.2.2.2.2.1,.slice s.2.2.2.2.2.2.1 (dg 10000 X2.2.2).length s.2.2.2.2.2.2.2.1]) X2)∧(w'.heap[s.2.2.2.2.2.2.2.2]? = some (.cells #[.bool false,.slice none 0 0,.slice none 0 0] 36 (0,0))∧W8.heap.size≤s.2.2.2.2.2.2.2.2)∧Below W8.heap.size W8 w') ?_ ?_
     rotate_left
     ·
      intro hJ1_3_8
      refine join_ (σ:=Option Addr×Nat×Option Addr×Nat×Option Addr×Nat×Option Addr×Nat) 7 #[true,true,true,true,false,false,false,false,false,false,false] (fun s=>[(31,.agg #[.bool X1.1,.slice s.1 (dg 10000 X1.2.1).length s.2.1,.slice s.2.2.1 (dg 10000 X1.2.2).length s.2.2.2.1]),(33,.agg #[.bool X2.1,.slice s.2.2.2.2.1 (dg 10000 X2.2.1).length s.2.2.2.2.2.1,.slice s.2.2.2.2.2.2.1 (dg 10000 X2.2.2).length s.2.2.2.2.2.2.2])]) (fun s w'=>(w'.cell? ⟨w.heap.size,0,none⟩=some (.bool n1)∧w'.cell? ⟨w.heap.size,1,none⟩=some (.slice Aa1 p1.length ca1)∧w'.cell? ⟨w.heap.size,2,none⟩=some (.slice Ab1 q1.length cb1)∧w'.cell? ⟨w.heap.size+1,0,none⟩=some (.bool n2)∧w'.cell? ⟨w.heap.size+1,1,none⟩=some (.slice Aa2 p2.length ca2)∧w'.cell? ⟨w.heap.size+1,2,none⟩=some (.slice Ab2 q2.length cb2)∧w'.cell? ⟨g8,0,none⟩=some (.bool false)∧w'.cell? ⟨g8,1,none⟩=some (.slice A4 0 c4)∧w'.cell? ⟨g8,2,none⟩=some (.slice B4 0 d4))∧(QT w' w.heap.size (.agg #[.bool X1.1,.slice s.1 (dg 10000 X1.2.1).length s.2.1,.slice s.2.2.1 (dg 10000 X1.2.2).length s.2.2.2.1]) X1)∧(QT w' w.heap.size (.agg #[.bool X2.1,.slice s.2.2.2.2.1 (dg 10000 X2.2.1).length s.2.2.2.2.2.1,.slice s.2.2.2.2.2.2.1 (dg 10000 X2.2.2).length s.2.2.2.2.2.2.2]) X2)∧Below W8.heap.size W8 w') ?_ ?_
      rotate_left
      ·
       intro hJ1_3
       refine join_ (σ:=Option Addr×Nat×Option Addr×Nat×Nat) 7 #[true,true,true,false,false,false,false,false,true,false,false] (fun s=>[(31,.agg #[.bool X1.1,.slice s.1 (dg 10000 X1.2.1).length s.2.1,.slice s.2.2.1 (dg 10000 X1.2.2).length s.2.2.2.1]),(7,.pointer (some ⟨s.2.2.2.2,0,none⟩))]) (fun s w'=>(w'.cell? ⟨w.heap.size,0,none⟩=some (.bool n1)∧w'.cell? ⟨w.heap.size,1,none⟩=some (.slice Aa1 p1.length ca1)∧w'.cell? ⟨w.heap.size,2,none⟩=some (.slice Ab1 q1.length cb1)∧w'.cell? ⟨w.heap.size+1,0,none⟩=some (.bool n2)∧w'.cell? ⟨w.heap.size+1,1,none⟩=some (.slice Aa2 p2.length ca2)∧w'.cell? ⟨w.heap.size+1,2,none⟩=some (.slice Ab2 q2.length cb2)∧w'.cell? ⟨g8,0,none⟩=some (.bool false)∧w'.cell? ⟨g8,1,none⟩=some (.slice A4 0 c4)∧w'.cell? ⟨g8,2,none⟩=some (.slice B4 0 d4))∧(QT w' w.heap.size (.agg #[.bool X1.1,.slice s.1 (dg 10000 X1.2.1).length s.2.1,.slice s.2.2.1 (dg 10000 X1.2.2).length s.2.2.2.1]) X1)∧(w'.heap[s.2.2.2.2]? = some (.cells #[.bool false,.slice none 0 0,.slice none 0 0] 36 (0,0))∧W8.heap.size≤s.2.2.2.2)∧Below W8.heap.size W8 w') ?_ ?_
       rotate_left
       ·
        intro hJ1_8
        refine join_ (σ:=Option Addr×Nat×Option Addr×Nat) 8 #[true,true,true,false,false,false,false,false,false,false,false] (fun s=>[(31,.agg #[.bool X1.1,.slice s.1 (dg 10000 X1.2.1).length s.2.1,.slice s.2.2.1 (dg 10000 X1.2.2).length s.2.2.2])]) (fun s w'=>(w'.cell? ⟨w.heap.size,0,none⟩=some (.bool n1)∧w'.cell? ⟨w.heap.size,1,none⟩=some (.slice Aa1 p1.length ca1)∧w'.cell? ⟨w.heap.size,2,none⟩=some (.slice Ab1 q1.length cb1)∧w'.cell? ⟨w.heap.size+1,0,none⟩=some (.bool n2)∧w'.cell? ⟨w.heap.size+1,1,none⟩=some (.slice Aa2 p2.length ca2)∧w'.cell? ⟨w.heap.size+1,2,none⟩=some (.slice Ab2 q2.length cb2)∧w'.cell? ⟨g8,0,none⟩=some (.bool false)∧w'.cell? ⟨g8,1,none⟩=some (.slice A4 0 c4)∧w'.cell? ⟨g8,2,none⟩=some (.slice B4 0 d4))∧(QT w' w.heap.size (.agg #[.bool X1.1,.slice s.1 (dg 10000 X1.2.1).length s.2.1,.slice s.2.2.1 (dg 10000 X1.2.2).length s.2.2.2]) X1)∧Below W8.heap.size W8 w') ?_ ?_
        rotate_left
        ·
         intro hJ1
         refine join_ (σ:=Nat) 8 #[true,false,true,false,false,false,false,false,true,false,false] (fun s=>[(7,.pointer (some ⟨s,0,none⟩))]) (fun s w'=>(w'.cell? ⟨w.heap.size,0,none⟩=some (.bool n1)∧w'.cell? ⟨w.heap.size,1,none⟩=some (.slice Aa1 p1.length ca1)∧w'.cell? ⟨w.heap.size,2,none⟩=some (.slice Ab1 q1.length cb1)∧w'.cell? ⟨w.heap.size+1,0,none⟩=some (.bool n2)∧w'.cell? ⟨w.heap.size+1,1,none⟩=some (.slice Aa2 p2.length ca2)∧w'.cell? ⟨w.heap.size+1,2,none⟩=some (.slice Ab2 q2.length cb2)∧w'.cell? ⟨g8,0,none⟩=some (.bool false)∧w'.cell? ⟨g8,1,none⟩=some (.slice A4 0 c4)∧w'.cell? ⟨g8,2,none⟩=some (.slice B4 0 d4))∧(w'.heap[s]? = some (.cells #[.bool false,.slice none 0 0,.slice none 0 0] 36 (0,0))∧W8.heap.size≤s)∧Below W8.heap.size W8 w') ?_ ?_
         rotate_left
         ·
          intro hJ8
          refine two_ (i:=1) (j:=8) (Ni:=some 31) (Nj:=some 7) #[true,true,true,false,false,false,false,false,false,false,false] #[true,false,true,false,false,false,false,false,true,false,false] rfl rfl rfl rfl (two_of HT_.out (by kernel_rfl)) (by decide) (by decide) (fun K hK=>?_) (fun K hK=>?_)
          ·
           skip
           refine za7 Try.func21 (by kernel_rfl) rfl #[.agg #[.bool n1,.slice Aa1 p1.length ca1,.slice Ab1 q1.length cb1]] (by rfl) rfl rfl (by (try simp only [List.map_toArray,List.map_cons,List.map_nil]); first | done | rfl) ?_
           refine(ref_of_n (HP1.out V0 (HG.out _ hb0.out).2)).mono ?_
           rintro e Vn ⟨_,rfl,⟨m1,m2,rfl,R1,R2⟩,hB⟩
           refine⟨_,rfl,?_⟩
           obtain⟨A1,c1,rfl⟩:=Kd.R_slice R1
           obtain⟨B1,d1,rfl⟩:=Kd.R_slice R2
           have new:QT Vn w.heap.size (.agg #[.bool X1.1,.slice A1 (dg 10000 X1.2.1).length c1,.slice B1 (dg 10000 X1.2.2).length d1]) X1:=⟨_,_,rfl,Kd.R_lower R1 (HG.out _ hb0.out).2.size,Kd.R_lower R2 (HG.out _ hb0.out).2.size⟩
           have hbn:=Aside0.mk (zag hb0.out hB)
           refine hK.out _ _ ((HG.out _ hbn.out).1) (fun hHeld=>?_)
           clear hK K
           refine zaS (a':=?_) ?_ ?_
           rotate_left
           ·
            show Act.put _ (some 31) _=_
            simp only [Act.put,List.setIfInBounds_toArray,List.set_cons_zero,List.set_cons_succ,zaq,zar]
            rfl
           exact zaS (by first | (simp only [putAll,Act.put,List.setIfInBounds_toArray,List.set_cons_zero,List.set_cons_succ]; done) | (simp only [putAll,Act.put,List.setIfInBounds_toArray,List.set_cons_zero,List.set_cons_succ]; rfl)) (hJ1 (A1,c1,B1,d1) _ ⟨(HG.out _ hbn.out).1,new,hbn.out⟩)
          ·
           skip
           refine value_ (w1:=?_) (v:=?_) (by rfl) rfl ?_ ?_
           rotate_left 2
           ·
            go_simp
            constructor
            ·
             rfl
            ·
             rfl
           have hB:Below V0.heap.size V0 (V0.alloc (.cells #[.bool false,.slice none 0 0,.slice none 0 0] 36 (0,0))):=zab (Below.refl _ _) _
           have hN:=zbp V0 (.cells #[.bool false,.slice none 0 0,.slice none 0 0] 36 (0,0))
           have hbn:=Aside0.mk (zag hb0.out hB)
           refine hK.out _ _ ((HG.out _ hbn.out).1) (fun hHeld=>?_)
           clear hK K
           refine zaS (a':=?_) ?_ ?_
           rotate_left
           ·
            show Act.put _ (some 7) _=_
            simp only [Act.put,List.setIfInBounds_toArray,List.set_cons_zero,List.set_cons_succ,zaq,zar]
            rfl
           exact zaS (by first | (simp only [putAll,Act.put,List.setIfInBounds_toArray,List.set_cons_zero,List.set_cons_succ]; done) | (simp only [putAll,Act.put,List.setIfInBounds_toArray,List.set_cons_zero,List.set_cons_succ]; rfl)) (hJ8 (V0.heap.size) _ ⟨(HG.out _ hbn.out).1,⟨hN,hb0.out.size⟩,hbn.out⟩)
         ·
          skip
          rintro h8 V ⟨hHeld,kK8,hb⟩
          have K8:=Aside0.mk kK8
          have hbv:=Aside0.mk hb
          clear hb kK8
          refine zaS (a':=?_) ?_ ?_
          rotate_left
          ·
           simp only [putAll,Act.put,List.setIfInBounds_toArray,List.set_cons_zero,List.set_cons_succ]
           rfl
          refine one_ (i:=1) (N:=some 31) #[true,true,true,false,false,false,false,false,true,false,false] rfl rfl (zaO HT_.out (by kernel_rfl)) (by decide) (fun K hK=>?_)
          refine za7 Try.func21 (by kernel_rfl) rfl #[.agg #[.bool n1,.slice Aa1 p1.length ca1,.slice Ab1 q1.length cb1]] (by rfl) rfl rfl (by (try simp only [List.map_toArray,List.map_cons,List.map_nil]); first | done | rfl) ?_
          refine(ref_of_n (HP1.out V (HG.out _ hbv.out).2)).mono ?_
          rintro e Vn ⟨_,rfl,⟨m1,m2,rfl,R1,R2⟩,hB⟩
          refine⟨_,rfl,?_⟩
          obtain⟨A1,c1,rfl⟩:=Kd.R_slice R1
          obtain⟨B1,d1,rfl⟩:=Kd.R_slice R2
          have new:QT Vn w.heap.size (.agg #[.bool X1.1,.slice A1 (dg 10000 X1.2.1).length c1,.slice B1 (dg 10000 X1.2.2).length d1]) X1:=⟨_,_,rfl,Kd.R_lower R1 (HG.out _ hbv.out).2.size,Kd.R_lower R2 (HG.out _ hbv.out).2.size⟩
          have hbn:=Aside0.mk (zag hbv.out hB)
          refine hK.out _ _ ((HG.out _ hbn.out).1) (fun hHeld=>?_)
          clear hK K
          refine zaS (a':=?_) ?_ ?_
          rotate_left
          ·
           show Act.put _ (some 31) _=_
           simp only [Act.put,List.setIfInBounds_toArray,List.set_cons_zero,List.set_cons_succ,zaq,zar]
           rfl
          exact zaS (by first | (simp only [putAll,Act.put,List.setIfInBounds_toArray,List.set_cons_zero,List.set_cons_succ]; done) | (simp only [putAll,Act.put,List.setIfInBounds_toArray,List.set_cons_zero,List.set_cons_succ]; rfl)) (hJ1_8 (A1,c1,B1,d1,h8) _ ⟨(HG.out _ hbn.out).1,new,⟨zal K8.out.1 hB,K8.out.2⟩,hbn.out⟩)
        ·
         skip
         rintro⟨A1,c1,B1,d1⟩ V ⟨hHeld,kK1,hb⟩
         have K1:=Aside0.mk kK1
         have hbv:=Aside0.mk hb
         clear hb kK1
         refine zaS (a':=?_) ?_ ?_
         rotate_left
         ·
          simp only [putAll,Act.put,List.setIfInBounds_toArray,List.set_cons_zero,List.set_cons_succ]
          rfl
         refine two_ (i:=3) (j:=8) (Ni:=some 33) (Nj:=some 7) #[true,true,true,true,false,false,false,false,false,false,false] #[true,true,true,false,false,false,false,false,true,false,false] rfl rfl rfl rfl (two_of HT_.out (by kernel_rfl)) (by decide) (by decide) (fun K hK=>?_) (fun K hK=>?_)
         ·
          skip
          refine za7 Try.func21 (by kernel_rfl) rfl #[.agg #[.bool n2,.slice Aa2 p2.length ca2,.slice Ab2 q2.length cb2]] (by rfl) rfl rfl (by (try simp only [List.map_toArray,List.map_cons,List.map_nil]); first | done | rfl) ?_
          refine(ref_of_n (HP2.out V (HG.out _ hbv.out).2)).mono ?_
          rintro e Vn ⟨_,rfl,⟨m1,m2,rfl,R1,R2⟩,hB⟩
          refine⟨_,rfl,?_⟩
          obtain⟨A3,c3,rfl⟩:=Kd.R_slice R1
          obtain⟨B3,d3,rfl⟩:=Kd.R_slice R2
          have new:QT Vn w.heap.size (.agg #[.bool X2.1,.slice A3 (dg 10000 X2.2.1).length c3,.slice B3 (dg 10000 X2.2.2).length d3]) X2:=⟨_,_,rfl,Kd.R_lower R1 (HG.out _ hbv.out).2.size,Kd.R_lower R2 (HG.out _ hbv.out).2.size⟩
          have hbn:=Aside0.mk (zag hbv.out hB)
          refine hK.out _ _ ((HG.out _ hbn.out).1) (fun hHeld=>?_)
          clear hK K
          refine zaS (a':=?_) ?_ ?_
          rotate_left
          ·
           show Act.put _ (some 33) _=_
           simp only [Act.put,List.setIfInBounds_toArray,List.set_cons_zero,List.set_cons_succ,zaq,zar]
           rfl
          exact zaS (by first | (simp only [putAll,Act.put,List.setIfInBounds_toArray,List.set_cons_zero,List.set_cons_succ]; done) | (simp only [putAll,Act.put,List.setIfInBounds_toArray,List.set_cons_zero,List.set_cons_succ]; rfl)) (hJ1_3 (A1,c1,B1,d1,A3,c3,B3,d3) _ ⟨(HG.out _ hbn.out).1,K1.out.below hB,new,hbn.out⟩)
         ·
          skip
          refine value_ (w1:=?_) (v:=?_) (by rfl) rfl ?_ ?_
          rotate_left 2
          ·
           go_simp
           constructor
           ·
            rfl
           ·
            rfl
          have hB:Below V.heap.size V (V.alloc (.cells #[.bool false,.slice none 0 0,.slice none 0 0] 36 (0,0))):=zab (Below.refl _ _) _
          have hN:=zbp V (.cells #[.bool false,.slice none 0 0,.slice none 0 0] 36 (0,0))
          have hbn:=Aside0.mk (zag hbv.out hB)
          refine hK.out _ _ ((HG.out _ hbn.out).1) (fun hHeld=>?_)
          clear hK K
          refine zaS (a':=?_) ?_ ?_
          rotate_left
          ·
           show Act.put _ (some 7) _=_
           simp only [Act.put,List.setIfInBounds_toArray,List.set_cons_zero,List.set_cons_succ,zaq,zar]
           rfl
          exact zaS (by first | (simp only [putAll,Act.put,List.setIfInBounds_toArray,List.set_cons_zero,List.set_cons_succ]; done) | (simp only [putAll,Act.put,List.setIfInBounds_toArray,List.set_cons_zero,List.set_cons_succ]; rfl)) (hJ1_8 (A1,c1,B1,d1,V.heap.size) _ ⟨(HG.out _ hbn.out).1,K1.out.below hB,⟨hN,hbv.out.size⟩,hbn.out⟩)
       ·
        skip
        rintro⟨A1,c1,B1,d1,h8⟩ V ⟨hHeld,kK1,kK8,hb⟩
        have K1:=Aside0.mk kK1
        have K8:=Aside0.mk kK8
        have hbv:=Aside0.mk hb
        clear hb kK1 kK8
        refine zaS (a':=?_) ?_ ?_
        rotate_left
        ·
         simp only [putAll,Act.put,List.setIfInBounds_toArray,List.set_cons_zero,List.set_cons_succ]
         rfl
        refine one_ (i:=3) (N:=some 33) #[true,true,true,true,false,false,false,false,true,false,false] rfl rfl (zaO HT_.out (by kernel_rfl)) (by decide) (fun K hK=>?_)
        refine za7 Try.func21 (by kernel_rfl) rfl #[.agg #[.bool n2,.slice Aa2 p2.length ca2,.slice Ab2 q2.length cb2]] (by rfl) rfl rfl (by (try simp only [List.map_toArray,List.map_cons,List.map_nil]); first | done | rfl) ?_
        refine(ref_of_n (HP2.out V (HG.out _ hbv.out).2)).mono ?_
        rintro e Vn ⟨_,rfl,⟨m1,m2,rfl,R1,R2⟩,hB⟩
        refine⟨_,rfl,?_⟩
        obtain⟨A3,c3,rfl⟩:=Kd.R_slice R1
        obtain⟨B3,d3,rfl⟩:=Kd.R_slice R2
        have new:QT Vn w.heap.size (.agg #[.bool X2.1,.slice A3 (dg 10000 X2.2.1).length c3,.slice B3 (dg 10000 X2.2.2).length d3]) X2:=⟨_,_,rfl,Kd.R_lower R1 (HG.out _ hbv.out).2.size,Kd.R_lower R2 (HG.out _ hbv.out).2.size⟩
        have hbn:=Aside0.mk (zag hbv.out hB)
        refine hK.out _ _ ((HG.out _ hbn.out).1) (fun hHeld=>?_)
        clear hK K
        refine zaS (a':=?_) ?_ ?_
        rotate_left
        ·
         show Act.put _ (some 33) _=_
         simp only [Act.put,List.setIfInBounds_toArray,List.set_cons_zero,List.set_cons_succ,zaq,zar]
         rfl
        exact zaS (by first | (simp only [putAll,Act.put,List.setIfInBounds_toArray,List.set_cons_zero,List.set_cons_succ]; done) | (simp only [putAll,Act.put,List.setIfInBounds_toArray,List.set_cons_zero,List.set_cons_succ]; rfl)) (hJ1_3_8 (A1,c1,B1,d1,A3,c3,B3,d3,h8) _ ⟨(HG.out _ hbn.out).1,K1.out.below hB,new,⟨zal K8.out.1 hB,K8.out.2⟩,hbn.out⟩)
      ·
       skip
       rintro⟨A1,c1,B1,d1,A3,c3,B3,d3⟩ V ⟨hHeld,kK1,kK3,hb⟩
       have K1:=Aside0.mk kK1
       have K3:=Aside0.mk kK3
       have hbv:=Aside0.mk hb
       clear hb kK1 kK3
       refine zaS (a':=?_) ?_ ?_
       rotate_left
       ·
        simp only [putAll,Act.put,List.setIfInBounds_toArray,List.set_cons_zero,List.set_cons_succ]
        rfl
       refine two_ (i:=4) (j:=8) (Ni:=some 34) (Nj:=some 7) #[true,true,true,true,true,false,false,false,false,false,false] #[true,true,true,true,false,false,false,false,true,false,false] rfl rfl rfl rfl (two_of HT_.out (by kernel_rfl)) (by decide) (by decide) (fun K hK=>?_) (fun K hK=>?_)
       ·
        skip
        refine za7 Try.func39 (by kernel_rfl) rfl #[.agg #[.bool X1.1,.slice A1 (dg 10000 X1.2.1).length c1,.slice B1 (dg 10000 X1.2.2).length d1],.agg #[.bool X2.1,.slice A3 (dg 10000 X2.2.1).length c3,.slice B3 (dg 10000 X2.2.2).length d3]] (by rfl) rfl rfl (by (try simp only [List.map_toArray,List.map_cons,List.map_nil]); first | done | rfl) ?_
        refine(refdiv0_n K1.out.qd K3.out.qd HZ.out).mono ?_
        rintro e Vn ⟨rfl,hB⟩
        refine⟨_,rfl,?_⟩
        have hbn:=Aside0.mk (zag hbv.out hB)
        refine hK.out _ _ ((HG.out _ hbn.out).1) (fun hHeld=>?_)
        clear hK K
        refine zaS (a':=?_) ?_ ?_
        rotate_left
        ·
         show Act.put _ (some 34) _=_
         simp only [Act.put,List.setIfInBounds_toArray,List.set_cons_zero,List.set_cons_succ,zaq,zar]
         rfl
        refine zaA (i:=5) (N:=some 29) (v:=?_) (a':=?_) #[true,true,true,true,true,true,false,false,false,false,false] rfl rfl (zay HT_.out (by kernel_rfl)) (fun _ _ _ h=>h) (Or.inl ⟨by rfl,?_⟩) ?_ ?_
        rotate_left
        ·
         intro w'
         go_simp
         with_reducible rfl
        rotate_left
        ·
         simp only [Act.put,List.setIfInBounds_toArray,List.set_cons_zero,List.set_cons_succ,zaq,zar]
         rfl
        refine zaA (i:=6) (N:=some 35) (v:=?_) (a':=?_) #[true,true,true,true,true,true,true,false,false,false,false] rfl rfl (zay HT_.out (by kernel_rfl)) (fun _ _ _ h=>h) (Or.inl ⟨by rfl,?_⟩) ?_ ?_
        rotate_left
        ·
         intro w'
         go_simp
         with_reducible rfl
        rotate_left
        ·
         simp only [Act.put,List.setIfInBounds_toArray,List.set_cons_zero,List.set_cons_succ,zaq,zar]
         rfl
        refine zaA (i:=7) (N:=some 36) (v:=?_) (a':=?_) #[true,true,true,true,true,true,true,true,false,false,false] rfl rfl (zay HT_.out (by kernel_rfl)) (fun _ _ _ h=>h) (Or.inl ⟨by rfl,?_⟩) ?_ ?_
        rotate_left
        ·
         intro w'
         go_simp
         with_reducible rfl
        rotate_left
        ·
         simp only [Act.put,List.setIfInBounds_toArray,List.set_cons_zero,List.set_cons_succ,zaq,zar]
         rfl
        exact zaS (by first | (simp only [putAll,Act.put,List.setIfInBounds_toArray,List.set_cons_zero,List.set_cons_succ]; done) | (simp only [putAll,Act.put,List.setIfInBounds_toArray,List.set_cons_zero,List.set_cons_succ]; rfl)) (hJ1_3_4 (A1,c1,B1,d1,A3,c3,B3,d3) _ ⟨(HG.out _ hbn.out).1,K1.out.below hB,K3.out.below hB,hbn.out⟩)
       ·
        skip
        refine value_ (w1:=?_) (v:=?_) (by rfl) rfl ?_ ?_
        rotate_left 2
        ·
         go_simp
         constructor
         ·
          rfl
         ·
          rfl
        have hB:Below V.heap.size V (V.alloc (.cells #[.bool false,.slice none 0 0,.slice none 0 0] 36 (0,0))):=zab (Below.refl _ _) _
        have hN:=zbp V (.cells #[.bool false,.slice none 0 0,.slice none 0 0] 36 (0,0))
        have hbn:=Aside0.mk (zag hbv.out hB)
        refine hK.out _ _ ((HG.out _ hbn.out).1) (fun hHeld=>?_)
        clear hK K
        refine zaS (a':=?_) ?_ ?_
        rotate_left
        ·
         show Act.put _ (some 7) _=_
         simp only [Act.put,List.setIfInBounds_toArray,List.set_cons_zero,List.set_cons_succ,zaq,zar]
         rfl
        exact zaS (by first | (simp only [putAll,Act.put,List.setIfInBounds_toArray,List.set_cons_zero,List.set_cons_succ]; done) | (simp only [putAll,Act.put,List.setIfInBounds_toArray,List.set_cons_zero,List.set_cons_succ]; rfl)) (hJ1_3_8 (A1,c1,B1,d1,A3,c3,B3,d3,V.heap.size) _ ⟨(HG.out _ hbn.out).1,K1.out.below hB,K3.out.below hB,⟨hN,hbv.out.size⟩,hbn.out⟩)
     ·
      skip
      rintro⟨A1,c1,B1,d1,A3,c3,B3,d3,h8⟩ V ⟨hHeld,kK1,kK3,kK8,hb⟩
      have K1:=Aside0.mk kK1
      have K3:=Aside0.mk kK3
      have K8:=Aside0.mk kK8
      have hbv:=Aside0.mk hb
      clear hb kK1 kK3 kK8
      refine zaS (a':=?_) ?_ ?_
      rotate_left
      ·
       simp only [putAll,Act.put,List.setIfInBounds_toArray,List.set_cons_zero,List.set_cons_succ]
       rfl
      refine one_ (i:=4) (N:=some 34) #[true,true,true,true,true,false,false,false,true,false,false] rfl rfl (zaO HT_.out (by kernel_rfl)) (by decide) (fun K hK=>?_)
      refine za7 Try.func39 (by kernel_rfl) rfl #[.agg #[.bool X1.1,.slice A1 (dg 10000 X1.2.1).length c1,.slice B1 (dg 10000 X1.2.2).length d1],.agg #[.bool X2.1,.slice A3 (dg 10000 X2.2.1).length c3,.slice B3 (dg 10000 X2.2.2).length d3]] (by rfl) rfl rfl (by (try simp only [List.map_toArray,List.map_cons,List.map_nil]); first | done | rfl) ?_
      refine(refdiv0_n K1.out.qd K3.out.qd HZ.out).mono ?_
      rintro e Vn ⟨rfl,hB⟩
      refine⟨_,rfl,?_⟩
      have hbn:=Aside0.mk (zag hbv.out hB)
      refine hK.out _ _ ((HG.out _ hbn.out).1) (fun hHeld=>?_)
      clear hK K
      refine zaS (a':=?_) ?_ ?_
      rotate_left
      ·
       show Act.put _ (some 34) _=_
       simp only [Act.put,List.setIfInBounds_toArray,List.set_cons_zero,List.set_cons_succ,zaq,zar]
       rfl
      refine zaA (i:=5) (N:=some 29) (v:=?_) (a':=?_) #[true,true,true,true,true,true,false,false,true,false,false] rfl rfl (zay HT_.out (by kernel_rfl)) (fun _ _ _ h=>h) (Or.inl ⟨by rfl,?_⟩) ?_ ?_
      rotate_left
      ·
       intro w'
       go_simp
       with_reducible rfl
      rotate_left
      ·
       simp only [Act.put,List.setIfInBounds_toArray,List.set_cons_zero,List.set_cons_succ,zaq,zar]
       rfl
      refine zaA (i:=6) (N:=some 35) (v:=?_) (a':=?_) #[true,true,true,true,true,true,true,false,true,false,false] rfl rfl (zay HT_.out (by kernel_rfl)) (fun _ _ _ h=>h) (Or.inl ⟨by rfl,?_⟩) ?_ ?_
      rotate_left
      ·
       intro w'
       go_simp
       with_reducible rfl
      rotate_left
      ·
       simp only [Act.put,List.setIfInBounds_toArray,List.set_cons_zero,List.set_cons_succ,zaq,zar]
       rfl
      refine zaA (i:=7) (N:=some 36) (v:=?_) (a':=?_) #[true,true,true,true,true,true,true,true,true,false,false] rfl rfl (zay HT_.out (by kernel_rfl)) (fun _ _ _ h=>h) (Or.inl ⟨by rfl,?_⟩) ?_ ?_
      rotate_left
      ·
       intro w'
       go_simp
       with_reducible rfl
      rotate_left
      ·
       simp only [Act.put,List.setIfInBounds_toArray,List.set_cons_zero,List.set_cons_succ,zaq,zar]
       rfl
      exact zaS (by first | (simp only [putAll,Act.put,List.setIfInBounds_toArray,List.set_cons_zero,List.set_cons_succ]; done) | (simp only [putAll,Act.put,List.setIfInBounds_toArray,List.set_cons_zero,List.set_cons_succ]; rfl)) (hJ1_3_4_8 (A1,c1,B1,d1,A3,c3,B3,d3,h8) _ ⟨(HG.out _ hbn.out).1,K1.out.below hB,K3.out.below hB,⟨zal K8.out.1 hB,K8.out.2⟩,hbn.out⟩)
    ·
     skip
     rintro⟨A1,c1,B1,d1,A3,c3,B3,d3⟩ V ⟨hHeld,kK1,kK3,hb⟩
     have K1:=Aside0.mk kK1
     have K3:=Aside0.mk kK3
     have hbv:=Aside0.mk hb
     clear hb kK1 kK3
     refine zaS (a':=?_) ?_ ?_
     rotate_left
     ·
      simp only [putAll,Act.put,List.setIfInBounds_toArray,List.set_cons_zero,List.set_cons_succ]
      rfl
     refine one_ (i:=8) (N:=some 7) #[true,true,true,true,true,true,true,true,true,false,false] rfl rfl (zaO HT_.out (by kernel_rfl)) (by decide) (fun K hK=>?_)
     refine value_ (w1:=?_) (v:=?_) (by rfl) rfl ?_ ?_
     rotate_left 2
     ·
      go_simp
      constructor
      ·
       rfl
      ·
       rfl
     have hB:Below V.heap.size V (V.alloc (.cells #[.bool false,.slice none 0 0,.slice none 0 0] 36 (0,0))):=zab (Below.refl _ _) _
     have hN:=zbp V (.cells #[.bool false,.slice none 0 0,.slice none 0 0] 36 (0,0))
     have hbn:=Aside0.mk (zag hbv.out hB)
     refine hK.out _ _ ((HG.out _ hbn.out).1) (fun hHeld=>?_)
     clear hK K
     refine zaS (a':=?_) ?_ ?_
     rotate_left
     ·
      show Act.put _ (some 7) _=_
      simp only [Act.put,List.setIfInBounds_toArray,List.set_cons_zero,List.set_cons_succ,zaq,zar]
      rfl
     exact zaS (by first | (simp only [putAll,Act.put,List.setIfInBounds_toArray,List.set_cons_zero,List.set_cons_succ]; done) | (simp only [putAll,Act.put,List.setIfInBounds_toArray,List.set_cons_zero,List.set_cons_succ]; rfl)) (hJ1_3_4_8 (A1,c1,B1,d1,A3,c3,B3,d3,V.heap.size) _ ⟨(HG.out _ hbn.out).1,K1.out.below hB,K3.out.below hB,⟨hN,hbv.out.size⟩,hbn.out⟩)
   rintro⟨A1,c1,B1,d1,A3,c3,B3,d3,h8⟩ V ⟨hHeld,kK1,kK3,kK8,hb⟩
   have K1:=Aside0.mk kK1
   have K3:=Aside0.mk kK3
   have K8:=Aside0.mk kK8
   have hbv:=Aside0.mk hb
   clear hb kK1 kK3 kK8
   refine zaS (a':=?_) ?_ ?_
   rotate_left
   ·
    simp only [putAll,Act.put,List.setIfInBounds_toArray,List.set_cons_zero,List.set_cons_succ]
    rfl
   refine last_ (i:=9) (N:=none) #[true,true,true,true,true,true,true,true,true,true,false] rfl rfl (zaO HT_.out (by kernel_rfl)) (by decide) (fun K hK=>?_)
   obtain⟨⟨z0,z1,z2⟩,z3,z4,z5⟩:=zat K8.out.1
   refine skip_ (w1:=?_) (by rfl) rfl ?_ ?_
   rotate_left
   ·
    go_simp
    rfl
   refine hK.out _ _ ?_
   clear hK K
   refine zaA (i:=10) (N:=some 8) (v:=?_) (a':=?_) #[true,true,true,true,true,true,true,true,true,true,true] rfl rfl (zay HT_.out (by kernel_rfl)) (fun _ _ _ h=>h) (Or.inl ⟨by rfl,?_⟩) ?_ ?_
   rotate_left
   ·
    intro w'
    go_simp
    with_reducible rfl
   rotate_left
   ·
    simp only [Act.put,List.setIfInBounds_toArray,List.set_cons_zero,List.set_cons_succ,zaq,zar]
    rfl
   refine done_ (done_of HT_.out (by kernel_rfl)) ?_
   clear hHeld z0 z1 z2 z3 z4 z5
   rw [store3_eq]
   have hg8:=zaK (K8.out.1) (.bool false) (.slice none 0 0) (.slice none 0 0)
   have hb8:Below W8.heap.size W8 (store3 V h8 (.bool false) (.slice none 0 0) (.slice none 0 0)):=zaL (hbv.out) K8.out.2 (.bool false) (.slice none 0 0) (.slice none 0 0)
   generalize store3 V h8 (.bool false) (.slice none 0 0) (.slice none 0 0)=W9 at hg8 hb8 ⊢
   clear hbv K1 K3 K8
   have hS:=HG.out _ hb8
   obtain⟨⟨s0,s1,s2,s3,s4,s5,s6,s7,s8⟩,hBw⟩:=hS
   have HBw:=Aside0.mk hBw
   clear hBw
   go_wp2_with fail
   refine(known_q _).mono ?_
   rintro e w8 ⟨rfl,hB⟩
   have HB2:=Aside0.mk (zag HBw.out hB)
   clear hB
   go_wp2
   go_ret
   exact⟨rfl,HB2.out⟩
  ·
   have HZ:=Aside0.mk hz
   have N1:=Aside0.mk (lim_ok (show lim 120 (divQ X1 X2) from lim_mul (j:=60) (k:=60) HL1.out ⟨HL2.out.2,HL2.out.1⟩ (by decide)) (by decide))
   have HDV:=Aside0.mk (fun (W:World) (u v:Value) (hu:NR W u X1) (hv:NR W v X2)=>divY_n hu hv HZ.out)
   have HRD:=Aside0.mk (fun (W:World) (u v:Value) (hu:QD W u X1) (hv:QD W v X2)=>refdivY_n hu hv HZ.out N2.out.1 N2.out.2)
   generalize divQ X1 X2=Q at N1 HDV HRD
   clear hz
   simp only [List.map_cons,List.map_nil,hfb] at HF0
   clear hfb hl hr_p1 ho_p1 hr_q1 ho_q1 hr_p2 ho_p2 hr_q2 ho_q2
   go_enter Try.func7,Try.ntmps7
   go_wp2_with fail
   have hg:=zbp ((w.alloc (.cells #[.bool n1,.slice Aa1 p1.length ca1,.slice Ab1 q1.length cb1] 25)).alloc (.cells #[.bool n2,.slice Aa2 p2.length ca2,.slice Ab2 q2.length cb2] 25)) (.cells #[.slice Aa1 p1.length ca1,.slice Ab1 q1.length cb1,.slice Aa2 p2.length ca2,.slice Ab2 q2.length cb2] 23)
   rw [show ((w.alloc (.cells #[.bool n1,.slice Aa1 p1.length ca1,.slice Ab1 q1.length cb1] 25)).alloc (.cells #[.bool n2,.slice Aa2 p2.length ca2,.slice Ab2 q2.length cb2] 25)).heap.size=w.heap.size+1+1 by simp] at hg
   have hx1:=zae (zae (zbp w (.cells #[.bool n1,.slice Aa1 p1.length ca1,.slice Ab1 q1.length cb1] 25)) (.cells #[.bool n2,.slice Aa2 p2.length ca2,.slice Ab2 q2.length cb2] 25)) (.cells #[.slice Aa1 p1.length ca1,.slice Ab1 q1.length cb1,.slice Aa2 p2.length ca2,.slice Ab2 q2.length cb2] 23)
   have hx2:=zae (zbp (w.alloc (.cells #[.bool n1,.slice Aa1 p1.length ca1,.slice Ab1 q1.length cb1] 25)) (.cells #[.bool n2,.slice Aa2 p2.length ca2,.slice Ab2 q2.length cb2] 25)) (.cells #[.slice Aa1 p1.length ca1,.slice Ab1 q1.length cb1,.slice Aa2 p2.length ca2,.slice Ab2 q2.length cb2] 23)
   rw [show (w.alloc (.cells #[.bool n1,.slice Aa1 p1.length ca1,.slice Ab1 q1.length cb1] 25)).heap.size=w.heap.size+1 by simp] at hx2
   have hbw:Below w.heap.size w (((w.alloc (.cells #[.bool n1,.slice Aa1 p1.length ca1,.slice Ab1 q1.length cb1] 25)).alloc (.cells #[.bool n2,.slice Aa2 p2.length ca2,.slice Ab2 q2.length cb2] 25)).alloc (.cells #[.slice Aa1 p1.length ca1,.slice Ab1 q1.length cb1,.slice Aa2 p2.length ca2,.slice Ab2 q2.length cb2] 23)):=zab (zab (zab (Below.refl _ _) _) _) _
   generalize ((w.alloc (.cells #[.bool n1,.slice Aa1 p1.length ca1,.slice Ab1 q1.length cb1] 25)).alloc (.cells #[.bool n2,.slice Aa2 p2.length ca2,.slice Ab2 q2.length cb2] 25)).alloc (.cells #[.slice Aa1 p1.length ca1,.slice Ab1 q1.length cb1,.slice Aa2 p2.length ca2,.slice Ab2 q2.length cb2] 23)=W1 at hg hbw hx1 hx2 ⊢
   refine(HF0.out _ _ W1 hg hbw).mono ?_
   rintro e w2 ⟨rfl,hd⟩
   obtain⟨m,rfl⟩:=hd.out
   have HB2:=Aside0.mk (zaa hbw m)
   have HX1:=Aside0.mk (zaf hx1 m)
   obtain⟨⟨x10,x11,x12⟩,y10,y11,y12⟩:=zat HX1.out
   have HX2:=Aside0.mk (zaf hx2 m)
   obtain⟨⟨x20,x21,x22⟩,y20,y21,y22⟩:=zat HX2.out
   clear hg hbw hd HF0 hx1 hx2
   go_wp2_with fail
   generalize W1.drewN m=W2 at HB2 HX1 HX2 ⊢
   clear x10 x11 x12 y10 y11 y12
   clear x20 x21 x22 y20 y21 y22
   have HF:Aside0 (∀ w':World,Below W2.heap.size W2 w'→(w'.cell? ⟨w.heap.size,0,none⟩=some (.bool n1)∧w'.cell? ⟨w.heap.size,1,none⟩=some (.slice Aa1 p1.length ca1)∧w'.cell? ⟨w.heap.size,2,none⟩=some (.slice Ab1 q1.length cb1)∧w'.cell? ⟨w.heap.size+1,0,none⟩=some (.bool n2)∧w'.cell? ⟨w.heap.size+1,1,none⟩=some (.slice Aa2 p2.length ca2)∧w'.cell? ⟨w.heap.size+1,2,none⟩=some (.slice Ab2 q2.length cb2))∧Below w.heap.size w w'):=⟨fun W hb=>⟨⟨(zai (zal HX1.out hb) 0).trans rfl,(zai (zal HX1.out hb) 1).trans rfl,(zai (zal HX1.out hb) 2).trans rfl,(zai (zal HX2.out hb) 0).trans rfl,(zai (zal HX2.out hb) 1).trans rfl,(zai (zal HX2.out hb) 2).trans rfl⟩,zag HB2.out hb⟩⟩
   refine start_ (n:=11) (S:=fun w'=>(w'.cell? ⟨w.heap.size,0,none⟩=some (.bool n1)∧w'.cell? ⟨w.heap.size,1,none⟩=some (.slice Aa1 p1.length ca1)∧w'.cell? ⟨w.heap.size,2,none⟩=some (.slice Ab1 q1.length cb1)∧w'.cell? ⟨w.heap.size+1,0,none⟩=some (.bool n2)∧w'.cell? ⟨w.heap.size+1,1,none⟩=some (.slice Aa2 p2.length ca2)∧w'.cell? ⟨w.heap.size+1,2,none⟩=some (.slice Ab2 q2.length cb2))) (ds:=[9]) #[false,false,false,false,false,false,false,false,false,false,false] (by kernel_rfl) rfl rfl ((HF.out _ (zac (Below.refl _ _))).1) (fun hHeld=>?_)
   have hb0:=Aside0.mk (show Below W2.heap.size W2 W2.drew from zac (Below.refl _ _))
   generalize W2.drew=V0 at hb0 hHeld ⊢
   refine with_tabW ratQuotients.tab3 ratQuotients.bits3 (fun HT_ HW_=>?_)
   refine take_ (i:=0) (N:=some 22) (v:=?_) (a':=?_) #[true,false,false,false,false,false,false,false,false,false,false] rfl rfl (zaQ HT_.out HW_.out (by kernel_rfl)) (fun _ _ _ h=>h) (Or.inl ⟨by rfl,?_⟩) hHeld ?_ ?_
   rotate_left
   ·
    intro w' s0
    go_simp
    with_reducible rfl
   rotate_left
   ·
    simp only [Act.put,List.setIfInBounds_toArray,List.set_cons_zero,List.set_cons_succ,zaq,zar]
    rfl
   refine take_ (i:=2) (N:=some 24) (v:=?_) (a':=?_) #[true,false,true,false,false,false,false,false,false,false,false] rfl rfl (zaQ HT_.out HW_.out (by kernel_rfl)) (fun _ _ _ h=>h) (Or.inl ⟨by rfl,?_⟩) hHeld ?_ ?_
   rotate_left
   ·
    intro w' s0
    go_simp
    with_reducible rfl
   rotate_left
   ·
    simp only [Act.put,List.setIfInBounds_toArray,List.set_cons_zero,List.set_cons_succ,zaq,zar]
    rfl
   refine join_ (σ:=Value×Value×Option Addr×Nat×Option Addr×Nat×Nat) 2 #[true,true,true,true,true,true,true,true,true,false,false] (fun s=>[(23,s.1),(25,s.2.1),(26,.tuple #[.agg #[.bool Q.1,.slice s.2.2.1 (dg B32 Q.2.1).length s.2.2.2.1,.slice s.2.2.2.2.1 (dg B32 Q.2.2).length s.2.2.2.2.2.1],.int .i64 0]),(21,.tuple #[.agg #[.bool Q.1,.slice s.2.2.1 (dg B32 Q.2.1).length s.2.2.2.1,.slice s.2.2.2.2.1 (dg B32 Q.2.2).length s.2.2.2.2.2.1],.int .i64 0]),(27,.agg #[.bool Q.1,.slice s.2.2.1 (dg B32 Q.2.1).length s.2.2.2.1,.slice s.2.2.2.2.1 (dg B32 Q.2.2).length s.2.2.2.2.2.1]),(28,.int .i64 0),(5,.pointer (some ⟨s.2.2.2.2.2.2,0,none⟩))]) (fun s w'=>(w'.cell? ⟨w.heap.size,0,none⟩=some (.bool n1)∧w'.cell? ⟨w.heap.size,1,none⟩=some (.slice Aa1 p1.length ca1)∧w'.cell? ⟨w.heap.size,2,none⟩=some (.slice Ab1 q1.length cb1)∧w'.cell? ⟨w.heap.size+1,0,none⟩=some (.bool n2)∧w'.cell? ⟨w.heap.size+1,1,none⟩=some (.slice Aa2 p2.length ca2)∧w'.cell? ⟨w.heap.size+1,2,none⟩=some (.slice Ab2 q2.length cb2))∧(NR w' s.1 X1)∧(NR w' s.2.1 X2)∧(RT w' w.heap.size (.agg #[.bool Q.1,.slice s.2.2.1 (dg B32 Q.2.1).length s.2.2.2.1,.slice s.2.2.2.2.1 (dg B32 Q.2.2).length s.2.2.2.2.2.1]) Q)∧(w'.heap[s.2.2.2.2.2.2]? = some (.cells #[.bool false,.slice none 0 0,.slice none 0 0] 25 (0,0))∧W2.heap.size≤s.2.2.2.2.2.2)∧Below W2.heap.size W2 w') ?_ ?_
   rotate_left
   ·
    intro hJ1_3_4_8
    refine join_ (σ:=Value×Value×Option Addr×Nat×Option Addr×Nat) 3 #[true,true,true,true,true,true,true,true,false,false,false] (fun s=>[(23,s.1),(25,s.2.1),(26,.tuple #[.agg #[.bool Q.1,.slice s.2.2.1 (dg B32 Q.2.1).length s.2.2.2.1,.slice s.2.2.2.2.1 (dg B32 Q.2.2).length s.2.2.2.2.2],.int .i64 0]),(21,.tuple #[.agg #[.bool Q.1,.slice s.2.2.1 (dg B32 Q.2.1).length s.2.2.2.1,.slice s.2.2.2.2.1 (dg B32 Q.2.2).length s.2.2.2.2.2],.int .i64 0]),(27,.agg #[.bool Q.1,.slice s.2.2.1 (dg B32 Q.2.1).length s.2.2.2.1,.slice s.2.2.2.2.1 (dg B32 Q.2.2).length s.2.2.2.2.2]),(28,.int .i64 0)]) (fun s w'=>(w'.cell? ⟨w.heap.size,0,none⟩=some (.bool n1)∧w'.cell? ⟨w.heap.size,1,none⟩=some (.slice Aa1 p1.length ca1)∧w'.cell? ⟨w.heap.size,2,none⟩=some (.slice Ab1 q1.length cb1)∧w'.cell? ⟨w.heap.size+1,0,none⟩=some (.bool n2)∧w'.cell? ⟨w.heap.size+1,1,none⟩=some (.slice Aa2 p2.length ca2)∧w'.cell? ⟨w.heap.size+1,2,none⟩=some (.slice Ab2 q2.length cb2))∧(NR w' s.1 X1)∧(NR w' s.2.1 X2)∧(RT w' w.heap.size (.agg #[.bool Q.1,.slice s.2.2.1 (dg B32 Q.2.1).length s.2.2.2.1,.slice s.2.2.2.2.1 (dg B32 Q.2.2).length s.2.2.2.2.2]) Q)∧Below W2.heap.size W2 w') ?_ ?_
    rotate_left
    ·
     intro hJ1_3_4
     refine join_ (σ:=Value×Value×Nat) 6 #[true,true,true,true,false,false,false,false,true,false,false] (fun s=>[(23,s.1),(25,s.2.1),(5,.pointer (some ⟨s.2.2,0,none⟩))]) (fun s w'=>(w'.cell? ⟨w.heap.size,0,none⟩=some (.bool n1)∧w'.cell? ⟨w.heap.size,1,none⟩=some (.slice Aa1 p1.length ca1)∧w'.cell? ⟨w.heap.size,2,none⟩=some (.slice Ab1 q1.length cb1)∧w'.cell? ⟨w.heap.size+1,0,none⟩=some (.bool n2)∧w'.cell? ⟨w.heap.size+1,1,none⟩=some (.slice Aa2 p2.length ca2)∧w'.cell? ⟨w.heap.size+1,2,none⟩=some (.slice Ab2 q2.length cb2))∧(NR w' s.1 X1)∧(NR w' s.2.1 X2)∧(w'.heap[s.2.2]? = some (.cells #[.bool false,.slice none 0 0,.slice none 0 0] 25 (0,0))∧W2.heap.size≤s.2.2)∧Below W2.heap.size W2 w') ?_ ?_
     rotate_left
     ·
      intro hJ1_3_8
      refine join_ (σ:=Value×Value) 7 #[true,true,true,true,false,false,false,false,false,false,false] (fun s=>[(23,s.1),(25,s.2)]) (fun s w'=>(w'.cell? ⟨w.heap.size,0,none⟩=some (.bool n1)∧w'.cell? ⟨w.heap.size,1,none⟩=some (.slice Aa1 p1.length ca1)∧w'.cell? ⟨w.heap.size,2,none⟩=some (.slice Ab1 q1.length cb1)∧w'.cell? ⟨w.heap.size+1,0,none⟩=some (.bool n2)∧w'.cell? ⟨w.heap.size+1,1,none⟩=some (.slice Aa2 p2.length ca2)∧w'.cell? ⟨w.heap.size+1,2,none⟩=some (.slice Ab2 q2.length cb2))∧(NR w' s.1 X1)∧(NR w' s.2 X2)∧Below W2.heap.size W2 w') ?_ ?_
      rotate_left
      ·
       intro hJ1_3
       refine join_ (σ:=Value×Nat) 7 #[true,true,true,false,false,false,false,false,true,false,false] (fun s=>[(23,s.1),(5,.pointer (some ⟨s.2,0,none⟩))]) (fun s w'=>(w'.cell? ⟨w.heap.size,0,none⟩=some (.bool n1)∧w'.cell? ⟨w.heap.size,1,none⟩=some (.slice Aa1 p1.length ca1)∧w'.cell? ⟨w.heap.size,2,none⟩=some (.slice Ab1 q1.length cb1)∧w'.cell? ⟨w.heap.size+1,0,none⟩=some (.bool n2)∧w'.cell? ⟨w.heap.size+1,1,none⟩=some (.slice Aa2 p2.length ca2)∧w'.cell? ⟨w.heap.size+1,2,none⟩=some (.slice Ab2 q2.length cb2))∧(NR w' s.1 X1)∧(w'.heap[s.2]? = some (.cells #[.bool false,.slice none 0 0,.slice none 0 0] 25 (0,0))∧W2.heap.size≤s.2)∧Below W2.heap.size W2 w') ?_ ?_
       rotate_left
       ·
        intro hJ1_8
        refine join_ (σ:=Value) 8 #[true,true,true,false,false,false,false,false,false,false,false] (fun s=>[(23,s)]) (fun s w'=>(w'.cell? ⟨w.heap.size,0,none⟩=some (.bool n1)∧w'.cell? ⟨w.heap.size,1,none⟩=some (.slice Aa1 p1.length ca1)∧w'.cell? ⟨w.heap.size,2,none⟩=some (.slice Ab1 q1.length cb1)∧w'.cell? ⟨w.heap.size+1,0,none⟩=some (.bool n2)∧w'.cell? ⟨w.heap.size+1,1,none⟩=some (.slice Aa2 p2.length ca2)∧w'.cell? ⟨w.heap.size+1,2,none⟩=some (.slice Ab2 q2.length cb2))∧(NR w' s X1)∧Below W2.heap.size W2 w') ?_ ?_
        rotate_left
        ·
         intro hJ1
         refine join_ (σ:=Nat) 8 #[true,false,true,false,false,false,false,false,true,false,false] (fun s=>[(5,.pointer (some ⟨s,0,none⟩))]) (fun s w'=>(w'.cell? ⟨w.heap.size,0,none⟩=some (.bool n1)∧w'.cell? ⟨w.heap.size,1,none⟩=some (.slice Aa1 p1.length ca1)∧w'.cell? ⟨w.heap.size,2,none⟩=some (.slice Ab1 q1.length cb1)∧w'.cell? ⟨w.heap.size+1,0,none⟩=some (.bool n2)∧w'.cell? ⟨w.heap.size+1,1,none⟩=some (.slice Aa2 p2.length ca2)∧w'.cell? ⟨w.heap.size+1,2,none⟩=some (.slice Ab2 q2.length cb2))∧(w'.heap[s]? = some (.cells #[.bool false,.slice none 0 0,.slice none 0 0] 25 (0,0))∧W2.heap.size≤s)∧Below W2.heap.size W2 w') ?_ ?_
         rotate_left
         ·
          intro hJ8
          refine two_ (i:=1) (j:=8) (Ni:=some 23) (Nj:=some 5) #[true,true,true,false,false,false,false,false,false,false,false] #[true,false,true,false,false,false,false,false,true,false,false] rfl rfl rfl rfl (two_of HT_.out (by kernel_rfl)) (by decide) (by decide) (fun K hK=>?_) (fun K hK=>?_)
          ·
           skip
           refine za7 Try.func17 (by kernel_rfl) rfl #[.agg #[.bool n1,.slice Aa1 p1.length ca1,.slice Ab1 q1.length cb1]] (by rfl) rfl rfl (by (try simp only [List.map_toArray,List.map_cons,List.map_nil]); first | done | rfl) ?_
           refine(ownR_n (HP1.out V0 (HF.out _ hb0.out).2)).mono ?_
           rintro e Vn ⟨o1,rfl,new,hB⟩
           refine⟨_,rfl,?_⟩
           have hbn:=Aside0.mk (zag hb0.out hB)
           refine hK.out _ _ ((HF.out _ hbn.out).1) (fun hHeld=>?_)
           clear hK K
           refine zaS (a':=?_) ?_ ?_
           rotate_left
           ·
            show Act.put _ (some 23) _=_
            simp only [Act.put,List.setIfInBounds_toArray,List.set_cons_zero,List.set_cons_succ,zaq,zar]
            rfl
           exact zaS (by first | (simp only [putAll,Act.put,List.setIfInBounds_toArray,List.set_cons_zero,List.set_cons_succ]; done) | (simp only [putAll,Act.put,List.setIfInBounds_toArray,List.set_cons_zero,List.set_cons_succ]; rfl)) (hJ1 (o1) _ ⟨(HF.out _ hbn.out).1,new,hbn.out⟩)
          ·
           skip
           refine value_ (w1:=?_) (v:=?_) (by rfl) rfl ?_ ?_
           rotate_left 2
           ·
            go_simp
            constructor
            ·
             rfl
            ·
             rfl
           have hB:Below V0.heap.size V0 (V0.alloc (.cells #[.bool false,.slice none 0 0,.slice none 0 0] 25 (0,0))):=zab (Below.refl _ _) _
           have hN:=zbp V0 (.cells #[.bool false,.slice none 0 0,.slice none 0 0] 25 (0,0))
           have hbn:=Aside0.mk (zag hb0.out hB)
           refine hK.out _ _ ((HF.out _ hbn.out).1) (fun hHeld=>?_)
           clear hK K
           refine zaS (a':=?_) ?_ ?_
           rotate_left
           ·
            show Act.put _ (some 5) _=_
            simp only [Act.put,List.setIfInBounds_toArray,List.set_cons_zero,List.set_cons_succ,zaq,zar]
            rfl
           exact zaS (by first | (simp only [putAll,Act.put,List.setIfInBounds_toArray,List.set_cons_zero,List.set_cons_succ]; done) | (simp only [putAll,Act.put,List.setIfInBounds_toArray,List.set_cons_zero,List.set_cons_succ]; rfl)) (hJ8 (V0.heap.size) _ ⟨(HF.out _ hbn.out).1,⟨hN,hb0.out.size⟩,hbn.out⟩)
         ·
          skip
          rintro g8 V ⟨hHeld,kK8,hb⟩
          have K8:=Aside0.mk kK8
          have hbv:=Aside0.mk hb
          clear hb kK8
          refine zaS (a':=?_) ?_ ?_
          rotate_left
          ·
           simp only [putAll,Act.put,List.setIfInBounds_toArray,List.set_cons_zero,List.set_cons_succ]
           rfl
          refine one_ (i:=1) (N:=some 23) #[true,true,true,false,false,false,false,false,true,false,false] rfl rfl (zaO HT_.out (by kernel_rfl)) (by decide) (fun K hK=>?_)
          refine za7 Try.func17 (by kernel_rfl) rfl #[.agg #[.bool n1,.slice Aa1 p1.length ca1,.slice Ab1 q1.length cb1]] (by rfl) rfl rfl (by (try simp only [List.map_toArray,List.map_cons,List.map_nil]); first | done | rfl) ?_
          refine(ownR_n (HP1.out V (HF.out _ hbv.out).2)).mono ?_
          rintro e Vn ⟨o1,rfl,new,hB⟩
          refine⟨_,rfl,?_⟩
          have hbn:=Aside0.mk (zag hbv.out hB)
          refine hK.out _ _ ((HF.out _ hbn.out).1) (fun hHeld=>?_)
          clear hK K
          refine zaS (a':=?_) ?_ ?_
          rotate_left
          ·
           show Act.put _ (some 23) _=_
           simp only [Act.put,List.setIfInBounds_toArray,List.set_cons_zero,List.set_cons_succ,zaq,zar]
           rfl
          exact zaS (by first | (simp only [putAll,Act.put,List.setIfInBounds_toArray,List.set_cons_zero,List.set_cons_succ]; done) | (simp only [putAll,Act.put,List.setIfInBounds_toArray,List.set_cons_zero,List.set_cons_succ]; rfl)) (hJ1_8 (o1,g8) _ ⟨(HF.out _ hbn.out).1,new,⟨zal K8.out.1 hB,K8.out.2⟩,hbn.out⟩)
        ·
         skip
         rintro o1 V ⟨hHeld,kK1,hb⟩
         have K1:=Aside0.mk kK1
         have hbv:=Aside0.mk hb
         clear hb kK1
         refine zaS (a':=?_) ?_ ?_
         rotate_left
         ·
          simp only [putAll,Act.put,List.setIfInBounds_toArray,List.set_cons_zero,List.set_cons_succ]
          rfl
         refine two_ (i:=3) (j:=8) (Ni:=some 25) (Nj:=some 5) #[true,true,true,true,false,false,false,false,false,false,false] #[true,true,true,false,false,false,false,false,true,false,false] rfl rfl rfl rfl (two_of HT_.out (by kernel_rfl)) (by decide) (by decide) (fun K hK=>?_) (fun K hK=>?_)
         ·
          skip
          refine za7 Try.func17 (by kernel_rfl) rfl #[.agg #[.bool n2,.slice Aa2 p2.length ca2,.slice Ab2 q2.length cb2]] (by rfl) rfl rfl (by (try simp only [List.map_toArray,List.map_cons,List.map_nil]); first | done | rfl) ?_
          refine(ownR_n (HP2.out V (HF.out _ hbv.out).2)).mono ?_
          rintro e Vn ⟨o3,rfl,new,hB⟩
          refine⟨_,rfl,?_⟩
          have hbn:=Aside0.mk (zag hbv.out hB)
          refine hK.out _ _ ((HF.out _ hbn.out).1) (fun hHeld=>?_)
          clear hK K
          refine zaS (a':=?_) ?_ ?_
          rotate_left
          ·
           show Act.put _ (some 25) _=_
           simp only [Act.put,List.setIfInBounds_toArray,List.set_cons_zero,List.set_cons_succ,zaq,zar]
           rfl
          exact zaS (by first | (simp only [putAll,Act.put,List.setIfInBounds_toArray,List.set_cons_zero,List.set_cons_succ]; done) | (simp only [putAll,Act.put,List.setIfInBounds_toArray,List.set_cons_zero,List.set_cons_succ]; rfl)) (hJ1_3 (o1,o3) _ ⟨(HF.out _ hbn.out).1,K1.out.below hB,new,hbn.out⟩)
         ·
          skip
          refine value_ (w1:=?_) (v:=?_) (by rfl) rfl ?_ ?_
          rotate_left 2
          ·
           go_simp
           constructor
           ·
            rfl
           ·
            rfl
          have hB:Below V.heap.size V (V.alloc (.cells #[.bool false,.slice none 0 0,.slice none 0 0] 25 (0,0))):=zab (Below.refl _ _) _
          have hN:=zbp V (.cells #[.bool false,.slice none 0 0,.slice none 0 0] 25 (0,0))
          have hbn:=Aside0.mk (zag hbv.out hB)
          refine hK.out _ _ ((HF.out _ hbn.out).1) (fun hHeld=>?_)
          clear hK K
          refine zaS (a':=?_) ?_ ?_
          rotate_left
          ·
           show Act.put _ (some 5) _=_
           simp only [Act.put,List.setIfInBounds_toArray,List.set_cons_zero,List.set_cons_succ,zaq,zar]
           rfl
          exact zaS (by first | (simp only [putAll,Act.put,List.setIfInBounds_toArray,List.set_cons_zero,List.set_cons_succ]; done) | (simp only [putAll,Act.put,List.setIfInBounds_toArray,List.set_cons_zero,List.set_cons_succ]; rfl)) (hJ1_8 (o1,V.heap.size) _ ⟨(HF.out _ hbn.out).1,K1.out.below hB,⟨hN,hbv.out.size⟩,hbn.out⟩)
       ·
        skip
        rintro⟨o1,g8⟩ V ⟨hHeld,kK1,kK8,hb⟩
        have K1:=Aside0.mk kK1
        have K8:=Aside0.mk kK8
        have hbv:=Aside0.mk hb
        clear hb kK1 kK8
        refine zaS (a':=?_) ?_ ?_
        rotate_left
        ·
         simp only [putAll,Act.put,List.setIfInBounds_toArray,List.set_cons_zero,List.set_cons_succ]
         rfl
        refine one_ (i:=3) (N:=some 25) #[true,true,true,true,false,false,false,false,true,false,false] rfl rfl (zaO HT_.out (by kernel_rfl)) (by decide) (fun K hK=>?_)
        refine za7 Try.func17 (by kernel_rfl) rfl #[.agg #[.bool n2,.slice Aa2 p2.length ca2,.slice Ab2 q2.length cb2]] (by rfl) rfl rfl (by (try simp only [List.map_toArray,List.map_cons,List.map_nil]); first | done | rfl) ?_
        refine(ownR_n (HP2.out V (HF.out _ hbv.out).2)).mono ?_
        rintro e Vn ⟨o3,rfl,new,hB⟩
        refine⟨_,rfl,?_⟩
        have hbn:=Aside0.mk (zag hbv.out hB)
        refine hK.out _ _ ((HF.out _ hbn.out).1) (fun hHeld=>?_)
        clear hK K
        refine zaS (a':=?_) ?_ ?_
        rotate_left
        ·
         show Act.put _ (some 25) _=_
         simp only [Act.put,List.setIfInBounds_toArray,List.set_cons_zero,List.set_cons_succ,zaq,zar]
         rfl
        exact zaS (by first | (simp only [putAll,Act.put,List.setIfInBounds_toArray,List.set_cons_zero,List.set_cons_succ]; done) | (simp only [putAll,Act.put,List.setIfInBounds_toArray,List.set_cons_zero,List.set_cons_succ]; rfl)) (hJ1_3_8 (o1,o3,g8) _ ⟨(HF.out _ hbn.out).1,K1.out.below hB,new,⟨zal K8.out.1 hB,K8.out.2⟩,hbn.out⟩)
      ·
       skip
       rintro⟨o1,o3⟩ V ⟨hHeld,kK1,kK3,hb⟩
       have K1:=Aside0.mk kK1
       have K3:=Aside0.mk kK3
       have hbv:=Aside0.mk hb
       clear hb kK1 kK3
       refine zaS (a':=?_) ?_ ?_
       rotate_left
       ·
        simp only [putAll,Act.put,List.setIfInBounds_toArray,List.set_cons_zero,List.set_cons_succ]
        rfl
       refine two_ (i:=4) (j:=8) (Ni:=some 26) (Nj:=some 5) #[true,true,true,true,true,false,false,false,false,false,false] #[true,true,true,true,false,false,false,false,true,false,false] rfl rfl rfl rfl (two_of HT_.out (by kernel_rfl)) (by decide) (by decide) (fun K hK=>?_) (fun K hK=>?_)
       ·
        skip
        refine za7 Try.func38 (by kernel_rfl) rfl #[o1,o3] (by rfl) rfl rfl (by (try simp only [List.map_toArray,List.map_cons,List.map_nil]); first | done | rfl) ?_
        refine(HDV.out V _ _ K1.out K3.out).mono ?_
        rintro e Vn ⟨A4,c4,B4,d4,rfl,hR,hB⟩
        refine⟨_,rfl,?_⟩
        have new:=hR.lower (HF.out _ hbv.out).2.size
        have hbn:=Aside0.mk (zag hbv.out hB)
        refine hK.out _ _ ((HF.out _ hbn.out).1) (fun hHeld=>?_)
        clear hK K
        refine zaS (a':=?_) ?_ ?_
        rotate_left
        ·
         show Act.put _ (some 26) _=_
         simp only [Act.put,List.setIfInBounds_toArray,List.set_cons_zero,List.set_cons_succ,zaq,zar]
         rfl
        refine zaA (i:=5) (N:=some 21) (v:=?_) (a':=?_) #[true,true,true,true,true,true,false,false,false,false,false] rfl rfl (zay HT_.out (by kernel_rfl)) (fun _ _ _ h=>h) (Or.inl ⟨by rfl,?_⟩) ?_ ?_
        rotate_left
        ·
         intro w'
         go_simp
         with_reducible rfl
        rotate_left
        ·
         simp only [Act.put,List.setIfInBounds_toArray,List.set_cons_zero,List.set_cons_succ,zaq,zar]
         rfl
        refine zaA (i:=6) (N:=some 27) (v:=?_) (a':=?_) #[true,true,true,true,true,true,true,false,false,false,false] rfl rfl (zay HT_.out (by kernel_rfl)) (fun _ _ _ h=>h) (Or.inl ⟨by rfl,?_⟩) ?_ ?_
        rotate_left
        ·
         intro w'
         go_simp
         with_reducible rfl
        rotate_left
        ·
         simp only [Act.put,List.setIfInBounds_toArray,List.set_cons_zero,List.set_cons_succ,zaq,zar]
         rfl
        refine zaA (i:=7) (N:=some 28) (v:=?_) (a':=?_) #[true,true,true,true,true,true,true,true,false,false,false] rfl rfl (zay HT_.out (by kernel_rfl)) (fun _ _ _ h=>h) (Or.inl ⟨by rfl,?_⟩) ?_ ?_
        rotate_left
        ·
         intro w'
         go_simp
         with_reducible rfl
        rotate_left
        ·
         simp only [Act.put,List.setIfInBounds_toArray,List.set_cons_zero,List.set_cons_succ,zaq,zar]
         rfl
        exact zaS (by first | (simp only [putAll,Act.put,List.setIfInBounds_toArray,List.set_cons_zero,List.set_cons_succ]; done) | (simp only [putAll,Act.put,List.setIfInBounds_toArray,List.set_cons_zero,List.set_cons_succ]; rfl)) (hJ1_3_4 (o1,o3,A4,c4,B4,d4) _ ⟨(HF.out _ hbn.out).1,K1.out.below hB,K3.out.below hB,new,hbn.out⟩)
       ·
        skip
        refine value_ (w1:=?_) (v:=?_) (by rfl) rfl ?_ ?_
        rotate_left 2
        ·
         go_simp
         constructor
         ·
          rfl
         ·
          rfl
        have hB:Below V.heap.size V (V.alloc (.cells #[.bool false,.slice none 0 0,.slice none 0 0] 25 (0,0))):=zab (Below.refl _ _) _
        have hN:=zbp V (.cells #[.bool false,.slice none 0 0,.slice none 0 0] 25 (0,0))
        have hbn:=Aside0.mk (zag hbv.out hB)
        refine hK.out _ _ ((HF.out _ hbn.out).1) (fun hHeld=>?_)
        clear hK K
        refine zaS (a':=?_) ?_ ?_
        rotate_left
        ·
         show Act.put _ (some 5) _=_
         simp only [Act.put,List.setIfInBounds_toArray,List.set_cons_zero,List.set_cons_succ,zaq,zar]
         rfl
        exact zaS (by first | (simp only [putAll,Act.put,List.setIfInBounds_toArray,List.set_cons_zero,List.set_cons_succ]; done) | (simp only [putAll,Act.put,List.setIfInBounds_toArray,List.set_cons_zero,List.set_cons_succ]; rfl)) (hJ1_3_8 (o1,o3,V.heap.size) _ ⟨(HF.out _ hbn.out).1,K1.out.below hB,K3.out.below hB,⟨hN,hbv.out.size⟩,hbn.out⟩)
     ·
      skip
      rintro⟨o1,o3,g8⟩ V ⟨hHeld,kK1,kK3,kK8,hb⟩
      have K1:=Aside0.mk kK1
      have K3:=Aside0.mk kK3
      have K8:=Aside0.mk kK8
      have hbv:=Aside0.mk hb
      clear hb kK1 kK3 kK8
      refine zaS (a':=?_) ?_ ?_
      rotate_left
      ·
       simp only [putAll,Act.put,List.setIfInBounds_toArray,List.set_cons_zero,List.set_cons_succ]
       rfl
      refine one_ (i:=4) (N:=some 26) #[true,true,true,true,true,false,false,false,true,false,false] rfl rfl (zaO HT_.out (by kernel_rfl)) (by decide) (fun K hK=>?_)
      refine za7 Try.func38 (by kernel_rfl) rfl #[o1,o3] (by rfl) rfl rfl (by (try simp only [List.map_toArray,List.map_cons,List.map_nil]); first | done | rfl) ?_
      refine(HDV.out V _ _ K1.out K3.out).mono ?_
      rintro e Vn ⟨A4,c4,B4,d4,rfl,hR,hB⟩
      refine⟨_,rfl,?_⟩
      have new:=hR.lower (HF.out _ hbv.out).2.size
      have hbn:=Aside0.mk (zag hbv.out hB)
      refine hK.out _ _ ((HF.out _ hbn.out).1) (fun hHeld=>?_)
      clear hK K
      refine zaS (a':=?_) ?_ ?_
      rotate_left
      ·
       show Act.put _ (some 26) _=_
       simp only [Act.put,List.setIfInBounds_toArray,List.set_cons_zero,List.set_cons_succ,zaq,zar]
       rfl
      refine zaA (i:=5) (N:=some 21) (v:=?_) (a':=?_) #[true,true,true,true,true,true,false,false,true,false,false] rfl rfl (zay HT_.out (by kernel_rfl)) (fun _ _ _ h=>h) (Or.inl ⟨by rfl,?_⟩) ?_ ?_
      rotate_left
      ·
       intro w'
       go_simp
       with_reducible rfl
      rotate_left
      ·
       simp only [Act.put,List.setIfInBounds_toArray,List.set_cons_zero,List.set_cons_succ,zaq,zar]
       rfl
      refine zaA (i:=6) (N:=some 27) (v:=?_) (a':=?_) #[true,true,true,true,true,true,true,false,true,false,false] rfl rfl (zay HT_.out (by kernel_rfl)) (fun _ _ _ h=>h) (Or.inl ⟨by rfl,?_⟩) ?_ ?_
      rotate_left
      ·
       intro w'
       go_simp
       with_reducible rfl
      rotate_left
      ·
       simp only [Act.put,List.setIfInBounds_toArray,List.set_cons_zero,List.set_cons_succ,zaq,zar]
       rfl
      refine zaA (i:=7) (N:=some 28) (v:=?_) (a':=?_) #[true,true,true,true,true,true,true,true,true,false,false] rfl rfl (zay HT_.out (by kernel_rfl)) (fun _ _ _ h=>h) (Or.inl ⟨by rfl,?_⟩) ?_ ?_
      rotate_left
      ·
       intro w'
       go_simp
       with_reducible rfl
      rotate_left
      ·
       simp only [Act.put,List.setIfInBounds_toArray,List.set_cons_zero,List.set_cons_succ,zaq,zar]
       rfl
      exact zaS (by first | (simp only [putAll,Act.put,List.setIfInBounds_toArray,List.set_cons_zero,List.set_cons_succ]; done) | (simp only [putAll,Act.put,List.setIfInBounds_toArray,List.set_cons_zero,List.set_cons_succ]; rfl)) (hJ1_3_4_8 (o1,o3,A4,c4,B4,d4,g8) _ ⟨(HF.out _ hbn.out).1,K1.out.below hB,K3.out.below hB,new,⟨zal K8.out.1 hB,K8.out.2⟩,hbn.out⟩)
    ·
     skip
     rintro⟨o1,o3,A4,c4,B4,d4⟩ V ⟨hHeld,kK1,kK3,kK4,hb⟩
     have K1:=Aside0.mk kK1
     have K3:=Aside0.mk kK3
     have K4:=Aside0.mk kK4
     have hbv:=Aside0.mk hb
     clear hb kK1 kK3 kK4
     refine zaS (a':=?_) ?_ ?_
     rotate_left
     ·
      simp only [putAll,Act.put,List.setIfInBounds_toArray,List.set_cons_zero,List.set_cons_succ]
      rfl
     refine one_ (i:=8) (N:=some 5) #[true,true,true,true,true,true,true,true,true,false,false] rfl rfl (zaO HT_.out (by kernel_rfl)) (by decide) (fun K hK=>?_)
     refine value_ (w1:=?_) (v:=?_) (by rfl) rfl ?_ ?_
     rotate_left 2
     ·
      go_simp
      constructor
      ·
       rfl
      ·
       rfl
     have hB:Below V.heap.size V (V.alloc (.cells #[.bool false,.slice none 0 0,.slice none 0 0] 25 (0,0))):=zab (Below.refl _ _) _
     have hN:=zbp V (.cells #[.bool false,.slice none 0 0,.slice none 0 0] 25 (0,0))
     have hbn:=Aside0.mk (zag hbv.out hB)
     refine hK.out _ _ ((HF.out _ hbn.out).1) (fun hHeld=>?_)
     clear hK K
     refine zaS (a':=?_) ?_ ?_
     rotate_left
     ·
      show Act.put _ (some 5) _=_
      simp only [Act.put,List.setIfInBounds_toArray,List.set_cons_zero,List.set_cons_succ,zaq,zar]
      rfl
     exact zaS (by first | (simp only [putAll,Act.put,List.setIfInBounds_toArray,List.set_cons_zero,List.set_cons_succ]; done) | (simp only [putAll,Act.put,List.setIfInBounds_toArray,List.set_cons_zero,List.set_cons_succ]; rfl)) (hJ1_3_4_8 (o1,o3,A4,c4,B4,d4,V.heap.size) _ ⟨(HF.out _ hbn.out).1,K1.out.below hB,K3.out.below hB,K4.out.below hB,⟨hN,hbv.out.size⟩,hbn.out⟩)
   rintro⟨o1,o3,A4,c4,B4,d4,g8⟩ V ⟨hHeld,kK1,kK3,kK4,kK8,hb⟩
   have K1:=Aside0.mk kK1
   have K3:=Aside0.mk kK3
   have K4:=Aside0.mk kK4
   have K8:=Aside0.mk kK8
   have hbv:=Aside0.mk hb
   clear hb kK1 kK3 kK4 kK8
   refine zaS (a':=?_) ?_ ?_
   rotate_left
   ·
    simp only [putAll,Act.put,List.setIfInBounds_toArray,List.set_cons_zero,List.set_cons_succ]
    rfl
   refine last_ (i:=9) (N:=none) #[true,true,true,true,true,true,true,true,true,true,false] rfl rfl (zaO HT_.out (by kernel_rfl)) (by decide) (fun K hK=>?_)
   obtain⟨⟨z0,z1,z2⟩,z3,z4,z5⟩:=zat K8.out.1
   refine skip_ (w1:=?_) (by rfl) rfl ?_ ?_
   rotate_left
   ·
    go_simp
    rfl
   refine hK.out _ _ ?_
   clear hK K
   refine zaA (i:=10) (N:=some 6) (v:=?_) (a':=?_) #[true,true,true,true,true,true,true,true,true,true,true] rfl rfl (zay HT_.out (by kernel_rfl)) (fun _ _ _ h=>h) (Or.inl ⟨by rfl,?_⟩) ?_ ?_
   rotate_left
   ·
    intro w'
    go_simp
    with_reducible rfl
   rotate_left
   ·
    simp only [Act.put,List.setIfInBounds_toArray,List.set_cons_zero,List.set_cons_succ,zaq,zar]
    rfl
   refine done_ (done_of HT_.out (by kernel_rfl)) ?_
   clear hHeld z0 z1 z2 z3 z4 z5
   rw [store3_eq]
   have hg8:=zaK (K8.out.1) (.bool Q.1) (.slice A4 (dg B32 Q.2.1).length c4) (.slice B4 (dg B32 Q.2.2).length d4)
   have hq4:=(K4.out.store3 K8.out.1 (.bool Q.1) (.slice A4 (dg B32 Q.2.1).length c4) (.slice B4 (dg B32 Q.2.2).length d4))
   have hb8:Below W2.heap.size W2 (store3 V g8 (.bool Q.1) (.slice A4 (dg B32 Q.2.1).length c4) (.slice B4 (dg B32 Q.2.2).length d4)):=zaL (hbv.out) K8.out.2 (.bool Q.1) (.slice A4 (dg B32 Q.2.1).length c4) (.slice B4 (dg B32 Q.2.2).length d4)
   generalize store3 V g8 (.bool Q.1) (.slice A4 (dg B32 Q.2.1).length c4) (.slice B4 (dg B32 Q.2.2).length d4)=W8 at hg8 hq4 hb8 ⊢
   clear hbv K1 K3 K4 K8
   have HG:Aside0 (∀ w':World,Below W8.heap.size W8 w'→(w'.cell? ⟨w.heap.size,0,none⟩=some (.bool n1)∧w'.cell? ⟨w.heap.size,1,none⟩=some (.slice Aa1 p1.length ca1)∧w'.cell? ⟨w.heap.size,2,none⟩=some (.slice Ab1 q1.length cb1)∧w'.cell? ⟨w.heap.size+1,0,none⟩=some (.bool n2)∧w'.cell? ⟨w.heap.size+1,1,none⟩=some (.slice Aa2 p2.length ca2)∧w'.cell? ⟨w.heap.size+1,2,none⟩=some (.slice Ab2 q2.length cb2)∧w'.cell? ⟨g8,0,none⟩=some (.bool Q.1)∧w'.cell? ⟨g8,1,none⟩=some (.slice A4 (dg B32 Q.2.1).length c4)∧w'.cell? ⟨g8,2,none⟩=some (.slice B4 (dg B32 Q.2.2).length d4))∧RT w' w.heap.size (.agg #[.bool Q.1,.slice A4 (dg B32 Q.2.1).length c4,.slice B4 (dg B32 Q.2.2).length d4]) Q∧Below w.heap.size w w'):=⟨fun W hb=>⟨⟨(zai (zal (zal HX1.out hb8) hb) 0).trans rfl,(zai (zal (zal HX1.out hb8) hb) 1).trans rfl,(zai (zal (zal HX1.out hb8) hb) 2).trans rfl,(zai (zal (zal HX2.out hb8) hb) 0).trans rfl,(zai (zal (zal HX2.out hb8) hb) 1).trans rfl,(zai (zal (zal HX2.out hb8) hb) 2).trans rfl,(zai (zal hg8 hb) 0).trans rfl,(zai (zal hg8 hb) 1).trans rfl,(zai (zal hg8 hb) 2).trans rfl⟩,hq4.below hb,zag (HF.out _ hb8).2 hb⟩⟩
   clear hg8 hq4 hb8 HF HX1 HX2 HB2 hb0
   go_wp2_with fail
   refine start_ (n:=11) (S:=fun w'=>(w'.cell? ⟨w.heap.size,0,none⟩=some (.bool n1)∧w'.cell? ⟨w.heap.size,1,none⟩=some (.slice Aa1 p1.length ca1)∧w'.cell? ⟨w.heap.size,2,none⟩=some (.slice Ab1 q1.length cb1)∧w'.cell? ⟨w.heap.size+1,0,none⟩=some (.bool n2)∧w'.cell? ⟨w.heap.size+1,1,none⟩=some (.slice Aa2 p2.length ca2)∧w'.cell? ⟨w.heap.size+1,2,none⟩=some (.slice Ab2 q2.length cb2)∧w'.cell? ⟨g8,0,none⟩=some (.bool Q.1)∧w'.cell? ⟨g8,1,none⟩=some (.slice A4 (dg B32 Q.2.1).length c4)∧w'.cell? ⟨g8,2,none⟩=some (.slice B4 (dg B32 Q.2.2).length d4))) (ds:=[9]) #[false,false,false,false,false,false,false,false,false,false,false] (by kernel_rfl) rfl rfl ((HG.out _ (zac (Below.refl _ _))).1) (fun hHeld=>?_)
   have hb0:=Aside0.mk (show Below W8.heap.size W8 W8.drew from zac (Below.refl _ _))
   generalize W8.drew=V0 at hb0 hHeld ⊢
   refine with_tabW ratQuotients.tab4 ratQuotients.bits4 (fun HT_ HW_=>?_)
   refine take_ (i:=0) (N:=some 30) (v:=?_) (a':=?_) #[true,false,false,false,false,false,false,false,false,false,false] rfl rfl (zaQ HT_.out HW_.out (by kernel_rfl)) (fun _ _ _ h=>h) (Or.inl ⟨by rfl,?_⟩) hHeld ?_ ?_
   rotate_left
   ·
    intro w' s0
    go_simp
    with_reducible rfl
   rotate_left
   ·
    simp only [Act.put,List.setIfInBounds_toArray,List.set_cons_zero,List.set_cons_succ,zaq,zar]
    rfl
   refine take_ (i:=2) (N:=some 32) (v:=?_) (a':=?_) #[true,false,true,false,false,false,false,false,false,false,false] rfl rfl (zaQ HT_.out HW_.out (by kernel_rfl)) (fun _ _ _ h=>h) (Or.inl ⟨by rfl,?_⟩) hHeld ?_ ?_
   rotate_left
   ·
    intro w' s0
    go_simp
    with_reducible rfl
   rotate_left
   ·
    simp only [Act.put,List.setIfInBounds_toArray,List.set_cons_zero,List.set_cons_succ,zaq,zar]
    rfl
   refine join_ (σ:=Option Addr×Nat×Option Addr×Nat×Option Addr×Nat×Option Addr×Nat×Option Addr×Nat×Option Addr×Nat×Nat) 2 #[true,true,true,true,true,true,true,true,true,false,false] (fun s=>[(31,.agg #[.bool X1.1,.slice s.1 (dg 10000 X1.2.1).length s.2.1,.slice s.2.2.1 (dg 10000 X1.2.2).length s.2.2.2.1]),(33,.agg #[.bool X2.1,.slice s.2.2.2.2.1 (dg 10000 X2.2.1).length s.2.2.2.2.2.1,.slice s.2.2.2.2.2.2.1 (dg 10000 X2.2.2).length s.2.2.2.2.2.2.2.1]),(34,.tuple #[.agg #[.bool Q.1,.slice s.2.2.2.2.2.2.2.2.1 (dg 10000 Q.2.1).length s.2.2.2.2.2.2.2.2.2.1,.slice s.2.2.2.2.2.2.2.2.2.2.1 (dg 10000 Q.2.2).length s.2.2.2.2.2.2.2.2.2.2.2.1],.bool true]),(29,.tuple #[.agg #[.bool Q.1,.slice s.2.2.2.2.2.2.2.2.1 (dg 10000 Q.2.1).length s.2.2.2.2.2.2.2.2.2.1,.slice s.2.2.2.2.2.2.2.2.2.2.1 (dg 10000 Q.2.2).length s.2.2.2.2.2.2.2.2.2.2.2.1],.bool true]),(35,.agg #[.bool Q.1,.slice s.2.2.2.2.2.2.2.2.1 (dg 10000 Q.2.1).length s.2.2.2.2.2.2.2.2.2.1,.slice s.2.2.2.2.2.2.2.2.2.2.1 (dg 10000 Q.2.2).length s.2.2.2.2.2.2.2.2.2.2.2.1]),(36,.bool true),(7,.pointer (some ⟨s.2.2.2.2.2.2.2.2.2.2.2.2,0,none⟩))]) (fun s w'=>(w'.cell? ⟨w.heap.size,0,none⟩=some (.bool n1)∧w'.cell? ⟨w.heap.size,1,none⟩=some (.slice Aa1 p1.length ca1)∧w'.cell? ⟨w.heap.size,2,none⟩=some (.slice Ab1 q1.length cb1)∧w'.cell? ⟨w.heap.size+1,0,none⟩=some (.bool n2)∧w'.cell? ⟨w.heap.size+1,1,none⟩=some (.slice Aa2 p2.length ca2)∧w'.cell? ⟨w.heap.size+1,2,none⟩=some (.slice Ab2 q2.length cb2)∧w'.cell? ⟨g8,0,none⟩=some (.bool Q.1)∧w'.cell? ⟨g8,1,none⟩=some (.slice A4 (dg B32 Q.2.1).length c4)∧w'.cell? ⟨g8,2,none⟩=some (.slice B4 (dg B32 Q.2.2).length d4))∧(QT w' w.heap.size (.agg #[.bool X1.1,.slice s.1 (dg 10000 X1.2.1).length s.2.1,.slice s.2.2.1 (dg 10000 X1.2.2).length s.2.2.2.1]) X1)∧(QT w' w.heap.size (.agg #[.bool X2.1,.slice s.2.2.2.2.1 (dg 10000 X2.2.1).length s.2.2.2.2.2.1,.slice s.2.2.2.2.2.2.1 (dg 10000 X2.2.2).length s.2.2.2.2.2.2.2.1]) X2)∧(QT w' w.heap.size (.agg #[.bool Q.1,.slice s.2.2.2.2.2.2.2.2.1 (dg 10000 Q.2.1).length s.2.2.2.2.2.2.2.2.2.1,.slice s.2.2.2.2.2.2.2.2.2.2.1 (dg 10000 Q.2.2).length s.2.2.2.2.2.2.2.2.2.2.2.1]) Q)∧(w'.heap[s.2.2.2.2.2.2.2.2.2.2.2.2]? = some (.cells #[.bool false,.slice none 0 0,.slice none 0 0] 36 (0,0))∧W8.heap.size≤s.2.2.2.2.2.2.2.2.2.2.2.2)∧Below W8.heap.size W8 w') ?_ ?_
   rotate_left
   ·
    intro hJ1_3_4_8
    refine join_ (σ:=Option Addr×Nat×Option Addr×Nat×Option Addr×Nat×Option Addr×Nat×Option Addr×Nat×Option Addr×Nat) 3 #[true,true,true,true,true,true,true,true,false,false,false] (fun s=>[(31,.agg #[.bool X1.1,.slice s.1 (dg 10000 X1.2.1).length s.2.1,.slice s.2.2.1 (dg 10000 X1.2.2).length s.2.2.2.1]),(33,.agg #[.bool X2.1,.slice s.2.2.2.2.1 (dg 10000 X2.2.1).length s.2.2.2.2.2.1,.slice s.2.2.2.2.2.2.1 (dg 10000 X2.2.2).length s.2.2.2.2.2.2.2.1]),(34,.tuple #[.agg #[.bool Q.1,.slice s.2.2.2.2.2.2.2.2.1 (dg 10000 Q.2.1).length s.2.2.2.2.2.2.2.2.2.1,.slice s.2.2.2.2.2.2.2.2.2.2.1 (dg 10000 Q.2.2).length s.2.2.2.2.2.2.2.2.2.2.2],.bool true]),(29,.tuple #[.agg #[.bool Q.1,.slice s.2.2.2.2.2.2.2.2.1 (dg 10000 Q.2.1).length s.2.2.2.2.2.2.2.2.2.1,.slice s.2.2.2.2.2.2.2.2.2.2.1 (dg 10000 Q.2.2).length s.2.2.2.2.2.2.2.2.2.2.2],.bool true]),(35,.agg #[.bool Q.1,.slice s.2.2.2.2.2.2.2.2.1 (dg 10000 Q.2.1).length s.2.2.2.2.2.2.2.2.2.1,.slice s.2.2.2.2.2.2.2.2.2.2.1 (dg 10000 Q.2.2).length s.2.2.2.2.2.2.2.2.2.2.2]),(36,.bool true)]) (fun s w'=>(w'.cell? ⟨w.heap.size,0,none⟩=some (.bool n1)∧w'.cell? ⟨w.heap.size,1,none⟩=some (.slice Aa1 p1.length ca1)∧w'.cell? ⟨w.heap.size,2,none⟩=some (.slice Ab1 q1.length cb1)∧w'.cell? ⟨w.heap.size+1,0,none⟩=some (.bool n2)∧w'.cell? ⟨w.heap.size+1,1,none⟩=some (.slice Aa2 p2.length ca2)∧w'.cell? ⟨w.heap.size+1,2,none⟩=some (.slice Ab2 q2.length cb2)∧w'.cell? ⟨g8,0,none⟩=some (.bool Q.1)∧w'.cell? ⟨g8,1,none⟩=some (.slice A4 (dg B32 Q.2.1).length c4)∧w'.cell? ⟨g8,2,none⟩=some (.slice B4 (dg B32 Q.2.2).length d4))∧(QT w' w.heap.size (.agg #[.bool X1.1,.slice s.1 (dg 10000 X1.2.1).length s.2.1,.slice s.2.2.1 (dg 10000 X1.2.2).length s.2.2.2.1]) X1)∧(QT w' w.heap.size (.agg #[.bool X2.1,.slice s.2.2.2.2.1 (dg 10000 X2.2.1).length s.2.2.2.2.2.1,.slice s.2.2.2.2.2.2.1 (dg 10000 X2.2.2).length s.2.2.2.2.2.2.2.1]) X2)∧(QT w' w.heap.size (.agg #[.bool Q.1,.slice s.2.2.2.2.2.2.2.2.1 (dg 10000 Q.2.1).length s.2.2.2.2.2.2.2.2.2.1,.slice s.2.2.2.2.2.2.2.2.2.2.1 (dg 10000 Q.2.2).length s.2.2.2.2.2.2.2.2.2.2.2]) Q)∧Below W8.heap.size W8 w') ?_ ?_
    rotate_left
    ·
     intro hJ1_3_4
     refine join_ (σ:=Option Addr×Nat×Option Addr×Nat×Option Addr×Nat×Option Addr×Nat×Nat) 6 #[true,true,true,true,false,false,false,false,true,false,false] (fun s=>[(31,.agg #[.bool X1.1,.slice s.1 (dg 10000 X1.2.1).length s.2.1,.slice s.2.2.1 (dg 10000 X1.2.2).length s.2.2.2.1]),(33,.agg #[.bool X2.1,.slice s.2.2.2.2.1 (dg 10000 X2.2.1).length s.2.2.2.2.2.1,.slice s.2.2.2.2.2.2.1 (dg 10000 X2.2.2).length s.2.2.2.2.2.2.2.1]),(7,.pointer (some ⟨s.2.2.2.2.2.2.2.2,0,none⟩))]) (fun s w'=>(w'.cell? ⟨w.heap.size,0,none⟩=some (.bool n1)∧w'.cell? ⟨w.heap.size,1,none⟩=some (.slice Aa1 p1.length ca1)∧w'.cell? ⟨w.heap.size,2,none⟩=some (.slice Ab1 q1.length cb1)∧w'.cell? ⟨w.heap.size+1,0,none⟩=some (.bool n2)∧w'.cell? ⟨w.heap.size+1,1,none⟩=some (.slice Aa2 p2.length ca2)∧w'.cell? ⟨w.heap.size+1,2,none⟩=some (.slice Ab2 q2.length cb2)∧w'.cell? ⟨g8,0,none⟩=some (.bool Q.1)∧w'.cell? ⟨g8,1,none⟩=some (.slice A4 (dg B32 Q.2.1).length c4)∧w'.cell? ⟨g8,2,none⟩=some (.slice B4 (dg B32 Q.2.2).length d4))∧(QT w' w.heap.size (.agg #[.bool X1.1,.slice s.1 (dg 10000 X1.2.1).length s.2.1,.slice s.2.2.1 (dg 10000 X1.2.2).length s.2.2.2.1]) X1)∧(QT w' w.heap.size (.agg #[.bool X2.1,.slice s.2.2.2.2.1 (dg 10000 X2.2.1).length s.2.2.2.2.2.1,.slice s.2.2.2.2.2.2.1 (dg 10000 X2.2.2).length s.2.2.2.2.2.2.2.1]) X2)∧(w'.heap[s.2.2.2.2.2.2.2.2]? = some (.cells #[.bool false,.slice none 0 0,.slice none 0 0] 36 (0,0))∧W8.heap.size≤s.2.2.2.2.2.2.2.2)∧Below W8.heap.size W8 w') ?_ ?_
     rotate_left
     ·
      intro hJ1_3_8
      refine join_ (σ:=Option Addr×Nat×Option Addr×Nat×Option Addr×Nat×Option Addr×Nat) 7 #[true,true,true,true,false,false,false,false,false,false,false] (fun s=>[(31,.agg #[.bool X1.1,.slice s.1 (dg 10000 X1.2.1).length s.2.1,.slice s.2.2.1 (dg 10000 X1.2.2).length s.2.2.2.1]),(33,.agg #[.bool X2.1,.slice s.2.2.2.2.1 (dg 10000 X2.2.1).length s.2.2.2.2.2.1,.slice s.2.2.2.2.2.2.1 (dg 10000 X2.2.2).length s.2.2.2.2.2.2.2])]) (fun s w'=>(w'.cell? ⟨w.heap.size,0,none⟩=some (.bool n1)∧w'.cell? ⟨w.heap.size,1,none⟩=some (.slice Aa1 p1.length ca1)∧w'.cell? ⟨w.heap.size,2,none⟩=some (.slice Ab1 q1.length cb1)∧w'.cell? ⟨w.heap.size+1,0,none⟩=some (.bool n2)∧w'.cell? ⟨w.heap.size+1,1,none⟩=some (.slice Aa2 p2.length ca2)∧w'.cell? ⟨w.heap.size+1,2,none⟩=some (.slice Ab2 q2.length cb2)∧w'.cell? ⟨g8,0,none⟩=some (.bool Q.1)∧w'.cell? ⟨g8,1,none⟩=some (.slice A4 (dg B32 Q.2.1).length c4)∧w'.cell? ⟨g8,2,none⟩=some (.slice B4 (dg B32 Q.2.2).length d4))∧(QT w' w.heap.size (.agg #[.bool X1.1,.slice s.1 (dg 10000 X1.2.1).length s.2.1,.slice s.2.2.1 (dg 10000 X1.2.2).length s.2.2.2.1]) X1)∧(QT w' w.heap.size (.agg #[.bool X2.1,.slice s.2.2.2.2.1 (dg 10000 X2.2.1).length s.2.2.2.2.2.1,.slice s.2.2.2.2.2.2.1 (dg 10000 X2.2.2).length s.2.2.2.2.2.2.2]) X2)∧Below W8.heap.size W8 w') ?_ ?_
      rotate_left
      ·
       intro hJ1_3
       refine join_ (σ:=Option Addr×Nat×Option Addr×Nat×Nat) 7 #[true,true,true,false,false,false,false,false,true,false,false] (fun s=>[(31,.agg #[.bool X1.1,.slice s.1 (dg 10000 X1.2.1).length s.2.1,.slice s.2.2.1 (dg 10000 X1.2.2).length s.2.2.2.1]),(7,.pointer (some ⟨s.2.2.2.2,0,none⟩))]) (fun s w'=>(w'.cell? ⟨w.heap.size,0,none⟩=some (.bool n1)∧w'.cell? ⟨w.heap.size,1,none⟩=some (.slice Aa1 p1.length ca1)∧w'.cell? ⟨w.heap.size,2,none⟩=some (.slice Ab1 q1.length cb1)∧w'.cell? ⟨w.heap.size+1,0,none⟩=some (.bool n2)∧w'.cell? ⟨w.heap.size+1,1,none⟩=some (.slice Aa2 p2.length ca2)∧w'.cell? ⟨w.heap.size+1,2,none⟩=some (.slice Ab2 q2.length cb2)∧w'.cell? ⟨g8,0,none⟩=some (.bool Q.1)∧w'.cell? ⟨g8,1,none⟩=some (.slice A4 (dg B32 Q.2.1).length c4)∧w'.cell? ⟨g8,2,none⟩=some (.slice B4 (dg B32 Q.2.2).length d4))∧(QT w' w.heap.size (.agg #[.bool X1.1,.slice s.1 (dg 10000 X1.2.1).length s.2.1,.slice s.2.2.1 (dg 10000 X1.2.2).length s.2.2.2.1]) X1)∧(w'.heap[s.2.2.2.2]? = some (.cells #[.bool false,.slice none 0 0,.slice none 0 0] 36 (0,0))∧W8.heap.size≤s.2.2.2.2)∧Below W8.heap.size W8 w') ?_ ?_
       rotate_left
       ·
        intro hJ1_8
        refine join_ (σ:=Option Addr×Nat×Option Addr×Nat) 8 #[true,true,true,false,false,false,false,false,false,false,false] (fun s=>[(31,.agg #[.bool X1.1,.slice s.1 (dg 10000 X1.2.1).length s.2.1,.slice s.2.2.1 (dg 10000 X1.2.2).length s.2.2.2])]) (fun s w'=>(w'.cell? ⟨w.heap.size,0,none⟩=some (.bool n1)∧w'.cell? ⟨w.heap.size,1,none⟩=some (.slice Aa1 p1.length ca1)∧w'.cell? ⟨w.heap.size,2,none⟩=some (.slice Ab1 q1.length cb1)∧w'.cell? ⟨w.heap.size+1,0,none⟩=some (.bool n2)∧w'.cell? ⟨w.heap.size+1,1,none⟩=some (.slice Aa2 p2.length ca2)∧w'.cell? ⟨w.heap.size+1,2,none⟩=some (.slice Ab2 q2.length cb2)∧w'.cell? ⟨g8,0,none⟩=some (.bool Q.1)∧w'.cell? ⟨g8,1,none⟩=some (.slice A4 (dg B32 Q.2.1).length c4)∧w'.cell? ⟨g8,2,none⟩=some (.slice B4 (dg B32 Q.2.2).length d4))∧(QT w' w.heap.size (.agg #[.bool X1.1,.slice s.1 (dg 10000 X1.2.1).length s.2.1,.slice s.2.2.1 (dg 10000 X1.2.2).length s.2.2.2]) X1)∧Below W8.heap.size W8 w') ?_ ?_
        rotate_left
        ·
         intro hJ1
         refine join_ (σ:=Nat) 8 #[true,false,true,false,false,false,false,false,true,false,false] (fun s=>[(7,.pointer (some ⟨s,0,none⟩))]) (fun s w'=>(w'.cell? ⟨w.heap.size,0,none⟩=some (.bool n1)∧w'.cell? ⟨w.heap.size,1,none⟩=some (.slice Aa1 p1.length ca1)∧w'.cell? ⟨w.heap.size,2,none⟩=some (.slice Ab1 q1.length cb1)∧w'.cell? ⟨w.heap.size+1,0,none⟩=some (.bool n2)∧w'.cell? ⟨w.heap.size+1,1,none⟩=some (.slice Aa2 p2.length ca2)∧w'.cell? ⟨w.heap.size+1,2,none⟩=some (.slice Ab2 q2.length cb2)∧w'.cell? ⟨g8,0,none⟩=some (.bool Q.1)∧w'.cell? ⟨g8,1,none⟩=some (.slice A4 (dg B32 Q.2.1).length c4)∧w'.cell? ⟨g8,2,none⟩=some (.slice B4 (dg B32 Q.2.2).length d4))∧(w'.heap[s]? = some (.cells #[.bool false,.slice none 0 0,.slice none 0 0] 36 (0,0))∧W8.heap.size≤s)∧Below W8.heap.size W8 w') ?_ ?_
         rotate_left
         ·
          intro hJ8
          refine two_ (i:=1) (j:=8) (Ni:=some 31) (Nj:=some 7) #[true,true,true,false,false,false,false,false,false,false,false] #[true,false,true,false,false,false,false,false,true,false,false] rfl rfl rfl rfl (two_of HT_.out (by kernel_rfl)) (by decide) (by decide) (fun K hK=>?_) (fun K hK=>?_)
          ·
           skip
           refine za7 Try.func21 (by kernel_rfl) rfl #[.agg #[.bool n1,.slice Aa1 p1.length ca1,.slice Ab1 q1.length cb1]] (by rfl) rfl rfl (by (try simp only [List.map_toArray,List.map_cons,List.map_nil]); first | done | rfl) ?_
           refine(ref_of_n (HP1.out V0 (HG.out _ hb0.out).2.2)).mono ?_
           rintro e Vn ⟨_,rfl,⟨m1,m2,rfl,R1,R2⟩,hB⟩
           refine⟨_,rfl,?_⟩
           obtain⟨A1,c1,rfl⟩:=Kd.R_slice R1
           obtain⟨B1,d1,rfl⟩:=Kd.R_slice R2
           have new:QT Vn w.heap.size (.agg #[.bool X1.1,.slice A1 (dg 10000 X1.2.1).length c1,.slice B1 (dg 10000 X1.2.2).length d1]) X1:=⟨_,_,rfl,Kd.R_lower R1 (HG.out _ hb0.out).2.2.size,Kd.R_lower R2 (HG.out _ hb0.out).2.2.size⟩
           have hbn:=Aside0.mk (zag hb0.out hB)
           refine hK.out _ _ ((HG.out _ hbn.out).1) (fun hHeld=>?_)
           clear hK K
           refine zaS (a':=?_) ?_ ?_
           rotate_left
           ·
            show Act.put _ (some 31) _=_
            simp only [Act.put,List.setIfInBounds_toArray,List.set_cons_zero,List.set_cons_succ,zaq,zar]
            rfl
           exact zaS (by first | (simp only [putAll,Act.put,List.setIfInBounds_toArray,List.set_cons_zero,List.set_cons_succ]; done) | (simp only [putAll,Act.put,List.setIfInBounds_toArray,List.set_cons_zero,List.set_cons_succ]; rfl)) (hJ1 (A1,c1,B1,d1) _ ⟨(HG.out _ hbn.out).1,new,hbn.out⟩)
          ·
           skip
           refine value_ (w1:=?_) (v:=?_) (by rfl) rfl ?_ ?_
           rotate_left 2
           ·
            go_simp
            constructor
            ·
             rfl
            ·
             rfl
           have hB:Below V0.heap.size V0 (V0.alloc (.cells #[.bool false,.slice none 0 0,.slice none 0 0] 36 (0,0))):=zab (Below.refl _ _) _
           have hN:=zbp V0 (.cells #[.bool false,.slice none 0 0,.slice none 0 0] 36 (0,0))
           have hbn:=Aside0.mk (zag hb0.out hB)
           refine hK.out _ _ ((HG.out _ hbn.out).1) (fun hHeld=>?_)
           clear hK K
           refine zaS (a':=?_) ?_ ?_
           rotate_left
           ·
            show Act.put _ (some 7) _=_
            simp only [Act.put,List.setIfInBounds_toArray,List.set_cons_zero,List.set_cons_succ,zaq,zar]
            rfl
           exact zaS (by first | (simp only [putAll,Act.put,List.setIfInBounds_toArray,List.set_cons_zero,List.set_cons_succ]; done) | (simp only [putAll,Act.put,List.setIfInBounds_toArray,List.set_cons_zero,List.set_cons_succ]; rfl)) (hJ8 (V0.heap.size) _ ⟨(HG.out _ hbn.out).1,⟨hN,hb0.out.size⟩,hbn.out⟩)
         ·
          skip
          rintro h8 V ⟨hHeld,kK8,hb⟩
          have K8:=Aside0.mk kK8
          have hbv:=Aside0.mk hb
          clear hb kK8
          refine zaS (a':=?_) ?_ ?_
          rotate_left
          ·
           simp only [putAll,Act.put,List.setIfInBounds_toArray,List.set_cons_zero,List.set_cons_succ]
           rfl
          refine one_ (i:=1) (N:=some 31) #[true,true,true,false,false,false,false,false,true,false,false] rfl rfl (zaO HT_.out (by kernel_rfl)) (by decide) (fun K hK=>?_)
          refine za7 Try.func21 (by kernel_rfl) rfl #[.agg #[.bool n1,.slice Aa1 p1.length ca1,.slice Ab1 q1.length cb1]] (by rfl) rfl rfl (by (try simp only [List.map_toArray,List.map_cons,List.map_nil]); first | done | rfl) ?_
          refine(ref_of_n (HP1.out V (HG.out _ hbv.out).2.2)).mono ?_
          rintro e Vn ⟨_,rfl,⟨m1,m2,rfl,R1,R2⟩,hB⟩
          refine⟨_,rfl,?_⟩
          obtain⟨A1,c1,rfl⟩:=Kd.R_slice R1
          obtain⟨B1,d1,rfl⟩:=Kd.R_slice R2
          have new:QT Vn w.heap.size (.agg #[.bool X1.1,.slice A1 (dg 10000 X1.2.1).length c1,.slice B1 (dg 10000 X1.2.2).length d1]) X1:=⟨_,_,rfl,Kd.R_lower R1 (HG.out _ hbv.out).2.2.size,Kd.R_lower R2 (HG.out _ hbv.out).2.2.size⟩
          have hbn:=Aside0.mk (zag hbv.out hB)
          refine hK.out _ _ ((HG.out _ hbn.out).1) (fun hHeld=>?_)
          clear hK K
          refine zaS (a':=?_) ?_ ?_
          rotate_left
          ·
           show Act.put _ (some 31) _=_
           simp only [Act.put,List.setIfInBounds_toArray,List.set_cons_zero,List.set_cons_succ,zaq,zar]
           rfl
          exact zaS (by first | (simp only [putAll,Act.put,List.setIfInBounds_toArray,List.set_cons_zero,List.set_cons_succ]; done) | (simp only [putAll,Act.put,List.setIfInBounds_toArray,List.set_cons_zero,List.set_cons_succ]; rfl)) (hJ1_8 (A1,c1,B1,d1,h8) _ ⟨(HG.out _ hbn.out).1,new,⟨zal K8.out.1 hB,K8.out.2⟩,hbn.out⟩)
        ·
         skip
         rintro⟨A1,c1,B1,d1⟩ V ⟨hHeld,kK1,hb⟩
         have K1:=Aside0.mk kK1
         have hbv:=Aside0.mk hb
         clear hb kK1
         refine zaS (a':=?_) ?_ ?_
         rotate_left
         ·
          simp only [putAll,Act.put,List.setIfInBounds_toArray,List.set_cons_zero,List.set_cons_succ]
          rfl
         refine two_ (i:=3) (j:=8) (Ni:=some 33) (Nj:=some 7) #[true,true,true,true,false,false,false,false,false,false,false] #[true,true,true,false,false,false,false,false,true,false,false] rfl rfl rfl rfl (two_of HT_.out (by kernel_rfl)) (by decide) (by decide) (fun K hK=>?_) (fun K hK=>?_)
         ·
          skip
          refine za7 Try.func21 (by kernel_rfl) rfl #[.agg #[.bool n2,.slice Aa2 p2.length ca2,.slice Ab2 q2.length cb2]] (by rfl) rfl rfl (by (try simp only [List.map_toArray,List.map_cons,List.map_nil]); first | done | rfl) ?_
          refine(ref_of_n (HP2.out V (HG.out _ hbv.out).2.2)).mono ?_
          rintro e Vn ⟨_,rfl,⟨m1,m2,rfl,R1,R2⟩,hB⟩
          refine⟨_,rfl,?_⟩
          obtain⟨A3,c3,rfl⟩:=Kd.R_slice R1
          obtain⟨B3,d3,rfl⟩:=Kd.R_slice R2
          have new:QT Vn w.heap.size (.agg #[.bool X2.1,.slice A3 (dg 10000 X2.2.1).length c3,.slice B3 (dg 10000 X2.2.2).length d3]) X2:=⟨_,_,rfl,Kd.R_lower R1 (HG.out _ hbv.out).2.2.size,Kd.R_lower R2 (HG.out _ hbv.out).2.2.size⟩
          have hbn:=Aside0.mk (zag hbv.out hB)
          refine hK.out _ _ ((HG.out _ hbn.out).1) (fun hHeld=>?_)
          clear hK K
          refine zaS (a':=?_) ?_ ?_
          rotate_left
          ·
           show Act.put _ (some 33) _=_
           simp only [Act.put,List.setIfInBounds_toArray,List.set_cons_zero,List.set_cons_succ,zaq,zar]
           rfl
          exact zaS (by first | (simp only [putAll,Act.put,List.setIfInBounds_toArray,List.set_cons_zero,List.set_cons_succ]; done) | (simp only [putAll,Act.put,List.setIfInBounds_toArray,List.set_cons_zero,List.set_cons_succ]; rfl)) (hJ1_3 (A1,c1,B1,d1,A3,c3,B3,d3) _ ⟨(HG.out _ hbn.out).1,K1.out.below hB,new,hbn.out⟩)
         ·
          skip
          refine value_ (w1:=?_) (v:=?_) (by rfl) rfl ?_ ?_
          rotate_left 2
          ·
           go_simp
           constructor
           ·
            rfl
           ·
            rfl
          have hB:Below V.heap.size V (V.alloc (.cells #[.bool false,.slice none 0 0,.slice none 0 0] 36 (0,0))):=zab (Below.refl _ _) _
          have hN:=zbp V (.cells #[.bool false,.slice none 0 0,.slice none 0 0] 36 (0,0))
          have hbn:=Aside0.mk (zag hbv.out hB)
          refine hK.out _ _ ((HG.out _ hbn.out).1) (fun hHeld=>?_)
          clear hK K
          refine zaS (a':=?_) ?_ ?_
          rotate_left
          ·
           show Act.put _ (some 7) _=_
           simp only [Act.put,List.setIfInBounds_toArray,List.set_cons_zero,List.set_cons_succ,zaq,zar]
           rfl
          exact zaS (by first | (simp only [putAll,Act.put,List.setIfInBounds_toArray,List.set_cons_zero,List.set_cons_succ]; done) | (simp only [putAll,Act.put,List.setIfInBounds_toArray,List.set_cons_zero,List.set_cons_succ]; rfl)) (hJ1_8 (A1,c1,B1,d1,V.heap.size) _ ⟨(HG.out _ hbn.out).1,K1.out.below hB,⟨hN,hbv.out.size⟩,hbn.out⟩)
       ·
        skip
        rintro⟨A1,c1,B1,d1,h8⟩ V ⟨hHeld,kK1,kK8,hb⟩
        have K1:=Aside0.mk kK1
        have K8:=Aside0.mk kK8
        have hbv:=Aside0.mk hb
        clear hb kK1 kK8
        refine zaS (a':=?_) ?_ ?_
        rotate_left
        ·
         simp only [putAll,Act.put,List.setIfInBounds_toArray,List.set_cons_zero,List.set_cons_succ]
         rfl
        refine one_ (i:=3) (N:=some 33) #[true,true,true,true,false,false,false,false,true,false,false] rfl rfl (zaO HT_.out (by kernel_rfl)) (by decide) (fun K hK=>?_)
        refine za7 Try.func21 (by kernel_rfl) rfl #[.agg #[.bool n2,.slice Aa2 p2.length ca2,.slice Ab2 q2.length cb2]] (by rfl) rfl rfl (by (try simp only [List.map_toArray,List.map_cons,List.map_nil]); first | done | rfl) ?_
        refine(ref_of_n (HP2.out V (HG.out _ hbv.out).2.2)).mono ?_
        rintro e Vn ⟨_,rfl,⟨m1,m2,rfl,R1,R2⟩,hB⟩
        refine⟨_,rfl,?_⟩
        obtain⟨A3,c3,rfl⟩:=Kd.R_slice R1
        obtain⟨B3,d3,rfl⟩:=Kd.R_slice R2
        have new:QT Vn w.heap.size (.agg #[.bool X2.1,.slice A3 (dg 10000 X2.2.1).length c3,.slice B3 (dg 10000 X2.2.2).length d3]) X2:=⟨_,_,rfl,Kd.R_lower R1 (HG.out _ hbv.out).2.2.size,Kd.R_lower R2 (HG.out _ hbv.out).2.2.size⟩
        have hbn:=Aside0.mk (zag hbv.out hB)
        refine hK.out _ _ ((HG.out _ hbn.out).1) (fun hHeld=>?_)
        clear hK K
        refine zaS (a':=?_) ?_ ?_
        rotate_left
        ·
         show Act.put _ (some 33) _=_
         simp only [Act.put,List.setIfInBounds_toArray,List.set_cons_zero,List.set_cons_succ,zaq,zar]
         rfl
        exact zaS (by first | (simp only [putAll,Act.put,List.setIfInBounds_toArray,List.set_cons_zero,List.set_cons_succ]; done) | (simp only [putAll,Act.put,List.setIfInBounds_toArray,List.set_cons_zero,List.set_cons_succ]; rfl)) (hJ1_3_8 (A1,c1,B1,d1,A3,c3,B3,d3,h8) _ ⟨(HG.out _ hbn.out).1,K1.out.below hB,new,⟨zal K8.out.1 hB,K8.out.2⟩,hbn.out⟩)
      ·
       skip
       rintro⟨A1,c1,B1,d1,A3,c3,B3,d3⟩ V ⟨hHeld,kK1,kK3,hb⟩
       have K1:=Aside0.mk kK1
       have K3:=Aside0.mk kK3
       have hbv:=Aside0.mk hb
       clear hb kK1 kK3
       refine zaS (a':=?_) ?_ ?_
       rotate_left
       ·
        simp only [putAll,Act.put,List.setIfInBounds_toArray,List.set_cons_zero,List.set_cons_succ]
        rfl
       refine two_ (i:=4) (j:=8) (Ni:=some 34) (Nj:=some 7) #[true,true,true,true,true,false,false,false,false,false,false] #[true,true,true,true,false,false,false,false,true,false,false] rfl rfl rfl rfl (two_of HT_.out (by kernel_rfl)) (by decide) (by decide) (fun K hK=>?_) (fun K hK=>?_)
       ·
        skip
        refine za7 Try.func39 (by kernel_rfl) rfl #[.agg #[.bool X1.1,.slice A1 (dg 10000 X1.2.1).length c1,.slice B1 (dg 10000 X1.2.2).length d1],.agg #[.bool X2.1,.slice A3 (dg 10000 X2.2.1).length c3,.slice B3 (dg 10000 X2.2.2).length d3]] (by rfl) rfl rfl (by (try simp only [List.map_toArray,List.map_cons,List.map_nil]); first | done | rfl) ?_
        refine(HRD.out V _ _ K1.out.qd K3.out.qd).mono ?_
        rintro e Vn ⟨Ar,cr,Br,dr,rfl,hR,hB⟩
        refine⟨_,rfl,?_⟩
        have new:=hR.lower (HG.out _ hbv.out).2.2.size
        have hbn:=Aside0.mk (zag hbv.out hB)
        refine hK.out _ _ ((HG.out _ hbn.out).1) (fun hHeld=>?_)
        clear hK K
        refine zaS (a':=?_) ?_ ?_
        rotate_left
        ·
         show Act.put _ (some 34) _=_
         simp only [Act.put,List.setIfInBounds_toArray,List.set_cons_zero,List.set_cons_succ,zaq,zar]
         rfl
        refine zaA (i:=5) (N:=some 29) (v:=?_) (a':=?_) #[true,true,true,true,true,true,false,false,false,false,false] rfl rfl (zay HT_.out (by kernel_rfl)) (fun _ _ _ h=>h) (Or.inl ⟨by rfl,?_⟩) ?_ ?_
        rotate_left
        ·
         intro w'
         go_simp
         with_reducible rfl
        rotate_left
        ·
         simp only [Act.put,List.setIfInBounds_toArray,List.set_cons_zero,List.set_cons_succ,zaq,zar]
         rfl
        refine zaA (i:=6) (N:=some 35) (v:=?_) (a':=?_) #[true,true,true,true,true,true,true,false,false,false,false] rfl rfl (zay HT_.out (by kernel_rfl)) (fun _ _ _ h=>h) (Or.inl ⟨by rfl,?_⟩) ?_ ?_
        rotate_left
        ·
         intro w'
         go_simp
         with_reducible rfl
        rotate_left
        ·
         simp only [Act.put,List.setIfInBounds_toArray,List.set_cons_zero,List.set_cons_succ,zaq,zar]
         rfl
        refine zaA (i:=7) (N:=some 36) (v:=?_) (a':=?_) #[true,true,true,true,true,true,true,true,false,false,false] rfl rfl (zay HT_.out (by kernel_rfl)) (fun _ _ _ h=>h) (Or.inl ⟨by rfl,?_⟩) ?_ ?_
        rotate_left
        ·
         intro w'
         go_simp
         with_reducible rfl
        rotate_left
        ·
         simp only [Act.put,List.setIfInBounds_toArray,List.set_cons_zero,List.set_cons_succ,zaq,zar]
         rfl
        exact zaS (by first | (simp only [putAll,Act.put,List.setIfInBounds_toArray,List.set_cons_zero,List.set_cons_succ]; done) | (simp only [putAll,Act.put,List.setIfInBounds_toArray,List.set_cons_zero,List.set_cons_succ]; rfl)) (hJ1_3_4 (A1,c1,B1,d1,A3,c3,B3,d3,Ar,cr,Br,dr) _ ⟨(HG.out _ hbn.out).1,K1.out.below hB,K3.out.below hB,new,hbn.out⟩)
       ·
        skip
        refine value_ (w1:=?_) (v:=?_) (by rfl) rfl ?_ ?_
        rotate_left 2
        ·
         go_simp
         constructor
         ·
          rfl
         ·
          rfl
        have hB:Below V.heap.size V (V.alloc (.cells #[.bool false,.slice none 0 0,.slice none 0 0] 36 (0,0))):=zab (Below.refl _ _) _
        have hN:=zbp V (.cells #[.bool false,.slice none 0 0,.slice none 0 0] 36 (0,0))
        have hbn:=Aside0.mk (zag hbv.out hB)
        refine hK.out _ _ ((HG.out _ hbn.out).1) (fun hHeld=>?_)
        clear hK K
        refine zaS (a':=?_) ?_ ?_
        rotate_left
        ·
         show Act.put _ (some 7) _=_
         simp only [Act.put,List.setIfInBounds_toArray,List.set_cons_zero,List.set_cons_succ,zaq,zar]
         rfl
        exact zaS (by first | (simp only [putAll,Act.put,List.setIfInBounds_toArray,List.set_cons_zero,List.set_cons_succ]; done) | (simp only [putAll,Act.put,List.setIfInBounds_toArray,List.set_cons_zero,List.set_cons_succ]; rfl)) (hJ1_3_8 (A1,c1,B1,d1,A3,c3,B3,d3,V.heap.size) _ ⟨(HG.out _ hbn.out).1,K1.out.below hB,K3.out.below hB,⟨hN,hbv.out.size⟩,hbn.out⟩)
     ·
      skip
      rintro⟨A1,c1,B1,d1,A3,c3,B3,d3,h8⟩ V ⟨hHeld,kK1,kK3,kK8,hb⟩
      have K1:=Aside0.mk kK1
      have K3:=Aside0.mk kK3
      have K8:=Aside0.mk kK8
      have hbv:=Aside0.mk hb
      clear hb kK1 kK3 kK8
      refine zaS (a':=?_) ?_ ?_
      rotate_left
      ·
       simp only [putAll,Act.put,List.setIfInBounds_toArray,List.set_cons_zero,List.set_cons_succ]
       rfl
      refine one_ (i:=4) (N:=some 34) #[true,true,true,true,true,false,false,false,true,false,false] rfl rfl (zaO HT_.out (by kernel_rfl)) (by decide) (fun K hK=>?_)
      refine za7 Try.func39 (by kernel_rfl) rfl #[.agg #[.bool X1.1,.slice A1 (dg 10000 X1.2.1).length c1,.slice B1 (dg 10000 X1.2.2).length d1],.agg #[.bool X2.1,.slice A3 (dg 10000 X2.2.1).length c3,.slice B3 (dg 10000 X2.2.2).length d3]] (by rfl) rfl rfl (by (try simp only [List.map_toArray,List.map_cons,List.map_nil]); first | done | rfl) ?_
      refine(HRD.out V _ _ K1.out.qd K3.out.qd).mono ?_
      rintro e Vn ⟨Ar,cr,Br,dr,rfl,hR,hB⟩
      refine⟨_,rfl,?_⟩
      have new:=hR.lower (HG.out _ hbv.out).2.2.size
      have hbn:=Aside0.mk (zag hbv.out hB)
      refine hK.out _ _ ((HG.out _ hbn.out).1) (fun hHeld=>?_)
      clear hK K
      refine zaS (a':=?_) ?_ ?_
      rotate_left
      ·
       show Act.put _ (some 34) _=_
       simp only [Act.put,List.setIfInBounds_toArray,List.set_cons_zero,List.set_cons_succ,zaq,zar]
       rfl
      refine zaA (i:=5) (N:=some 29) (v:=?_) (a':=?_) #[true,true,true,true,true,true,false,false,true,false,false] rfl rfl (zay HT_.out (by kernel_rfl)) (fun _ _ _ h=>h) (Or.inl ⟨by rfl,?_⟩) ?_ ?_
      rotate_left
      ·
       intro w'
       go_simp
       with_reducible rfl
      rotate_left
      ·
       simp only [Act.put,List.setIfInBounds_toArray,List.set_cons_zero,List.set_cons_succ,zaq,zar]
       rfl
      refine zaA (i:=6) (N:=some 35) (v:=?_) (a':=?_) #[true,true,true,true,true,true,true,false,true,false,false] rfl rfl (zay HT_.out (by kernel_rfl)) (fun _ _ _ h=>h) (Or.inl ⟨by rfl,?_⟩) ?_ ?_
      rotate_left
      ·
       intro w'
       go_simp
       with_reducible rfl
      rotate_left
      ·
       simp only [Act.put,List.setIfInBounds_toArray,List.set_cons_zero,List.set_cons_succ,zaq,zar]
       rfl
      refine zaA (i:=7) (N:=some 36) (v:=?_) (a':=?_) #[true,true,true,true,true,true,true,true,true,false,false] rfl rfl (zay HT_.out (by kernel_rfl)) (fun _ _ _ h=>h) (Or.inl ⟨by rfl,?_⟩) ?_ ?_
      rotate_left
      ·
       intro w'
       go_simp
       with_reducible rfl
      rotate_left
      ·
       simp only [Act.put,List.setIfInBounds_toArray,List.set_cons_zero,List.set_cons_succ,zaq,zar]
       rfl
      exact zaS (by first | (simp only [putAll,Act.put,List.setIfInBounds_toArray,List.set_cons_zero,List.set_cons_succ]; done) | (simp only [putAll,Act.put,List.setIfInBounds_toArray,List.set_cons_zero,List.set_cons_succ]; rfl)) (hJ1_3_4_8 (A1,c1,B1,d1,A3,c3,B3,d3,Ar,cr,Br,dr,h8) _ ⟨(HG.out _ hbn.out).1,K1.out.below hB,K3.out.below hB,new,⟨zal K8.out.1 hB,K8.out.2⟩,hbn.out⟩)
    ·
     skip
     rintro⟨A1,c1,B1,d1,A3,c3,B3,d3,Ar,cr,Br,dr⟩ V ⟨hHeld,kK1,kK3,kK4,hb⟩
     have K1:=Aside0.mk kK1
     have K3:=Aside0.mk kK3
     have K4:=Aside0.mk kK4
     have hbv:=Aside0.mk hb
     clear hb kK1 kK3 kK4
     refine zaS (a':=?_) ?_ ?_
     rotate_left
     ·
      simp only [putAll,Act.put,List.setIfInBounds_toArray,List.set_cons_zero,List.set_cons_succ]
      rfl
     refine one_ (i:=8) (N:=some 7) #[true,true,true,true,true,true,true,true,true,false,false] rfl rfl (zaO HT_.out (by kernel_rfl)) (by decide) (fun K hK=>?_)
     refine value_ (w1:=?_) (v:=?_) (by rfl) rfl ?_ ?_
     rotate_left 2
     ·
      go_simp
      constructor
      ·
       rfl
      ·
       rfl
     have hB:Below V.heap.size V (V.alloc (.cells #[.bool false,.slice none 0 0,.slice none 0 0] 36 (0,0))):=zab (Below.refl _ _) _
     have hN:=zbp V (.cells #[.bool false,.slice none 0 0,.slice none 0 0] 36 (0,0))
     have hbn:=Aside0.mk (zag hbv.out hB)
     refine hK.out _ _ ((HG.out _ hbn.out).1) (fun hHeld=>?_)
     clear hK K
     refine zaS (a':=?_) ?_ ?_
     rotate_left
     ·
      show Act.put _ (some 7) _=_
      simp only [Act.put,List.setIfInBounds_toArray,List.set_cons_zero,List.set_cons_succ,zaq,zar]
      rfl
     exact zaS (by first | (simp only [putAll,Act.put,List.setIfInBounds_toArray,List.set_cons_zero,List.set_cons_succ]; done) | (simp only [putAll,Act.put,List.setIfInBounds_toArray,List.set_cons_zero,List.set_cons_succ]; rfl)) (hJ1_3_4_8 (A1,c1,B1,d1,A3,c3,B3,d3,Ar,cr,Br,dr,V.heap.size) _ ⟨(HG.out _ hbn.out).1,K1.out.below hB,K3.out.below hB,K4.out.below hB,⟨hN,hbv.out.size⟩,hbn.out⟩)
   rintro⟨A1,c1,B1,d1,A3,c3,B3,d3,Ar,cr,Br,dr,h8⟩ V ⟨hHeld,kK1,kK3,kK4,kK8,hb⟩
   have K1:=Aside0.mk kK1
   have K3:=Aside0.mk kK3
   have K4:=Aside0.mk kK4
   have K8:=Aside0.mk kK8
   have hbv:=Aside0.mk hb
   clear hb kK1 kK3 kK4 kK8
   refine zaS (a':=?_) ?_ ?_
   rotate_left
   ·
    simp only [putAll,Act.put,List.setIfInBounds_toArray,List.set_cons_zero,List.set_cons_succ]
    rfl
   refine last_ (i:=9) (N:=none) #[true,true,true,true,true,true,true,true,true,true,false] rfl rfl (zaO HT_.out (by kernel_rfl)) (by decide) (fun K hK=>?_)
   obtain⟨⟨z0,z1,z2⟩,z3,z4,z5⟩:=zat K8.out.1
   refine skip_ (w1:=?_) (by rfl) rfl ?_ ?_
   rotate_left
   ·
    go_simp
    rfl
   refine hK.out _ _ ?_
   clear hK K
   refine zaA (i:=10) (N:=some 8) (v:=?_) (a':=?_) #[true,true,true,true,true,true,true,true,true,true,true] rfl rfl (zay HT_.out (by kernel_rfl)) (fun _ _ _ h=>h) (Or.inl ⟨by rfl,?_⟩) ?_ ?_
   rotate_left
   ·
    intro w'
    go_simp
    with_reducible rfl
   rotate_left
   ·
    simp only [Act.put,List.setIfInBounds_toArray,List.set_cons_zero,List.set_cons_succ,zaq,zar]
    rfl
   refine done_ (done_of HT_.out (by kernel_rfl)) ?_
   clear hHeld z0 z1 z2 z3 z4 z5
   rw [store3_eq]
   have hg8:=zaK (K8.out.1) (.bool Q.1) (.slice Ar (dg 10000 Q.2.1).length cr) (.slice Br (dg 10000 Q.2.2).length dr)
   have hq4:=(K4.out.store3 K8.out.1 (.bool Q.1) (.slice Ar (dg 10000 Q.2.1).length cr) (.slice Br (dg 10000 Q.2.2).length dr))
   have hb8:Below W8.heap.size W8 (store3 V h8 (.bool Q.1) (.slice Ar (dg 10000 Q.2.1).length cr) (.slice Br (dg 10000 Q.2.2).length dr)):=zaL (hbv.out) K8.out.2 (.bool Q.1) (.slice Ar (dg 10000 Q.2.1).length cr) (.slice Br (dg 10000 Q.2.2).length dr)
   generalize store3 V h8 (.bool Q.1) (.slice Ar (dg 10000 Q.2.1).length cr) (.slice Br (dg 10000 Q.2.2).length dr)=W9 at hg8 hq4 hb8 ⊢
   clear hbv K1 K3 K4 K8
   have hS:=HG.out _ hb8
   obtain⟨⟨s0,s1,s2,s3,s4,s5,s6,s7,s8⟩,hr,hBw⟩:=hS
   have HBw:=Aside0.mk hBw
   obtain⟨⟨z0,z1,z2⟩,z3,z4,z5⟩:=zat hg8
   have HI:=Aside0.mk (ref_is_n hq4.qd hr N1.out rfl)
   clear hBw hr hq4
   go_wp2_with fail
   refine HI.out.mono ?_
   rintro e w8 ⟨rfl,hB⟩
   have HB2:=Aside0.mk (zag HBw.out hB)
   clear hB
   go_wp2_with fail
   refine(known_q _).mono ?_
   rintro e w9 ⟨rfl,hB⟩
   have HB3:=Aside0.mk (zag HB2.out hB)
   clear hB
   go_wp2
   go_ret
   exact⟨rfl,HB3.out⟩
end Go.Proofs.Ytehghijlchpeaaa.Nat1
end
section
namespace Go.Proofs.Ytehghijlchpeaaa.ratQuotients
open Go.ChangeShapes Go.WideShapes Go.ChangeAt Go.RowKit Go.Joins Go.Proofs.Ytehghijlchpeaaa.Nat1
open Go.ChangeMaps (open_string shut_string)
set_option linter.unusedVariables false
theorem own:ownKnob Try.prog.godebug=none:=by kernel_rfl
theorem laidOut:laidOutB Try.prog=true:=by kernel_rfl
set_option maxRecDepth 100000 in
theorem lifted (os:Os) (started:os.Started) (H:Type) (enc:TypeId×Value→H) :
  ReturnsInHanded {} Try.checked os 7 .any (Rows.ratQuotientsSpec.pre6 enc Try.prog Try.f7 Rows.ratQuotientsRow.domain false) (Rows.ratQuotientsSpec.post enc Try.prog Try.f7 false true false false):=by
 refine returnsInHanded_of_change_sized (C:=Try.checked) own started (by kernel_rfl) Try.func7
  (ChangeSpec.witness6 (enc:=enc) (C:=Try.checked) false ⟨#[],#[.agg #[.bool false,.slice none 0 0,.slice none 0 0],.agg #[.bool false,.slice none 0 0,.slice none 0 0]],[]⟩ 8 (by kernel_rfl) (by kernel_rfl) (by kernel_rfl) (by kernel_rfl)) ?_
 intro W base args ds gs before hval0 hW hcnd hsz0 _
 have hval:∀ (j:Nat) t v,Try.f7.params[j]? = some t→args[j]? = some v→Value.okWide Try.prog W .any base t v:=hval0
 have hW':=hW
 obtain⟨p,q,hA0,hV,rfl,hfz,hnd⟩:=hW
 have hA:DataW.TrodAll enc Try.prog W 0 (fun _=>true) true Try.f7.params.toList args.toList ds p:=hA0
 rw [Try.params7] at hA hval
 obtain⟨v0,vs0,d0,ds0,p0,q0,hargs,rfl,rfl,h0,r0⟩:=trodAll_cons hA
 obtain⟨v1,vs1,d1,ds1,p1,q1,rfl,rfl,rfl,h1,r1⟩:=trodAll_cons r0
 obtain⟨rfl,rfl,rfl⟩:=trodAll_nil r1
 obtain rfl:args=#[v0,v1]:=by cases args; simp_all
 obtain⟨rfl,rfl⟩:=trodVars_none hV
 have k0:=h0
 have lt0:∀ x∈p0,x.block < W.heap.size:=by obtain⟨m,hm⟩:=k0; exact DataW.trod_lt m _ _ _ hm
 obtain⟨n0,A0,c0,l0,B0,e0,m0,rfl,⟨hr0,hc0,ho0⟩,⟨hs0,he0,hp0⟩⟩:=rat_arg (hval 0 25 v0 rfl rfl) h0
 have k1:=h1
 have lt1:∀ x∈p1,x.block < W.heap.size:=by obtain⟨m,hm⟩:=k1; exact DataW.trod_lt m _ _ _ hm
 obtain⟨n1,A1,c1,l1,B1,e1,m1,rfl,⟨hr1,hc1,ho1⟩,⟨hs1,he1,hp1⟩⟩:=rat_arg (hval 1 25 v1 rfl rfl) h1
 clear hA0 hval0 hsz0
 refine(ratQuotients_q n0 A0 c0 l0 B0 e0 m0 n1 A1 c1 l1 B1 e1 m1 W hr0 hc0 ho0 hs0 he0 hp0 hr1 hc1 ho1 hs1 he1 hp1).mono fun e W' ⟨he,bel⟩=>?_
 subst he
 exact⟨_,rfl,_,_,_,[],_,[],hW',trodAll_mk1 (shut_bool Try.underlying4 _),(trodAll_cons_mk (Below.trod laidOut (by kernel_rfl) (of_decide_eq_true (by kernel_rfl)) k0 bel lt0) (trodAll_cons_mk (Below.trod laidOut (by kernel_rfl) (of_decide_eq_true (by kernel_rfl)) k1 bel lt1) trodAll_mk0)),rfl,bel.frame _,fun h=>by cases h⟩
theorem over:Rows.ratQuotientsRow.holds Try.pinned (OpenSpec.ofChange Rows.ratQuotientsSpec) :=
 OpenClaim.holds_of_wide 7 Try.f7 rfl rfl rfl rfl rfl rfl rfl ⟨rfl,rfl,rfl,rfl,rfl⟩ rfl rfl rfl rfl rfl (by kernel_rfl) Try.func7 (by kernel_rfl)
  (of_decide_eq_true (by kernel_rfl)) (by unfold Func.isWrapper; first | (rw [if_pos (by decide +kernel)]; kernel_rfl) | (rw [if_neg (by decide +kernel)]; exact⟨rfl,rfl⟩))
  (fun os started H enc _=>lifted os started H enc)
end Go.Proofs.Ytehghijlchpeaaa.ratQuotients
namespace Go.Proofs.Ytehghijlchpeaaa
theorem ratQuotients_holds:Rows.RatQuotientsSaid:=ratQuotients.over
end Go.Proofs.Ytehghijlchpeaaa
end
