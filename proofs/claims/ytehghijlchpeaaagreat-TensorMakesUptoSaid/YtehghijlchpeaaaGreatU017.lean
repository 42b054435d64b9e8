/- Part 18 of the proof of tensorMakesUpto_holds: what it uses, in build order. -/
import Derived.Test.YtehghijlchpeaaaGreatU016
import Derived.Deep.Slices
set_option maxHeartbeats 8000000
set_option maxRecDepth 100000
set_option linter.unusedVariables false
set_option linter.unusedSimpArgs false
set_option linter.unusedSectionVars false
section
namespace Go.Proofs.YtehghijlchpeaaaGreat.Nat1
open Go.ChangeShapes Go.WideShapes Go.ChangeAt Go.RowKit Go.Joins Go.Deep YtehghijlchpeaaaGreatW.PrintWords YtehghijlchpeaaaGreatW.PrintLast YtehghijlchpeaaaGreatW.PrintMore L Nt
theorem bulk_one {H:Type} (d:DataW H):1≤Rows.uptoBulk d:=by
 cases d with
 | lit l=>cases l<;>simp [Rows.uptoBulk]
 | nil=>simp [Rows.uptoBulk]
 | ptr d=>simp [Rows.uptoBulk]
 | slice elems spare=>simp [Rows.uptoBulk]
 | agg parts=>simp [Rows.uptoBulk]
 | iface t d=>simp [Rows.uptoBulk]
 | map entries=>simp [Rows.uptoBulk]
 | held h=>simp [Rows.uptoBulk]
theorem bulk_part {H:Type} {d:DataW H} {l:List (DataW H)} (h:d∈l):Rows.uptoBulk d≤Rows.uptoBulkAll l:=by
 induction l with
 | nil=>cases h
 | cons x r ih =>
  simp only [Rows.uptoBulkAll]
  cases List.mem_cons.1 h with
  | inl e=>subst e; omega
  | inr e=>have:=ih e; omega
theorem bulk_len {H:Type} (l:List (DataW H)):l.length≤Rows.uptoBulkAll l:=by
 induction l with
 | nil=>simp [Rows.uptoBulkAll]
 | cons x r ih=>have:=bulk_one x; simp only [Rows.uptoBulkAll,List.length_cons]; omega
theorem bulk_slice {H:Type} (elems spare:List (DataW H)):elems.length+1≤Rows.uptoBulk (.slice elems spare):=by
 have h1:=bulk_len elems
 simp only [Rows.uptoBulk]
 omega
theorem bulk_elem {H:Type} {d:DataW H} {elems spare:List (DataW H)} (h:d∈elems):Rows.uptoBulk d≤Rows.uptoBulk (.slice elems spare):=by
 have:=bulk_part h
 simp only [Rows.uptoBulk]
 omega
theorem bulk_agg {H:Type} {d:DataW H} {parts:List (DataW H)} (h:d∈parts):Rows.uptoBulk d≤Rows.uptoBulk (.agg parts):=by
 have:=bulk_part h
 simp only [Rows.uptoBulk]
 omega
theorem row_len {H:Type} {enc:TypeId×Value→H} {W:World} {m:Nat} {v:Value} {y:DataW H×List MemPlace} {t e:TypeId} {k:IntKind} (ht:Tryz.prog.underlying t=some (.slice e)) (he:Tryz.prog.underlying e=some (.int k)) (hc:Tryz.prog.cellsOf e=1) (h:DataW.trod enc Tryz.prog W 0 (fun _=>true) true m t [v]=some y) {A:Option Addr} {n c:Nat} (ev:v=.slice A n c):n≤Rows.uptoBulk y.1:=by
 rcases open_ints ht he hc h with ⟨hcs,_⟩ | ⟨x,l,cap,zs,hcs,_,hl,hm,hz,rfl,hcell,hwz⟩
 ·
  injection hcs with hcs _
  rw [ev] at hcs
  injection hcs with _ h2 _
  omega
 ·
  injection hcs with hcs _
  rw [ev] at hcs
  injection hcs with _ h2 _
  have hb:=bulk_slice (H:=H) (lits k (zs.take l)) (lits k (zs.drop l))
  have hll:(lits (H:=H) k (zs.take l)).length=l:=by
   simp at hz
   simp [lits,hz]
   omega
  simp only at hb ⊢
  omega
theorem shape_arg {H:Type} {enc:TypeId×Value→H} {W:World} {m:Nat} {v:Value} {y:DataW H×List MemPlace} (h:DataW.trod enc Tryz.prog W 0 (fun _=>true) true m 23 [v]=some y) :
  ∃ (A:Option Addr) (c:Nat) (l:List Int),v=.slice A l.length c∧Kd.C (Kd.int .i64) W A l.length l∧l.length≤c:=by
 obtain⟨a,len,cap,zs,rfl,hz⟩:∃ a len cap zs,v=.slice a len cap∧((a=none∧len=0∧cap=0∧zs=[])∨∃ x,a=some x∧len≤cap∧cap≤maxLen∧zs.length=cap∧(∀ i,i < zs.length→W.cell? (x.add i)=some (.int .i64 (zs.getD i 0)))∧∀ n∈zs,(Lit.int .i64 n).wf=true):=by
  rcases open_ints Tryz.underlying23 Tryz.underlying3 (by kernel_rfl) h with ⟨hcs,_⟩ | ⟨x,l,c,zs,hcs,_,hl,hm,hz,_,hcell,hwz⟩
  ·
   injection hcs with hcs _
   exact⟨none,0,0,[],hcs,.inl ⟨rfl,rfl,rfl,rfl⟩⟩
  ·
   injection hcs with hcs _
   exact⟨some x,l,c,zs,hcs,.inr ⟨_,rfl,hl,hm,by simpa using hz,hcell,hwz⟩⟩
 obtain⟨l,rfl,hr,hm,hw,hc⟩:=zaY.ofRowC hz
 exact⟨a,cap,l,rfl,Kd.C_of_reads (d:=(0:Int)) (h1:=fun _=>rfl) hr,hc⟩
theorem elems_arg {H:Type} {enc:TypeId×Value→H} {W:World} {m:Nat} {v:Value} {y:DataW H×List MemPlace} (h:DataW.trod enc Tryz.prog W 0 (fun _=>true) true m 28 [v]=some y) :
  ∃ (B:Option Addr) (c:Nat) (es:List M.S27),v=.slice B es.length c∧Kd.C M.k27 W B es.length es∧es.length≤c∧es.length≤Rows.uptoBulk y.1∧∀ x∈es,ok B32 x.f1∧ok B32 x.f2∧x.f1.length≤Rows.uptoBulk y.1∧x.f2.length≤Rows.uptoBulk y.1:=by
 rcases open_slice Tryz.underlying28 h with ⟨hcs,rfl⟩ | ⟨a,len,cap,mm,n,D,Pl,hcs,hb,hl,hm,hmm,rfl,hx⟩
 ·
  injection hcs with hcs _
  exact⟨none,0,[],hcs,⟨rfl,by decide,fun h=>absurd h (by decide)⟩,Nat.le_refl _,Nat.zero_le _,fun x hx=>by cases hx⟩
 ·
  injection hcs with hcs _
  subst hcs
  have hlm:len≤mm:=by rw [hmm]; simp; exact hl
  have hsz:Tryz.prog.cellsOf 27=3:=by kernel_rfl
  have each:∀ i,i < len→∃ x:M.S27,(∃ cs,cs.length=3∧M.k27.K W x cs∧∀ j u,cs[j]? = some u→W.cell? (a.add (i*3+j))=some u)∧ok B32 x.f1∧ok B32 x.f2∧x.f1.length≤Rows.uptoBulk (D i)∧x.f2.length≤Rows.uptoBulk (D i):=by
   intro i hi
   obtain⟨cs,h1,h2⟩:=hx i (by omega)
   rw [hsz] at h1
   obtain⟨_,hlen,hcell⟩:=World.cells?_some h1
   obtain⟨y0,y1,y2,k,hxy,_,g0,g1,g2⟩:=trod_struct3 Tryz.underlying27 h2
   match cs,hlen with
   | [v0,v1,v2],_ =>
    obtain⟨nn,e0,_⟩:=DataW.trod_bool Tryz.underlying4 (by simpa [show Tryz.prog.cellsOf 4=1 by kernel_rfl] using g0)
    have g1':DataW.trod enc Tryz.prog W 0 (fun _=>true) true k 25 [v1]=some y1:=by simpa [show Tryz.prog.cellsOf 25=1 by kernel_rfl] using g1
    have g2':DataW.trod enc Tryz.prog W 0 (fun _=>true) true k 25 [v2]=some y2:=by simpa [show Tryz.prog.cellsOf 25=1 by kernel_rfl] using g2
    obtain⟨A1,c1,p,hp,hp1,hp2,hp3⟩:=nat_arg g1'
    obtain⟨A2,c2,q,hq,hq1,hq2,hq3⟩:=nat_arg g2'
    have b1:=row_len Tryz.underlying25 Tryz.underlying81 (by kernel_rfl) g1' hp
    have b2:=row_len Tryz.underlying25 Tryz.underlying81 (by kernel_rfl) g2' hq
    simp only [Prod.mk.injEq] at hxy
    have d1:Rows.uptoBulk y1.1≤Rows.uptoBulk (D i):=by rw [hxy.1]; exact bulk_agg (by simp)
    have d2:Rows.uptoBulk y2.1≤Rows.uptoBulk (D i):=by rw [hxy.1]; exact bulk_agg (by simp)
    simp at e0
    subst e0 hp hq
    refine⟨⟨nn,p,q⟩,⟨[.bool nn,.slice A1 p.length c1,.slice A2 q.length c2],rfl,M.k27_mk W ⟨nn,p,q⟩ hp2 hp1 hq2 hq1,?_⟩,hp3,hq3,by show p.length≤_; omega,by show q.length≤_; omega⟩
    intro j u hu
    have hj:j < 3:=by
     have:=(List.getElem?_eq_some_iff.1 hu).1
     simpa using this
    have:=hcell j hj
    rw [Go.Deep.add_add] at this
    rw [this]
    exact hu
  have:Inhabited M.S27:=⟨M.z27⟩
  obtain⟨X,hX⟩:=choose_lt each
  have hDl:∀ i,i < len→Rows.uptoBulk (D i)≤Rows.uptoBulk (DataW.slice ((List.range len).map D) ((List.range (mm-len)).map fun j=>D (len+j))):=fun i hi=>bulk_elem (List.mem_map.2 ⟨i,List.mem_range.2 hi,rfl⟩)
  have hlen:((List.range len).map X).length=len:=by simp
  have hmem:∀ x∈(List.range len).map X,∃ i,i < len∧x=X i:=fun x hx=>by
   obtain⟨i,hi,rfl⟩:=List.mem_map.1 hx
   exact⟨i,List.mem_range.1 hi,rfl⟩
  refine⟨some a,cap,(List.range len).map X,by rw [hlen],?_,by rw [hlen]; exact hl,?_,?_⟩
  ·
   rw [hlen]
   refine⟨by simp,Nat.le_trans hl (Nat.le_trans hm (by decide)),fun _=>⟨a,rfl,fun j p hp=>?_⟩⟩
   obtain⟨hj,rfl⟩:j < len∧X j=p:=by
    have h1:=List.getElem?_eq_some_iff.1 hp
    obtain⟨h1,h2⟩:=h1
    simp at h1 h2
    exact⟨h1,h2⟩
   exact(hX j hj).1
  ·
   rw [hlen]
   have:=bulk_slice (H:=H) ((List.range len).map D) ((List.range (mm-len)).map fun j=>D (len+j))
   simp at this ⊢
   omega
  ·
   intro x hx
   obtain⟨i,hi,rfl⟩:=hmem x hx
   have:=hDl i hi
   obtain⟨_,h1,h2,h3,h4⟩:=hX i hi
   exact⟨h1,h2,Nat.le_trans h3 this,Nat.le_trans h4 this⟩
theorem tensor_arg {H:Type} {enc:TypeId×Value→H} {W:World} {r:Reach} {b0:Nat} {v:Value} {d:DataW H} {p:List MemPlace} (hv:Value.okWide Tryz.prog W r b0 30 v) (h:DataW.Trod enc Tryz.prog W 0 (fun _=>true) true 30 v d p) (hk:Rows.uptoBulk d≤1048576) :
  ∃ (A:Option Addr) (c:Nat) (sh:List Int) (B:Option Addr) (cc:Nat) (es:List M.S27),v=.agg #[.slice A sh.length c,.slice B es.length cc]∧(Kd.C (Kd.int .i64) W A sh.length sh∧sh.length≤c∧sh.length≤1048576)∧(Kd.C M.k27 W B es.length es∧es.length≤cc∧es.length≤1048576)∧∀ x∈es,eOk x∧x.f1.length≤1048576∧x.f2.length≤1048576:=by
 obtain⟨v0,v1,y0,y1,m,rfl,rfl,rfl,hy0,hy1⟩:=open_agg2 Tryz.underlying30 (by kernel_rfl) (by kernel_rfl) hv h
 obtain⟨A,c,sh,e1,h1,h2⟩:=shape_arg hy0
 have b1:=row_len Tryz.underlying23 Tryz.underlying3 (by kernel_rfl) hy0 e1
 obtain⟨B,cc,es,e2,g1,g2,g3,g4⟩:=elems_arg hy1
 have d1:Rows.uptoBulk y0.1≤1048576:=Nat.le_trans (bulk_agg (by simp)) hk
 have d2:Rows.uptoBulk y1.1≤1048576:=Nat.le_trans (bulk_agg (by simp)) hk
 subst e1 e2
 refine⟨A,c,sh,B,cc,es,rfl,⟨h1,h2,by omega⟩,⟨g1,g2,by omega⟩,fun x hx=>?_⟩
 obtain⟨k1,k2,k3,k4⟩:=g4 x hx
 exact⟨⟨⟨k1,by omega⟩,⟨k2,by omega⟩⟩,by omega,by omega⟩
end Go.Proofs.YtehghijlchpeaaaGreat.Nat1
end
section
namespace Go.Proofs.YtehghijlchpeaaaGreat.Nat1
open Go.RowKit YtehghijlchpeaaaGreatW.PrintWords YtehghijlchpeaaaGreatW.PrintLast YtehghijlchpeaaaGreatW.PrintMore L Nt Ev
def eN (x:M.S27):QN:=nrm x.f0 (val B32 x.f1) (val B32 x.f2)
theorem EL.nr {w:World} {v:Value} {x:M.S27} (h:EL w v x) (hk:eOk x):NR w v (eN x):=by
 obtain⟨A1,c1,A2,c2,rfl,h1,h2⟩:=h
 exact⟨x.f0,A1,c1,x.f1,A2,c2,x.f2,rfl,⟨h1.1,h1.2,hk.1⟩,⟨h2.1,h2.2,hk.2⟩,rfl⟩
theorem at_n {A:Option Addr} {c:Nat} {sh:List Int} {B:Option Addr} {d:Nat} {es:List M.S27} {I:Option Addr} {ci:Nat} {idx:List Int} {k o:Nat} {w:World} (hr1:Kd.C (Kd.int .i64) w A sh.length sh) (hc1:sh.length≤c) (hr2:Kd.C M.k27 w B es.length es) (hc2:es.length≤d) (hlen:es.length≤4398046511104) (hok:∀ x∈es,eOk x)
  (hr3:Kd.C (Kd.int .i64) w I idx.length idx) (hc3:idx.length≤ci) (hm:tmayV sh es=0) (ho:M.shape_Offset.f k sh idx=some ((o:Int),0)) (hoe:o < es.length) :
  Calls Tryz.prog 31 #[.agg #[.slice A sh.length c,.slice B es.length d],.slice I idx.length ci] w (RTE w (eN (M.rd_T27 es (o:Int))) 0):=by
 have hu67:=Tryz.underlying30
 have hu25:=Tryz.underlying27
 have HM:=Aside0.mk (fun (W:World) (hb:Below w.heap.size w W)=>tmay_n A c sh B d es W (Kd.C_below hr1 hb) hc1 (Kd.C_below hr2 hb) hc2 hlen hok)
 have HO:=Aside0.mk (fun (W:World) (hb:Below w.heap.size w W)=>M.shape_Offset.calls k A c sh I ci idx _ _ W (Kd.C_below hr1 hb) hc1 (Kd.C_below hr3 hb) hc3 ho)
 have HC:=Aside0.mk hr2
 have HK:=Aside0.mk (rd_ok hok o)
 rw [hm] at HM
 clear hr1 hr2 hr3 hok hm ho
 go_enter Tryz.func31,Tryz.ntmps31
 go_wp2_with fail
 have hx0:=zah (zaw w (.cells #[.slice A sh.length c,.slice B es.length d] 30)) (.cells #[.bool false,.slice none 0 0,.slice none 0 0] 27)
 have hx1:=zaw (w.alloc (.cells #[.slice A sh.length c,.slice B es.length d] 30)) (.cells #[.bool false,.slice none 0 0,.slice none 0 0] 27)
 rw [show (w.alloc (.cells #[.slice A sh.length c,.slice B es.length d] 30)).heap.size=w.heap.size+1 by simp] at hx1
 have hbw:Below w.heap.size w ((w.alloc (.cells #[.slice A sh.length c,.slice B es.length d] 30)).alloc (.cells #[.bool false,.slice none 0 0,.slice none 0 0] 27)):=zab (zab (Below.refl _ _) _) _
 generalize (w.alloc (.cells #[.slice A sh.length c,.slice B es.length d] 30)).alloc (.cells #[.bool false,.slice none 0 0,.slice none 0 0] 27)=W0 at hx0 hx1 hbw ⊢
 refine(HM.out W0 hbw).mono ?_
 rintro e W1 ⟨rfl,hB⟩
 replace hx0:=zae hx0 hB
 replace hx1:=zae hx1 hB
 replace hbw:=zaa hbw hB
 have c0:W1.cell? ⟨w.heap.size,0,none⟩=some (.slice A sh.length c):=(zad hx0 0).trans rfl
 have HX:=Aside0.mk (And.intro hx0 (And.intro hx1 hbw))
 clear hx0 hx1 hbw hB HM
 go_wp2_with fail
 clear c0
 refine(HO.out W1 HX.out.2.2).mono ?_
 rintro e W2 ⟨rfl,hB⟩
 have hB2:Below W1.heap.size W1 W2:=by first | exact hB | (obtain⟨m,rfl⟩:=hB.out; exact zac (Below.refl _ _) m)
 replace HX:=Aside0.mk (And.intro (zae HX.out.1 hB2) (And.intro (zae HX.out.2.1 hB2) (zaa HX.out.2.2 hB2)))
 clear hB hB2 HO
 obtain⟨ad,A1,c1,A2,c2,e1,q0,q1,q2,l1,g1,l2,g2⟩:=M.at_T27 (Kd.C_below HC.out HX.out.2.2) (o:Int) (by omega) (by omega)
 subst e1
 rw [Int.toNat_natCast] at q0 q1 q2
 have HE:=Aside0.mk (norm_n (EL.nr (w:=W2) (x:=M.rd_T27 es (o:Int)) ⟨A1,c1,A2,c2,rfl,⟨g1,l1⟩,⟨g2,l2⟩⟩ HK.out))
 have d1:W2.cell? ⟨w.heap.size,1,none⟩=some (.slice (some ad) es.length d):=(zad HX.out.1 1).trans rfl
 clear g1 g2 l1 l2
 go_wp2_with fail
 clear d1 q0 q1 q2
 refine HE.out.mono ?_
 rintro e W3 ⟨v,rfl,hR,hB⟩
 obtain⟨D1,m1,D2,m2,rfl,-,-⟩:=hR.args
 have hz:=zae HX.out.2.1 hB
 have HR:=Aside0.mk (And.intro hR (And.intro hz (zaa HX.out.2.2 hB)))
 obtain⟨⟨z0,z1,z2⟩,z3,z4,z5⟩:=zav hz
 have hsz:=HX.out.2.2.size
 have HSZ:=Aside0.mk hsz
 clear hR hB hz hsz
 go_wp2
 refine bodyPost_ret (results_ct rfl _ _ (w.heap.size+1) 27 _ (0,0) _ rfl (zaN HR.out.2.1 _ _ _) Tryz.underlying27 rfl (by kernel_rfl)) rfl ?_
 exact⟨_,_,_,_,rfl,(HR.out.1.store3 HR.out.2.1 _ _ _).lower HSZ.out,zaO HR.out.2.2 (by omega) _ _ _⟩
end Go.Proofs.YtehghijlchpeaaaGreat.Nat1
end
section
namespace Go.Proofs.YtehghijlchpeaaaGreat.Nat1
open Go.RowKit Go.Shelf YtehghijlchpeaaaGreatW.PrintWords YtehghijlchpeaaaGreatW.PrintLast YtehghijlchpeaaaGreatW.PrintMore L Nt Ev Rd
attribute [local go_sem] Oper.semAt_some
def eB (x:M.S27):Int:=mx (nb (eN x).2.1:Int) (nb (eN x).2.2:Int)
def bitsL (n:Int) (es:List M.S27):Int:=es.foldl (fun n x=>max n (eB x)) n
theorem rd_range (es:List M.S27):(List.range es.length).map (fun i:Nat=>M.rd_T27 es (i:Int))=es:=by
 apply List.ext_getElem
 ·
  simp
 ·
  intro i h1 h2
  simp [M.rd_T27,List.getD_eq_getElem?_getD,List.getElem?_eq_getElem h2]
theorem tbits_n (A:Option Addr) (n c:Nat) (B:Option Addr) (d:Nat) (es:List M.S27) (w:World) (hr2:Kd.C M.k27 w B es.length es) (hc2:es.length≤d) (hlen:es.length≤4398046511104) (hok:∀ x∈es,eOk x) :
  Calls Tryz.prog 82 #[.agg #[.slice A n c,.slice B es.length d]] w fun e w'=>e=.returned (.int .i64 (bitsL 0 es))∧Below w.heap.size w w':=by
 have hu67:=Tryz.underlying30
 have hu25:=Tryz.underlying27
 obtain⟨ev,hev,hec⟩:=evs hr2
 have HEV:=Aside0.mk hev
 have HEC:=Aside0.mk hec
 have HOK:=Aside0.mk (fun i:Nat=>rd_ok hok i)
 clear hr2 hok hev hec
 refine(callsIn_wide (n:=3)).1 ?_
 refine callsIn_of_wp_marks Tryz.func82 rfl trivial ?_ rfl
 simp only [Tryz.ntmps82,List.size_toArray,List.length_cons,List.length_nil,Nat.reduceAdd,Nat.reduceSub,Array.replicate_succ,Array.replicate_zero,List.push_toArray,List.append_toArray,List.nil_append,List.cons_append]
 gi_wp2_with fail
 have hx1:=zaw (w.alloc (.cells #[.slice A n c,.slice B es.length d] 30)) (.cells #[.int .i64 0] 3 (0,0))
 rw [show (w.alloc (.cells #[.slice A n c,.slice B es.length d] 30)).heap.size=w.heap.size+1 by simp] at hx1
 have hbw:Below w.heap.size w ((w.alloc (.cells #[.slice A n c,.slice B es.length d] 30)).alloc (.cells #[.int .i64 0] 3 (0,0))):=zab (zab (Below.refl _ _) _) _
 generalize (w.alloc (.cells #[.slice A n c,.slice B es.length d] 30)).alloc (.cells #[.int .i64 0] 3 (0,0))=W0 at hx1 hbw ⊢
 have HX:=Aside0.mk (And.intro hx1 hbw)
 clear hx1 hbw
 refine⟨trivial,(callsIn_wide.2 (of_t W0 A n c B es.length d)).mono ?_⟩
 rintro e W2 ⟨rfl,hB⟩
 replace HX:=Aside0.mk (And.intro (zae HX.out.1 hB) (zaa HX.out.2 hB))
 clear hB
 gi_wp2_with fail
 refine⟨trivial,(callsIn_wide.2 (all_calls (.slice A n c) (.slice B es.length d) W2)).mono ?_⟩
 rintro e W3 ⟨rfl,hG,hB⟩
 replace HX:=Aside0.mk (And.intro (zae HX.out.1 hB) (zaa HX.out.2 hB))
 have HG:=Aside0.mk hG
 clear hG hB
 gi_wp2_with fail
 refine wpIn_rangeFunc_ownH rfl (by omega) (gf:=134) (lb:=#[.pointer (some ⟨W2.heap.size,0,none⟩)]) rfl trivial (za7 Tryz.func134 (by kernel_rfl) rfl)
  (all_stops Fence.wide _ trivial rfl (by omega) W2.heap.size w.heap.size es.length hlen (.slice A n c) B d ev w W3 HX.out.2 (Nat.le_refl _) HX.out.2.size HEC.out HG.out) belowK_t (belowK_b HX.out.2.size) (Below.refl _ _) (fun _=>rfl)
  (fun (pre:List Nat) W=>Below w.heap.size w W∧W.heap[w.heap.size+1]? = some (.cells #[.int .i64 (bitsL 0 (pre.map (fun i:Nat=>M.rd_T27 es (i:Int))))] 3 (0,0)))
  (fun _ _ _=>False)
  ?hI ?hIx ?h0
  (fun (x:Nat) a' W=>∃ (b:Nat) (p q r:Value),a'={ tmps:=#[.agg #[.slice A n c,.slice B es.length d],.pointer (some ⟨w.heap.size,0,none⟩),.pointer (some ⟨w.heap.size+1,0,none⟩),undef,.pointer (some ⟨b,0,none⟩),.agg #[.slice A n c,.slice B es.length d],.agg #[.slice A n c,.slice B es.length d],.func (.func 134) #[] #[.pointer (some ⟨W2.heap.size,0,none⟩)],.int .i64 (x:Int),ev x,undef,undef,undef,undef,undef],defers:=[] }∧ev x=.agg #[p,q,r]∧w.heap.size≤b∧b≠w.heap.size+1∧W.heap[b]? = some (.cells #[p,q,r] 27 (0,0)))
  ?hAx ?assign ?body ?done ?stop
 case hI =>
  rintro pre X Y row ⟨hs1,hs2⟩ hg hr
  exact⟨ownFrom_below (β:=List Nat) (Nat.le_refl _) HX.out.2.size pre X Y row hs1 hg hr,(hg.block _ (lt_of_block hs2) (fun e=>by have h1:=(hr _ e.symm).1; have h2:=lt_of_block HX.out.1; omega)).trans hs2⟩
 case hIx=>exact fun c s W W' row hs hg hr=>hs
 case h0=>exact⟨HX.out.2,HX.out.1⟩
 case hAx =>
  rintro x a' s X Y row ⟨b,p,q,r,h1,h2,h3,h5,h4⟩ hg hr
  refine⟨b,p,q,r,h1,h2,h3,h5,(hg.block b (lt_of_block h4) (fun e=>?_)).trans h4⟩
  obtain⟨_,o,ho,hc⟩:=hr b e.symm
  rw [h4] at ho
  cases ho
  cases hc
 case assign =>
  rintro l pre x W K ⟨hB,hc⟩ hK
  obtain⟨A1,c1,A2,c2,hex,-,-⟩:=HEV.out x
  rw [hex]
  have HK2:=Aside0.mk hK
  clear hK
  gi_wp2_with fail
  have hA:=zab (Below.refl W.heap.size W) (.cells #[.bool (M.rd_T27 es (x:Int)).f0,.slice A1 (M.rd_T27 es (x:Int)).f1.length c1,.slice A2 (M.rd_T27 es (x:Int)).f2.length c2] 27)
  exact HK2.out _ _ ((keepsO hA).from _) (hA.mono hB.size) ⟨zab hB _,zah hc _⟩ ⟨W.heap.size,_,_,_,by rw [hex],hex,hB.size,Nat.ne_of_gt (zaz hc),zaw W _⟩
 case body =>
  rintro l pre x a' W hl hr ⟨hB,hc⟩ ⟨b,p,q,r,rfl,hex,hb,hbne,hbk⟩ hlen2
  generalize hacc:bitsL 0 (pre.map (fun i:Nat=>M.rd_T27 es (i:Int)))=acc at hc
  have HAC:=Aside0.mk hacc
  have HM:=Aside0.mk (fun (W':World) (h:Below W.heap.size W W')=>bits_n (EL.nr ((HEV.out x).below (zaa hB h)) (HOK.out x)))
  rw [hex] at HM
  have HY:=Aside0.mk (And.intro hB (And.intro hc (And.intro hbk hbne)))
  clear hB hc hr hacc hbk hbne
  gi_wp2_with fail
  have HF:Aside0 (∀ w':World,Below W.heap.size W w'→(w'.cell? ⟨w.heap.size+1,0,none⟩=some (.int .i64 acc)∧w'.cell? ⟨b,0,none⟩=some p∧w'.cell? ⟨b,1,none⟩=some q∧w'.cell? ⟨b,2,none⟩=some r)∧w'.heap[w.heap.size+1]? = some (.cells #[.int .i64 acc] 3 (0,0))):=⟨fun w' h=>⟨⟨(zad (zae HY.out.2.1 h) 0).trans rfl,(zad (zae HY.out.2.2.1 h) 0).trans rfl,(zad (zae HY.out.2.2.1 h) 1).trans rfl,(zad (zae HY.out.2.2.1 h) 2).trans rfl⟩,zae HY.out.2.1 h⟩⟩
  refine start_round (m:=5) (S:=fun w'=>(w'.cell? ⟨w.heap.size+1,0,none⟩=some (.int .i64 acc)∧w'.cell? ⟨b,0,none⟩=some p∧w'.cell? ⟨b,1,none⟩=some q∧w'.cell? ⟨b,2,none⟩=some r)) (ds:=[4]) #[zf,zf,zf,zf,zf] (by kernel_rfl) (by kernel_rfl) (by rintro⟨a,w,h⟩; exact h) rfl rfl ((HF.out _ (zag (Below.refl _ _))).1) (fun hHeld=>?_)
  have hb0:=Aside0.mk (show Below W.heap.size W W.drew from zag (Below.refl _ _))
  generalize W.drew=V0 at hb0 hHeld ⊢
  refine qt 0 (some 10) ?_
  refine qt 1 (some 11) ?_
  refine qo 2 (some 12) (fun K hK=>?_)
  refine qg Tryz.func132 #[.agg #[p,q,r]] ?_
  refine(HM.out V0 hb0.out).mono ?_
  rintro e V1 ⟨rfl,hB⟩
  refine⟨_,rfl,?_⟩
  have hb1:=Aside0.mk (zaa hb0.out hB)
  clear hB hb0
  refine hK.out _ _ ((HF.out _ hb1.out).1) (fun hHeld=>?_)
  clear hK K
  refine qn ?_
  refine qp 3 (some 13) ?_
  refine ql 4 none (fun K hK=>?_)
  have hf3:=zap (HF.out _ hb1.out).2 0
  have hc3:=(HF.out _ hb1.out).1.1
  refine qx ?_
  refine hK.out _ _ ?_
  clear hK K
  refine done_ (by kernel_rfl) ?_
  have hE:bitsL 0 ((pre++[x]).map (fun i:Nat=>M.rd_T27 es (i:Int)))=max acc (eB (M.rd_T27 es (x:Int))):=by
   rw [List.map_append,bitsL,List.foldl_append]
   show max (bitsL 0 _) _=_
   rw [HAC.out]
  refine⟨((keepsO hb1.out).trans (KeepsOthers.setCell _ _ _)).from _,(hb1.out.mono HY.out.1.size).trans ((Below.refl w.heap.size V1).setCell (p:=⟨w.heap.size+1,0,none⟩) (by simp) _),⟨(zaa HY.out.1 hb1.out).setCell (p:=⟨w.heap.size+1,0,none⟩) (by simp) _,?_⟩⟩
  rw [hE]
  exact one_setCell (HF.out _ hb1.out).2
 case done =>
  rintro D ys W hD rfl ⟨hB,y2⟩ hK
  rw [rd_range] at y2
  have q2:=cell_of_one y2
  have f2:=free_of_one y2
  gi_wp2
  have hK':=(KeepsOthers.setCell W ⟨w.heap.size+1,0,none⟩ (.int .i64 (bitsL 0 es))).same D _ hK rfl
  refine⟨by simp,.inl ⟨_,_,rfl,run_takeDeferred hK',?_⟩⟩
  have hc5:=cell_kept (cell_of_one (one_setCell y2 (u:=.int .i64 (bitsL 0 es)))) (grownBy_putObj' _ D (.deferred none)) (fun r e=>by cases e; exact⟨_,hK',rfl⟩)
  refine⟨.int .i64 (bitsL 0 es),?_,rfl,(hB.setCell (p:=⟨w.heap.size+1,0,none⟩) (by simp) _).trans (belowK_b (w:=w) (Nat.le_refl _) _ D _ _ (Nat.le_trans HX.out.2.size hD) hK' rfl rfl)⟩
  simp [results,Tryz.f82,go_sem,hc5]
 case stop =>
  rintro D cd pre W hD hpre hF hK
  exact hF.elim
end Go.Proofs.YtehghijlchpeaaaGreat.Nat1
end
section
namespace Go.Proofs.YtehghijlchpeaaaGreat.Nat1
open Go.RowKit YtehghijlchpeaaaGreatW.PrintWords YtehghijlchpeaaaGreatW.PrintLast YtehghijlchpeaaaGreatW.PrintMore L Nt Ev
structure OI (w:World) (gO:Nat) (S BT1 BT2:Value) (sh:List Int) (es:List M.S27) (i:Nat) (W:World):Prop where
 v:∃ (E:Option Addr) (cE:Nat),W.heap[gO]? = some (.cells #[S,.slice E (es.take i).length cE] 30 (0,0))∧Kd.R M.k27 27 W w.heap.size (fun k=>gO < k) (.slice E (es.take i).length cE) (es.take i)
 sh:Kd.R (Kd.int .i64) 3 W w.heap.size (fun k=>k < gO) S sh
 bt:W.heap[w.heap.size]? = some (.cells #[BT1,BT2] 30 (0,0))
 bz:W.heap[w.heap.size+1]? = some (.cells #[.slice none 0 0,.slice none 0 0] 30 (0,0))
 be:Below w.heap.size w W
theorem take_succ_rd {es:List M.S27} {i:Nat} (h:i < es.length):es.take (i+1)=es.take i++[M.rd_T27 es (i:Int)]:=by
 rw [List.take_succ_eq_append_getElem h]
 congr 1
 simp [M.rd_T27,List.getD_eq_getElem?_getD,List.getElem?_eq_getElem h]
theorem town_n (A:Option Addr) (c:Nat) (sh:List Int) (B:Option Addr) (d:Nat) (es:List M.S27) (w:World) (hr1:Kd.C (Kd.int .i64) w A sh.length sh) (hc1:sh.length≤c) (hr2:Kd.C M.k27 w B es.length es) (hc2:es.length≤d) (hl1:sh.length≤1099511627776) (hlen:es.length≤1099511627776) (hok:∀ x∈es,eOk x) :
  Calls Tryz.prog 20 #[.agg #[.slice A sh.length c,.slice B es.length d]] w fun e w'=>∃ A' c' B' d',e=.returned (.agg #[.slice A' sh.length c',.slice B' es.length d']) ∧
   Kd.R (Kd.int .i64) 3 w' w.heap.size (fun _=>True) (.slice A' sh.length c') sh∧Kd.R M.k27 27 w' w.heap.size (fun _=>True) (.slice B' es.length d') es∧Below w.heap.size w w':=by
 have hu67:=Tryz.underlying30
 have hu25:=Tryz.underlying27
 have HRC:=Aside0.mk (fun (W:World) (hb:Below w.heap.size w W)=>Kd.C_below hr1 hb)
 have HR2:=Aside0.mk hr2
 have HOK:=Aside0.mk (fun i:Nat=>rd_ok hok i)
 clear hr1 hr2 hok
 go_enter Tryz.func20,Tryz.ntmps20
 go_wp2_with ((with_reducible refine zaB (b:=.append) rfl ?_); go_must (refine Kd.R_append_row (Value.int .i64) (0:Int) _ rfl _ _ 23 3 (.int .i64 0) 8 rfl Tryz.underlying23 M.info3 rfl (by omega) (.slice none 0 0) [] sh A sh.length c (fun _=>True) rfl rfl (fun _ _=>trivial) (Kd.R_nil _ _ _ _ _) (HRC.out _ (zab (zab (Below.refl _ _) _) _)) (Below.refl _ _) (Nat.le_refl _) (by simp only [List.length_nil]; omega) ?_); intro v1 W1 hR hB hx1 hx2; clear hx1 hx2; obtain⟨S1,k1,rfl⟩:=Kd.R_slice hR; have HS1:=Aside0.mk hR; have HB1:=Aside0.mk hB; clear hR hB)
 obtain⟨gO,hgO⟩:∃ g,g=W1.heap.size:=⟨_,rfl⟩
 have hsz0:((w.alloc (.cells #[.slice A sh.length c,.slice B es.length d] 30)).alloc (.cells #[.slice none 0 0,.slice none 0 0] 30)).heap.size=w.heap.size+1+1:=by simp
 have hx0:=zah (zae (zah (zaw w (.cells #[.slice A sh.length c,.slice B es.length d] 30)) (.cells #[.slice none 0 0,.slice none 0 0] 30)) HB1.out) (.cells #[.slice S1 sh.length k1,.slice none 0 0] 30)
 have hx1:=zaw (w.alloc (.cells #[.slice A sh.length c,.slice B es.length d] 30)) (.cells #[.slice none 0 0,.slice none 0 0] 30)
 rw [show (w.alloc (.cells #[.slice A sh.length c,.slice B es.length d] 30)).heap.size=w.heap.size+1 by simp] at hx1
 replace hx1:=zah (zae hx1 HB1.out) (.cells #[.slice S1 sh.length k1,.slice none 0 0] 30)
 have hx2:=zaw W1 (.cells #[.slice S1 sh.length k1,.slice none 0 0] 30)
 have hbw:Below w.heap.size w (W1.alloc (.cells #[.slice S1 sh.length k1,.slice none 0 0] 30)):=zab (zaa (zab (zab (Below.refl _ _) _) _) HB1.out) _
 have hsz1:=HB1.out.size
 rw [hsz0] at hsz1
 have hS1:Kd.R (Kd.int .i64) 3 W1 (w.heap.size+1+1) (fun _=>True) (.slice S1 sh.length k1) sh:=by
  have h:=HS1.out
  rw [hsz0] at h
  exact h
 have HI0:=Aside0.mk (show OI w gO (.slice S1 sh.length k1) (.slice A sh.length c) (.slice B es.length d) sh es 0 (W1.alloc (.cells #[.slice S1 sh.length k1,.slice none 0 0] 30)) from
  ⟨⟨none,0,by rw [hgO]; exact hx2,Kd.R_nil _ _ _ _ _⟩,Kd.R_alloc (Kd.R_mono (Kd.R_lower (Kd.R_bound hS1) (by omega)) (fun k hk=>by rw [hgO]; exact hk.2.2.1)) _,hx0,hx1,hbw⟩)
 have HGO:=Aside0.mk (show w.heap.size+1 < gO by omega)
 rw [← hgO]
 generalize W1.alloc (.cells #[.slice S1 sh.length k1,.slice none 0 0] 30)=W2 at HI0 ⊢
 clear hx0 hx1 hx2 hbw hsz0 hsz1 hS1 HS1 HB1 hgO
 go_loopw [4] (fun iv wr=>∃ i:Nat,iv=.int .i64 i∧i≤es.length∧Aside0 (OI w gO (.slice S1 sh.length k1) (.slice A sh.length c) (.slice B es.length d) sh es i wr)) (fun iv _=>es.length-(intOf iv).toNat)
 case atStart=>exact⟨0,rfl,by omega,HI0⟩
 case round =>
  obtain⟨i,rfl,hi,HI⟩:=hrel
  obtain⟨E,cE,hv1,hv2⟩:=HI.out.v
  by_cases hlt:i < es.length
  ·
   obtain⟨ad,A1,c1,A2,c2,e,q0,q1,q2,l1,g1,l2,g2⟩:=M.at_T27 HR2.out (i:Int) (by omega) (by omega)
   subst e
   rw [Int.toNat_natCast] at q0 q1 q2
   have HCO:=Aside0.mk (fun (W:World) (hb:Below w.heap.size w W)=>ownR_q (M.rd_T27 es (i:Int)).f0 A1 c1 (M.rd_T27 es (i:Int)).f1 A2 c2 (M.rd_T27 es (i:Int)).f2 W (Kd.C_below g1 hb) l1 (Kd.C_below g2 hb) l2 (Nat.le_trans (HOK.out i).1.2 (by decide)) (Nat.le_trans (HOK.out i).2.2 (by decide)))
   have HV2:=Aside0.mk hv2
   obtain⟨n,hn⟩:∃ n,n=(es.take i).length:=⟨_,rfl⟩
   have HN:=Aside0.mk hn
   rw [← hn] at hv1
   clear hv2 g1 g2 l1 l2 hn
   have HS:Aside0 (∀ w':World,Below w.heap.size w w'→w'.heap[gO]? = some (.cells #[.slice S1 sh.length k1,.slice E n cE] 30 (0,0))→w'.heap[w.heap.size]? = some (.cells #[.slice A sh.length c,.slice (some ad) es.length d] 30 (0,0))→(w'.cell? ⟨gO,1,none⟩=some (.slice E n cE)∧w'.cell? ⟨w.heap.size,1,none⟩=some (.slice (some ad) es.length d)∧w'.cell? (ad.add (i*3))=some (.bool (M.rd_T27 es (i:Int)).f0)∧w'.cell? ⟨(ad.add (i*3)).block,(ad.add (i*3)).off+1,none⟩=some (.slice A1 (M.rd_T27 es (i:Int)).f1.length c1)∧w'.cell? ⟨(ad.add (i*3)).block,(ad.add (i*3)).off+2,none⟩=some (.slice A2 (M.rd_T27 es (i:Int)).f2.length c2))):=⟨fun w' h h1 h2=>⟨(zad h1 1).trans rfl,(zad h2 1).trans rfl,(h.cell (World.block_lt_of_cell? w _ q0)).trans q0,(h.cell (World.block_lt_of_cell? w _ q1)).trans q1,(h.cell (World.block_lt_of_cell? w _ q2)).trans q2⟩⟩
   clear q0 q1 q2
   have s0:=(HS.out wr HI.out.be hv1 HI.out.bt)
   obtain⟨s1,s2,s3,s4,s5⟩:=s0
   go_wp2_with fail
   clear s1 s2 s3 s4 s5
   refine zbg (n:=12) (S:=fun w'=>(w'.cell? ⟨gO,1,none⟩=some (.slice E n cE)∧w'.cell? ⟨w.heap.size,1,none⟩=some (.slice (some ad) es.length d)∧w'.cell? (ad.add (i*3))=some (.bool (M.rd_T27 es (i:Int)).f0)∧w'.cell? ⟨(ad.add (i*3)).block,(ad.add (i*3)).off+1,none⟩=some (.slice A1 (M.rd_T27 es (i:Int)).f1.length c1)∧w'.cell? ⟨(ad.add (i*3)).block,(ad.add (i*3)).off+2,none⟩=some (.slice A2 (M.rd_T27 es (i:Int)).f2.length c2))) (ds:=[11]) #[zf,zf,zf,zf,zf,zf,zf,zf,zf,zf,zf,zf] (by kernel_rfl) rfl rfl ((HS.out _ (zaa HI.out.be (zag (Below.refl _ _))) (zai hv1) (zai HI.out.bt))) (fun hHeld=>?_)
   have hb0:=Aside0.mk (show Below wr.heap.size wr wr.drew from zag (Below.refl _ _))
   generalize wr.drew=V0 at hb0 hHeld ⊢
   refine qp 0 (some 16) ?_
   refine qp 2 (some 18) ?_
   refine qp 4 (some 20) ?_
   refine qt 1 (some 17) ?_
   refine qt 3 (some 19) ?_
   refine qp 5 (some 21) ?_
   refine qt 6 (some 22) ?_
   refine qo 7 (some 23) (fun K hK=>?_)
   refine qg Tryz.func17 #[.agg #[.bool (M.rd_T27 es (i:Int)).f0,.slice A1 (M.rd_T27 es (i:Int)).f1.length c1,.slice A2 (M.rd_T27 es (i:Int)).f2.length c2]] ?_
   refine(HCO.out V0 (zaa HI.out.be hb0.out)).mono ?_
   rintro e V1 ⟨u1,u2,rfl,R1,R2,hB⟩
   refine⟨_,rfl,?_⟩
   obtain⟨F1,f1,rfl⟩:=Kd.R_slice R1
   obtain⟨F2,f2,rfl⟩:=Kd.R_slice R2
   have HP:=Aside0.mk (M.k27_mkM V1 w.heap.size (fun k=>V0.heap.size≤k) (M.rd_T27 es (i:Int)) (Kd.R_mono (Kd.R_lower (Kd.R_bound R1) (zaa HI.out.be hb0.out).size) (fun k hk=>hk.2.1)) (Kd.R_mono (Kd.R_lower (Kd.R_bound R2) (zaa HI.out.be hb0.out).size) (fun k hk=>hk.2.1)))
   have hb1:=Aside0.mk (zaa hb0.out hB)
   clear hB R1 R2
   refine hK.out _ _ ((HS.out _ (zaa HI.out.be hb1.out) (zae hv1 hb1.out) (zae HI.out.bt hb1.out))) (fun hHeld=>?_)
   clear hK K
   refine qn ?_
   refine qo 8 (some 24) (fun K hK=>?_)
   refine qv ?_
   refine hK.out _ _ ((HS.out _ (zab (zaa HI.out.be hb1.out) _) (zah (zae hv1 hb1.out) _) (zah (zae HI.out.bt hb1.out) _))) (fun hHeld=>?_)
   clear hK K
   refine qn ?_
   refine qo 9 (some 25) (fun K hK=>?_)
   have hO:=Kd.R_below HV2.out hb1.out
   rw [← HN.out] at hO
   refine Kd.R_append_step M.k27 (w0:=w) (W:=V1) w.heap.size (by rfl) (.tmp 17) (.tmp 24) 28 27 (.agg #[.bool false,.slice none 0 0,.slice none 0 0]) 56 rfl Tryz.underlying28 J.info27 rfl (by decide) (by decide) (.slice E n cE) (es.take i) (M.rd_T27 es (i:Int)) [.bool (M.rd_T27 es (i:Int)).f0,.slice F1 (M.rd_T27 es (i:Int)).f1.length f1,.slice F2 (M.rd_T27 es (i:Int)).f2.length f2] (fun k=>gO < k) (fun k=>V0.heap.size≤k) rfl rfl HP.out (fun k hk=>⟨by have:=zaz (zae hv1 hb0.out); omega,fun e=>by have:=Kd.R_lt (Kd.R_below HV2.out hb0.out) k (by rw [← HN.out]; exact e.symm); omega⟩) (fun k hk=>by have:=zaz (zae hv1 hb1.out); omega) hO (zaa HI.out.be hb1.out) (zaa HI.out.be hb1.out).size (by rw [List.length_take]; omega) ?_
   intro v1 V2 hR hB hG hat
   have hne:∀ b o,wr.heap[b]? = some o→b≤gO→V2.heap[b]? = some o:=fun b o hbo hle=>blk_grown (zae hbo hb1.out) hG (fun e=>by have:=HV2.out.1 b (by rw [← HN.out]; exact e.symm); omega)
   have hsh:=Kd.R_grown (Kd.R_below HI.out.sh hb1.out) hG (fun k hk e=>by have:=HV2.out.1 k (by rw [← HN.out]; exact e.symm); omega)
   obtain⟨E2,e2,rfl⟩:=Kd.R_slice hR
   have HQ:=Aside0.mk (And.intro hR (And.intro hB (And.intro hsh (And.intro (hne _ _ HI.out.bt (by have:=HGO.out; omega)) (And.intro (hne _ _ HI.out.bz (by have:=HGO.out; omega)) (hne _ _ hv1 (Nat.le_refl _)))))))
   clear hR hB hG hat hne hsh hO
   refine hK.out _ _ ((HS.out _ HQ.out.2.1 HQ.out.2.2.2.2.2 HQ.out.2.2.2.1)) (fun hHeld=>?_)
   clear hK K
   refine qn ?_
   refine qp 10 (some 26) ?_
   refine ql 11 none (fun K hK=>?_)
   have hf3:=zap HQ.out.2.2.2.2.2 1
   have hc3:V2.cell? ⟨gO,1,none⟩=some (.slice E n cE):=(zad HQ.out.2.2.2.2.2 1).trans rfl
   refine qx ?_
   refine hK.out _ _ ?_
   clear hK K
   refine done_ (by kernel_rfl) ?_
   clear hHeld hf3 hc3
   go_wp2
   go_roundw
   case rel =>
    refine⟨i+1,by go_num,by omega,⟨⟨⟨E2,e2,?_,?_⟩,Kd.R_far (p:=⟨gO,1,none⟩) HQ.out.2.2.1 (fun k hk=>Nat.ne_of_lt hk) _,zax HQ.out.2.2.2.1 (by have:=HGO.out; show w.heap.size≠gO; omega) _,zax HQ.out.2.2.2.2.1 (by have:=HGO.out; show w.heap.size+1≠gO; omega) _,zao HQ.out.2.1 (by have:=HGO.out; show w.heap.size≤gO; omega)⟩⟩⟩
    ·
     have hl:(es.take (i+1)).length=i+1:=by rw [List.length_take]; omega
     rw [hl]
     exact zar (cs:=#[.slice S1 sh.length k1,.slice E n cE]) HQ.out.2.2.2.2.2 1 _ rfl
    ·
     rw [take_succ_rd hlt]
     exact Kd.R_far (p:=⟨gO,1,none⟩) HQ.out.1 (fun k hk=>Nat.ne_of_gt hk) _
   case measure=>simp [intOf]; omega
  ·
   have hie:es.take i=es:=List.take_of_length_le (by omega)
   rw [hie] at hv1 hv2
   have c1:wr.cell? ⟨w.heap.size,1,none⟩=some (.slice B es.length d):=(zad HI.out.bt 1).trans rfl
   have o0:wr.cell? ⟨gO,0,none⟩=some (.slice S1 sh.length k1):=(zad hv1 0).trans rfl
   have o1:wr.cell? ⟨gO,1,none⟩=some (.slice E es.length cE):=(zad hv1 1).trans rfl
   have z0:wr.cell? ⟨w.heap.size+1,0,none⟩=some (.slice none 0 0):=(zad HI.out.bz 0).trans rfl
   have z1:wr.cell? ⟨w.heap.size+1,1,none⟩=some (.slice none 0 0):=(zad HI.out.bz 1).trans rfl
   have y0:=zap HI.out.bz 0
   have y1:=zap HI.out.bz 1
   have HV2:=Aside0.mk hv2
   clear hv1 hv2 hie
   go_wp2
   have hn1:=zar (cs':=#[.slice S1 sh.length k1,.slice E es.length cE]) (zar (cs':=#[.slice S1 sh.length k1,.slice none 0 0]) HI.out.bz 0 (.slice S1 sh.length k1) rfl) 1 (.slice E es.length cE) rfl
   refine bodyPost_ret (results_cell_row rfl _ _ (w.heap.size+1) 30 _ (0,0) _ rfl hn1 hu67 rfl (by kernel_rfl)) rfl ?_
   have hgo:=HGO.out
   have hsh:Kd.R (Kd.int .i64) 3 wr w.heap.size (fun k=>k≠w.heap.size+1) (.slice S1 sh.length k1) sh:=Kd.R_mono (Kd.R_types HI.out.sh HI.out.bz (by decide)) (fun k hk=>hk.2)
   exact⟨S1,k1,E,cE,rfl,Kd.R_mono (Kd.R_far (p:=⟨w.heap.size+1,1,none⟩) (Kd.R_far (p:=⟨w.heap.size+1,0,none⟩) hsh (fun k hk=>hk) _) (fun k hk=>hk) _) (fun _ _=>trivial),
    Kd.R_mono (Kd.R_far (p:=⟨w.heap.size+1,1,none⟩) (Kd.R_far (p:=⟨w.heap.size+1,0,none⟩) HV2.out (fun k hk=>by show k≠w.heap.size+1; omega) _) (fun k hk=>by show k≠w.heap.size+1; omega) _) (fun _ _=>trivial),
    zao (zao HI.out.be (by show w.heap.size≤w.heap.size+1; omega)) (by show w.heap.size≤w.heap.size+1; omega)⟩
end Go.Proofs.YtehghijlchpeaaaGreat.Nat1
end
section
namespace Go.Proofs.YtehghijlchpeaaaGreat.Nat1
open Go.RowKit YtehghijlchpeaaaGreatW.PrintWords YtehghijlchpeaaaGreatW.PrintLast YtehghijlchpeaaaGreatW.PrintMore L Nt Ev
theorem makeF_n (A:Option Addr) (c:Nat) (sh:List Int) (B:Option Addr) (d:Nat) (es:List M.S27) (w:World) (hr1:Kd.C (Kd.int .i64) w A sh.length sh) (hc1:sh.length≤c) (hr2:Kd.C M.k27 w B es.length es) (hc2:es.length≤d) (hne:fitV sh es.length≠0) :
  Calls Tryz.prog 29 #[.slice A sh.length c,.slice B es.length d] w fun e w'=>e=.returned (.tuple #[.agg #[.slice none 0 0,.slice none 0 0],.int .i64 (fitV sh es.length)])∧Below w.heap.size w w':=by
 have hu67:=Tryz.underlying30
 have HFIT:=Aside0.mk (fun (W:World) (hb:Below w.heap.size w W)=>by
  obtain⟨k,hk⟩:=fits_ev sh es
  exact M.tensor_fits.calls k A c sh B d es _ W (Kd.C_below hr1 hb) hc1 (Kd.C_below hr2 hb) hc2 (hk k (Nat.le_refl _)))
 generalize fitV sh es.length=f at HFIT hne ⊢
 clear hr1 hr2
 go_enter Tryz.func29,Tryz.ntmps29
 go_wp2_with fail
 have hx0:=zah (zaw w (.cells #[.slice none 0 0,.slice none 0 0] 30)) (.cells #[.slice A sh.length c,.slice B es.length d] 30)
 have hbw:Below w.heap.size w ((w.alloc (.cells #[.slice none 0 0,.slice none 0 0] 30)).alloc (.cells #[.slice A sh.length c,.slice B es.length d] 30)):=zab (zab (Below.refl _ _) _) _
 generalize (w.alloc (.cells #[.slice none 0 0,.slice none 0 0] 30)).alloc (.cells #[.slice A sh.length c,.slice B es.length d] 30)=W0 at hx0 hbw ⊢
 refine(HFIT.out W0 hbw).mono ?_
 rintro e W1 ⟨rfl,hB⟩
 replace hx0:=zae hx0 hB
 replace hbw:=zaa hbw hB
 have z0:W1.cell? ⟨w.heap.size,0,none⟩=some (.slice none 0 0):=(zad hx0 0).trans rfl
 have z1:W1.cell? ⟨w.heap.size,1,none⟩=some (.slice none 0 0):=(zad hx0 1).trans rfl
 have y0:=zap hx0 0
 have y1:=zap hx0 1
 have HX:=Aside0.mk (And.intro hx0 hbw)
 have hf1:(f == 0)=false:=by rw [beq_eq_false_iff_ne]; exact hne
 have hf2:(f != 0)=true:=by rw [bne_iff_ne]; exact hne
 clear hx0 hbw hB HFIT
 go_wp2
 have hn1:=zar (cs':=#[.slice none 0 0,.slice none 0 0]) (zar (cs':=#[.slice none 0 0,.slice none 0 0]) HX.out.1 0 (.slice none 0 0) rfl) 1 (.slice none 0 0) rfl
 refine bodyPost_ret (results_ct rfl _ _ w.heap.size 30 _ (0,0) _ rfl hn1 hu67 rfl (by kernel_rfl)) rfl ?_
 exact⟨rfl,zao (zao HX.out.2 (Nat.le_refl _)) (Nat.le_refl _)⟩
end Go.Proofs.YtehghijlchpeaaaGreat.Nat1
end
section
namespace Go.Proofs.YtehghijlchpeaaaGreat.Ev
open Go.RowKit YtehghijlchpeaaaGreatW.PrintWords YtehghijlchpeaaaGreatW.PrintLast YtehghijlchpeaaaGreatW.PrintMore L Nt Nat1
theorem eqS_loop {l:List Int} (hl:l.length≤4611686018427387904) (n:Nat):∀ i,i+n=l.length→Ev (fun k=>M.api_Shape_int.l0 k l l (l.length:Int) (i:Int)) true:=by
 induction n with
 | zero =>
  intro i hi
  refine Ev.succ (Ev.congr (Ev.some _) (fun k=>?_))
  rw [M.api_Shape_int.l0,if_neg (by omega)]
 | succ n ih =>
  intro i hi
  refine Ev.succ (Ev.congr (ih (i+1) (by omega)) (fun k=>?_))
  rw [M.api_Shape_int.l0,if_pos (by omega),if_pos (by omega),if_pos (by omega),if_pos (by omega),if_pos rfl,w_succ (by omega)]
theorem eqS_ev {l:List Int} (hl:l.length≤4611686018427387904):Ev (fun k=>M.api_Shape_int.f k l l) true:=by
 refine Ev.congr (eqS_loop hl l.length 0 (by omega)) (fun k=>?_)
 rw [M.api_Shape_int.f,if_pos rfl]
 rfl
end Go.Proofs.YtehghijlchpeaaaGreat.Ev
namespace Go.Proofs.YtehghijlchpeaaaGreat.Nat1
open Go.RowKit YtehghijlchpeaaaGreatW.PrintWords YtehghijlchpeaaaGreatW.PrintLast YtehghijlchpeaaaGreatW.PrintMore L Nt Ev
def dotP (es fs:List M.S27):Nat→QN
 | 0=>(false,0,1)
 | i+1=>addQ (dotP es fs i) (mulQ (eN (M.rd_T27 es (i:Int))) (eN (M.rd_T27 fs (i:Int))))
theorem red_eN (x:M.S27):red (eN x):=nrm_red _ _ _
end Go.Proofs.YtehghijlchpeaaaGreat.Nat1
end
section
namespace Go.Proofs.YtehghijlchpeaaaGreat.Nat1
open Go.RowKit Go.Shelf YtehghijlchpeaaaGreatW.PrintWords YtehghijlchpeaaaGreatW.PrintLast YtehghijlchpeaaaGreatW.PrintMore L Nt Ev Rd
attribute [local go_sem] Oper.semAt_some
def dotF (es fs:List M.S27) (a:QN) (i:Nat):QN:=addQ a (mulQ (eN (M.rd_T27 es (i:Int))) (eN (M.rd_T27 fs (i:Int))))
def dotI (es fs:List M.S27) (l:List Nat):QN:=l.foldl (dotF es fs) (false,0,1)
theorem dotI_range (es fs:List M.S27):∀ n,dotI es fs (List.range n)=dotP es fs n
 | 0=>rfl
 | n+1=>by
  rw [List.range_succ,dotI,List.foldl_append]
  show dotF es fs (dotI es fs (List.range n)) n=_
  rw [dotI_range es fs n]
  rfl
theorem dotI_snoc (es fs:List M.S27) (l:List Nat) (i:Nat):dotI es fs (l++[i])=addQ (dotI es fs l) (mulQ (eN (M.rd_T27 es (i:Int))) (eN (M.rd_T27 fs (i:Int)))):=by
 rw [dotI,List.foldl_append]
 rfl
theorem red_foldl (es fs:List M.S27):∀ (l:List Nat) (a:QN),red a→red (l.foldl (dotF es fs) a)
 | [],_,h=>h
 | _ :: l,_,_=>red_foldl es fs l _ (red_add _ _)
theorem red_dotI (es fs:List M.S27) (l:List Nat):red (dotI es fs l):=red_foldl es fs l _ (show red ((false,0,1):QN) from ⟨by decide,by decide,by decide⟩)
theorem lim_foldl {es fs:List M.S27} {L:Nat} (h1:∀ i:Nat,lim L (eN (M.rd_T27 es (i:Int)))) (h2:∀ i:Nat,lim L (eN (M.rd_T27 fs (i:Int)))) (hL:0 < L):∀ (l:List Nat) (a:QN) (k:Nat),lim k a→lim (k+l.length*(L+L+1)) (l.foldl (dotF es fs) a)
 | [],a,k,h=>by rw [List.length_nil,Nat.zero_mul]; exact h
 | x :: l,a,k,h=>by
  have h3:=lim_foldl h1 h2 hL l _ _ (lim_add h (lim_mul (h1 x) (h2 x) (by omega)))
  have e:k+(L+L)+1+l.length*(L+L+1)=k+(x :: l).length*(L+L+1):=by rw [List.length_cons,Nat.succ_mul]; omega
  rw [e] at h3
  exact h3
theorem lim_dotI {es fs:List M.S27} {L:Nat} (h1:∀ i:Nat,lim L (eN (M.rd_T27 es (i:Int)))) (h2:∀ i:Nat,lim L (eN (M.rd_T27 fs (i:Int)))) (hL:0 < L) (l:List Nat):lim (1+l.length*(L+L+1)) (dotI es fs l) :=
 lim_foldl h1 h2 hL l _ 1 ⟨by decide,by decide⟩
theorem lim_eN {es:List M.S27} {L:Nat} (hL:0 < L) (h:∀ x∈es,eOk x∧x.f1.length≤L∧x.f2.length≤L) (i:Nat):lim L (eN (M.rd_T27 es (i:Int))):=by
 have key:eOk (M.rd_T27 es (i:Int))∧(M.rd_T27 es (i:Int)).f1.length≤L∧(M.rd_T27 es (i:Int)).f2.length≤L:=by
  unfold M.rd_T27
  rw [Int.toNat_natCast,List.getD_eq_getElem?_getD]
  rcases Nat.lt_or_ge i es.length with hi | hi
  ·
   rw [List.getElem?_eq_getElem hi]
   exact h _ (List.getElem_mem hi)
  ·
   rw [List.getElem?_eq_none hi]
   exact⟨⟨okS_nil,okS_nil⟩,Nat.zero_le _,Nat.zero_le _⟩
 exact lim_nrm (Nat.lt_of_lt_of_le (val_lt key.1.1.1) (Nat.pow_le_pow_right (by decide) key.2.1)) (Nat.lt_of_lt_of_le (val_lt key.1.2.1) (Nat.pow_le_pow_right (by decide) key.2.2)) hL
theorem RT.grown {w w':World} {b:Nat} {v:Value} {r:QN} {row:Option Nat} (h:RT w b v r) (hg:w.grownBy w' row) (hr:∀ k,row=some k→∃ o:Obj,w.heap[k]? = some o∧o.isCells=false):RT w' b v r:=by
 obtain⟨v1,v2,rfl,h1,h2⟩:=h
 have key:∀ (v:Value) (l:List Int),Kd.R (Kd.int .u32) 81 w b (fun _=>True) v l→∀ k,row=some k→some k≠v.ownBlock:=by
  intro v l h k e e2
  obtain⟨cells,hc⟩:=Kd.R_typed h k e2.symm
  obtain⟨o,ho,hn⟩:=hr k e
  rw [hc] at ho
  cases ho
  cases hn
 exact⟨v1,v2,rfl,Kd.R_grown2 h1 rfl hg (key _ _ h1),Kd.R_grown2 h2 rfl hg (key _ _ h2)⟩
structure DBx (w:World) (A B A' B':Value) (W:World):Prop where
 b0:W.heap[w.heap.size]? = some (.cells #[A,B] 30 (0,0))
 b1:W.heap[w.heap.size+1]? = some (.cells #[A',B'] 30 (0,0))
 b2:W.heap[w.heap.size+1+1]? = some (.cells #[.bool false,.slice none 0 0,.slice none 0 0] 27 (0,0))
 b3:W.heap[w.heap.size+1+1+1]? = some (.cells #[A,B,A',B'] 30 (0,0))
 be:Below w.heap.size w W
theorem DBx.below {w W W':World} {A B A' B':Value} (h:DBx w A B A' B' W) (hb:Below W.heap.size W W'):DBx w A B A' B' W' :=
 ⟨zae h.b0 hb,zae h.b1 hb,zae h.b2 hb,zae h.b3 hb,zaa h.be hb⟩
theorem DBx.alloc {w W:World} {A B A' B':Value} (h:DBx w A B A' B' W) (o:Obj):DBx w A B A' B' (W.alloc o):=h.below (zab (Below.refl _ _) _)
theorem keeps3 (W:World) (g:Nat) (a b c:Value):KeepsOthers W (store3 W g a b c):=((KeepsOthers.setCell _ _ _).trans (KeepsOthers.setCell _ _ _)).trans (KeepsOthers.setCell _ _ _)
theorem below3 {n:Nat} {W V:World} (h:Below n W V) {g:Nat} (hg:n≤g) (a b c:Value):Below n W (store3 V g a b c):=((h.setCell (p:=⟨g,0,none⟩) hg a).setCell (p:=⟨g,1,none⟩) hg b).setCell (p:=⟨g,2,none⟩) hg c
theorem DBx.store3 {w W:World} {A B A' B':Value} (h:DBx w A B A' B' W) {g:Nat} (hg:w.heap.size+1+1+1 < g) (a b c:Value):DBx w A B A' B' (store3 W g a b c) :=
 ⟨(zaW (by omega) a b c).trans h.b0,(zaW (by omega) a b c).trans h.b1,(zaW (by omega) a b c).trans h.b2,(zaW (by omega) a b c).trans h.b3,zaO h.be (by omega) a b c⟩
theorem blk_own {W W':World} {b:Nat} {cs:Array Value} {t:Nat} {row:Option Nat} (h:W.heap[b]? = some (.cells cs t (0,0))) (hg:W.grownBy W' row) (hr:∀ k,row=some k→∃ o:Obj,W.heap[k]? = some o∧o.isCells=false):W'.heap[b]? = some (.cells cs t (0,0)) :=
 (hg.block _ (lt_of_block h) (fun e=>by
  obtain⟨o,ho,hc⟩:=hr b e.symm
  rw [h] at ho
  cases ho
  cases hc)).trans h
def SUM (w:World) (gs:Nat) (X:QN) (W:World):Prop:=∃ F1 f1 F2 f2,W.heap[gs]? = some (.cells #[.bool X.1,.slice F1 (dg B32 X.2.1).length f1,.slice F2 (dg B32 X.2.2).length f2] 27 (0,0))∧RT W w.heap.size (.agg #[.bool X.1,.slice F1 (dg B32 X.2.1).length f1,.slice F2 (dg B32 X.2.2).length f2]) X
theorem dot_n (A:Option Addr) (c:Nat) (sh:List Int) (B:Option Addr) (d:Nat) (es:List M.S27) (A':Option Addr) (c':Nat) (B':Option Addr) (d':Nat) (fs:List M.S27) (L:Nat) (w:World) (hr1:Kd.C (Kd.int .i64) w A sh.length sh) (hc1:sh.length≤c) (hr2:Kd.C M.k27 w B es.length es) (hc2:es.length≤d) (hr3:Kd.C (Kd.int .i64) w A' sh.length sh) (hc3:sh.length≤c') (hr4:Kd.C M.k27 w B' fs.length fs) (hc4:fs.length≤d')
  (hlen:es.length≤1024) (hle:fs.length=es.length) (hL0:0 < L) (hL1:L≤33554432) (hok:∀ x∈es,eOk x∧x.f1.length≤L∧x.f2.length≤L) (hok':∀ x∈fs,eOk x∧x.f1.length≤L∧x.f2.length≤L) (hm1:tmayV sh es=0) (hm2:tmayV sh fs=0) (hls:sh.length≤4611686018427387904) :
  Calls Tryz.prog 37 #[.agg #[.slice A sh.length c,.slice B es.length d],.agg #[.slice A' sh.length c',.slice B' fs.length d']] w (RTE w (dotP es fs es.length) 0):=by
 have hu67:=Tryz.underlying30
 have hu25:=Tryz.underlying27
 have HMA:=Aside0.mk (fun (W:World) (hb:Below w.heap.size w W)=>tmay_n A c sh B d es W (Kd.C_below hr1 hb) hc1 (Kd.C_below hr2 hb) hc2 (Nat.le_trans hlen (by decide)) (fun x hx=>(hok x hx).1))
 have HMB:=Aside0.mk (fun (W:World) (hb:Below w.heap.size w W)=>tmay_n A' c' sh B' d' fs W (Kd.C_below hr3 hb) hc3 (Kd.C_below hr4 hb) hc4 (by rw [hle]; exact Nat.le_trans hlen (by decide)) (fun x hx=>(hok' x hx).1))
 have HEQ:=Aside0.mk (fun (W:World) (hb:Below w.heap.size w W)=>by
  obtain⟨k,hk⟩:=eqS_ev (l:=sh) hls
  exact M.api_Shape_int.calls k A c sh A' c' sh _ W (Kd.C_below hr1 hb) hc1 (Kd.C_below hr3 hb) hc3 (hk k (Nat.le_refl _)))
 rw [hm1] at HMA
 rw [hm2] at HMB
 have HQ:Aside0 (∀ pre:List Nat,pre.length≤es.length→okQ (dotI es fs pre)):=⟨fun pre hp=>lim_ok (lim_dotI (lim_eN hL0 hok) (lim_eN hL0 hok') hL0 pre) (by
  have h1:pre.length*(L+L+1)≤1024*(33554432+33554432+1):=Nat.mul_le_mul (by omega) (by omega)
  omega)⟩
 have HQM:Aside0 (∀ i:Nat,okQ (mulQ (eN (M.rd_T27 es (i:Int))) (eN (M.rd_T27 fs (i:Int))))):=⟨fun i=>lim_ok (lim_mul (lim_eN hL0 hok i) (lim_eN hL0 hok' i) (by omega)) (by omega)⟩
 obtain⟨ev,hev,hec⟩:=evs hr2
 have HEV:=Aside0.mk hev
 have HEC:=Aside0.mk hec
 have HR4:=Aside0.mk hr4
 have HOK:=Aside0.mk (fun i:Nat=>rd_ok (fun x hx=>(hok x hx).1) i)
 have HOK':=Aside0.mk (fun i:Nat=>rd_ok (fun x hx=>(hok' x hx).1) i)
 have HLE:=Aside0.mk hle
 clear hr1 hr2 hr3 hr4 hok hok' hev hec hL0 hL1 hm1 hm2 hls hle
 refine(callsIn_wide (n:=3)).1 ?_
 refine callsIn_of_wp_marks Tryz.func37 rfl trivial ?_ rfl
 simp only [Tryz.ntmps37,List.size_toArray,List.length_cons,List.length_nil,Nat.reduceAdd,Nat.reduceSub,Array.replicate_succ,Array.replicate_zero,List.push_toArray,List.append_toArray,List.nil_append,List.cons_append]
 gi_wp2_with fail
 have hx0:=zah (zah (zah (zaw w (.cells #[.slice A sh.length c,.slice B es.length d] 30)) (.cells #[.slice A' sh.length c',.slice B' fs.length d'] 30)) (.cells #[.bool false,.slice none 0 0,.slice none 0 0] 27)) (.cells #[.slice A sh.length c,.slice B es.length d,.slice A' sh.length c',.slice B' fs.length d'] 30)
 have hx1:=zah (zah (zaw (w.alloc (.cells #[.slice A sh.length c,.slice B es.length d] 30)) (.cells #[.slice A' sh.length c',.slice B' fs.length d'] 30)) (.cells #[.bool false,.slice none 0 0,.slice none 0 0] 27)) (.cells #[.slice A sh.length c,.slice B es.length d,.slice A' sh.length c',.slice B' fs.length d'] 30)
 have hx2:=zah (zaw ((w.alloc (.cells #[.slice A sh.length c,.slice B es.length d] 30)).alloc (.cells #[.slice A' sh.length c',.slice B' fs.length d'] 30)) (.cells #[.bool false,.slice none 0 0,.slice none 0 0] 27)) (.cells #[.slice A sh.length c,.slice B es.length d,.slice A' sh.length c',.slice B' fs.length d'] 30)
 have hx3:=zaw (((w.alloc (.cells #[.slice A sh.length c,.slice B es.length d] 30)).alloc (.cells #[.slice A' sh.length c',.slice B' fs.length d'] 30)).alloc (.cells #[.bool false,.slice none 0 0,.slice none 0 0] 27)) (.cells #[.slice A sh.length c,.slice B es.length d,.slice A' sh.length c',.slice B' fs.length d'] 30)
 have hbw:Below w.heap.size w ((((w.alloc (.cells #[.slice A sh.length c,.slice B es.length d] 30)).alloc (.cells #[.slice A' sh.length c',.slice B' fs.length d'] 30)).alloc (.cells #[.bool false,.slice none 0 0,.slice none 0 0] 27)).alloc (.cells #[.slice A sh.length c,.slice B es.length d,.slice A' sh.length c',.slice B' fs.length d'] 30)):=zab (zab (zab (zab (Below.refl _ _) _) _) _) _
 rw [show (w.alloc (.cells #[.slice A sh.length c,.slice B es.length d] 30)).heap.size=w.heap.size+1 by simp] at hx1
 rw [show ((w.alloc (.cells #[.slice A sh.length c,.slice B es.length d] 30)).alloc (.cells #[.slice A' sh.length c',.slice B' fs.length d'] 30)).heap.size=w.heap.size+1+1 by simp] at hx2
 rw [show (((w.alloc (.cells #[.slice A sh.length c,.slice B es.length d] 30)).alloc (.cells #[.slice A' sh.length c',.slice B' fs.length d'] 30)).alloc (.cells #[.bool false,.slice none 0 0,.slice none 0 0] 27)).heap.size=w.heap.size+1+1+1 by simp] at hx3
 generalize ((((w.alloc (.cells #[.slice A sh.length c,.slice B es.length d] 30)).alloc (.cells #[.slice A' sh.length c',.slice B' fs.length d'] 30)).alloc (.cells #[.bool false,.slice none 0 0,.slice none 0 0] 27)).alloc (.cells #[.slice A sh.length c,.slice B es.length d,.slice A' sh.length c',.slice B' fs.length d'] 30))=W0 at hx0 hx1 hx2 hx3 hbw ⊢
 have HX0:=Aside0.mk (show DBx w (.slice A sh.length c) (.slice B es.length d) (.slice A' sh.length c') (.slice B' fs.length d') W0 from ⟨hx0,hx1,hx2,hx3,hbw⟩)
 clear hx0 hx1 hx2 hx3 hbw
 gi_loopw [16] (fun iv wr=>∃ k:Nat,k≤2∧iv=.int .i64 k∧Aside0 (DBx w (.slice A sh.length c) (.slice B es.length d) (.slice A' sh.length c') (.slice B' fs.length d') wr)) (fun iv _=>2-(intOf iv).toNat)
 case atStart=>exact⟨0,by omega,rfl,HX0⟩
 case round =>
  obtain⟨k,hk,rfl,HI⟩:=hrel
  obtain rfl | rfl | rfl:k=0∨k=1∨k=2:=by omega
  ·
   have c0:wr.cell? ⟨w.heap.size+1+1+1,0,none⟩=some (.slice A sh.length c):=(zad HI.out.b3 0).trans rfl
   have c1:wr.cell? ⟨w.heap.size+1+1+1,1,none⟩=some (.slice B es.length d):=(zad HI.out.b3 1).trans rfl
   gi_wp2_with fail
   clear c0 c1
   refine⟨trivial,(callsIn_wide.2 (HMA.out _ (zab HI.out.be _))).mono ?_⟩
   rintro e W1 ⟨rfl,hB⟩
   have HI1:=Aside0.mk ((HI.out.alloc (.cells #[.slice A sh.length c,.slice B es.length d] 30)).below hB)
   clear hB
   gi_wp2
   go_roundw
   case rel=>exact⟨1,by omega,rfl,HI1⟩
   case measure=>simp [intOf]
  ·
   have c0:wr.cell? ⟨w.heap.size+1+1+1,2,none⟩=some (.slice A' sh.length c'):=(zad HI.out.b3 2).trans rfl
   have c1:wr.cell? ⟨w.heap.size+1+1+1,3,none⟩=some (.slice B' fs.length d'):=(zad HI.out.b3 3).trans rfl
   gi_wp2_with fail
   clear c0 c1
   refine⟨trivial,(callsIn_wide.2 (HMB.out _ (zab HI.out.be _))).mono ?_⟩
   rintro e W1 ⟨rfl,hB⟩
   have HI1:=Aside0.mk ((HI.out.alloc (.cells #[.slice A' sh.length c',.slice B' fs.length d'] 30)).below hB)
   clear hB
   gi_wp2
   go_roundw
   case rel=>exact⟨2,by omega,rfl,HI1⟩
   case measure=>simp [intOf]
  ·
   have c0:wr.cell? ⟨w.heap.size,0,none⟩=some (.slice A sh.length c):=(zad HI.out.b0 0).trans rfl
   have c1:wr.cell? ⟨w.heap.size+1,0,none⟩=some (.slice A' sh.length c'):=(zad HI.out.b1 0).trans rfl
   gi_wp2_with fail
   clear c0 c1
   refine⟨trivial,(callsIn_wide.2 (HEQ.out _ HI.out.be)).mono ?_⟩
   rintro e W1 ⟨rfl,hB⟩
   have hB2:Below wr.heap.size wr W1:=by obtain⟨m,rfl⟩:=hB.out; exact zac (Below.refl _ _) m
   have HI1:=Aside0.mk (HI.out.below hB2)
   clear hB hB2 HI
   gi_wp2_with fail
   refine⟨trivial,(callsIn_wide.2 (int_n W1 (by decide) (by decide))).mono ?_⟩
   rintro e W2 ⟨v,rfl,hR,hB⟩
   rw [show ((decide ((0:Int) < 0),(0:Int).natAbs,1):QN)=(false,0,1) from rfl] at hR
   obtain⟨D1,m1,D2,m2,hv,-,-⟩:=hR.args
   have hv:v=.agg #[.bool false,.slice D1 (dg B32 0).length m1,.slice D2 (dg B32 1).length m2]:=hv
   subst hv
   have HI2:=Aside0.mk ((HI1.out.below hB).alloc (.cells #[.bool false,.slice D1 (dg B32 0).length m1,.slice D2 (dg B32 1).length m2] 27))
   replace hR:=(hR.lower HI1.out.be.size).below (zab (Below.refl _ _) (.cells #[.bool false,.slice D1 (dg B32 0).length m1,.slice D2 (dg B32 1).length m2] 27))
   have hs:=zaw W2 (.cells #[.bool false,.slice D1 (dg B32 0).length m1,.slice D2 (dg B32 1).length m2] 27)
   have hsz:=zaz (zae HI1.out.b3 hB)
   have HS:=Aside0.mk (And.intro hR (And.intro hs hsz))
   have c0:=(zad HI2.out.b0 0).trans rfl
   have c1:=(zad HI2.out.b0 1).trans rfl
   have c0:(W2.alloc (.cells #[.bool false,.slice D1 (dg B32 0).length m1,.slice D2 (dg B32 1).length m2] 27)).cell? ⟨w.heap.size,0,none⟩=some (.slice A sh.length c):=c0
   have c1:(W2.alloc (.cells #[.bool false,.slice D1 (dg B32 0).length m1,.slice D2 (dg B32 1).length m2] 27)).cell? ⟨w.heap.size,1,none⟩=some (.slice B es.length d):=c1
   clear hB HI1 hR hs hsz
   gi_wp2_with fail
   clear c0 c1
   generalize hW3:W2.alloc (.cells #[.bool false,.slice D1 (dg B32 0).length m1,.slice D2 (dg B32 1).length m2] 27)=W3 at HI2 HS ⊢
   clear hW3
   generalize W2.heap.size=gs at HS ⊢
   refine⟨trivial,(callsIn_wide.2 (of_t W3 A sh.length c B es.length d)).mono ?_⟩
   rintro e W4 ⟨rfl,hB⟩
   have HI3:=Aside0.mk (HI2.out.below hB)
   have HS3:=Aside0.mk (And.intro (HS.out.1.below hB) (And.intro (zae HS.out.2.1 hB) HS.out.2.2))
   clear hB HI2 HS
   gi_wp2_with fail
   refine⟨trivial,(callsIn_wide.2 (all_calls (.slice A sh.length c) (.slice B es.length d) W4)).mono ?_⟩
   rintro e W5 ⟨rfl,hG,hB⟩
   have HI4:=Aside0.mk (HI3.out.below hB)
   have HS4:=Aside0.mk (And.intro (HS3.out.1.below hB) (And.intro (zae HS3.out.2.1 hB) HS3.out.2.2))
   have HG:=Aside0.mk hG
   clear hG hB HI3 HS3
   gi_wp2_with fail
   have HSM:=Aside0.mk (show SUM w gs (dotI es fs []) W5 from ⟨D1,m1,D2,m2,HS4.out.2.1,HS4.out.1⟩)
   have HGS:=Aside0.mk HS4.out.2.2
   clear HS4
   refine wpIn_rangeFunc_ownH rfl (by omega) (gf:=134) (lb:=#[.pointer (some ⟨W4.heap.size,0,none⟩)]) rfl trivial (za7 Tryz.func134 (by kernel_rfl) rfl)
    (all_stopsF Fence.wide _ trivial rfl (by omega) W4.heap.size w.heap.size es.length (Nat.le_trans hlen (by decide)) (.slice A sh.length c) B d ev w W5 HI4.out.be (Nat.le_refl _) HI4.out.be.size HEC.out HG.out) belowK_t (belowK_b HI4.out.be.size) (Below.refl _ _) (fun _=>rfl)
    (fun (pre:List (Fin es.length)) W=>DBx w (.slice A sh.length c) (.slice B es.length d) (.slice A' sh.length c') (.slice B' fs.length d') W∧SUM w gs (dotI es fs (pre.map Fin.val)) W)
    (fun _ _ _=>False)
    ?hI ?hIx ?h0
    (fun (x:Fin es.length) a' W=>∃ (b:Nat) (p q r:Value),a'={ tmps:=#[.agg #[.slice A sh.length c,.slice B es.length d],.agg #[.slice A' sh.length c',.slice B' fs.length d'],.pointer (some ⟨w.heap.size,0,none⟩),.pointer (some ⟨w.heap.size+1,0,none⟩),.pointer (some ⟨w.heap.size+1+1,0,none⟩),u5,undef,u7,u8,.pointer (some ⟨gs,0,none⟩),.int .i64 (x.val:Int),.pointer (some ⟨b,0,none⟩),.agg #[.slice A sh.length c,.slice B es.length d],.agg #[.slice A' sh.length c',.slice B' fs.length d'],.slice (some ⟨w.heap.size+1+1+1,0,none⟩) 2 2,.int .i64 2,.int .i64 2,.bool false,u18,u19,u20,u21,u22,u23,u24,u25,u26,.pointer (some ⟨w.heap.size,0,none⟩),.slice A sh.length c,.pointer (some ⟨w.heap.size+1,0,none⟩),.slice A' sh.length c',.bool true,.bool false,undef,.agg #[.bool false,.slice D1 (dg B32 0).length m1,.slice D2 (dg B32 1).length m2],.agg #[.slice A sh.length c,.slice B es.length d],.agg #[.slice A sh.length c,.slice B es.length d],.func (.func 134) #[] #[.pointer (some ⟨W4.heap.size,0,none⟩)],.int .i64 (x.val:Int),ev x.val,undef,undef,undef,undef,undef,undef,undef,undef,undef,undef],defers:=[] }∧ev x.val=.agg #[p,q,r]∧w.heap.size≤b∧b≠gs∧W.heap[b]? = some (.cells #[p,q,r] 27 (0,0)))
    ?hAx ?assign ?body ?done ?stop
   case hI =>
    rintro pre X Y row ⟨h1,F1,f1,F2,f2,h2,h3⟩ hg hr
    have hr2:=fun k e=>(hr k e).2
    exact⟨⟨blk_own h1.b0 hg hr2,blk_own h1.b1 hg hr2,blk_own h1.b2 hg hr2,blk_own h1.b3 hg hr2,ownFrom_below (β:=List (Fin es.length)) (Nat.le_refl _) HI4.out.be.size pre X Y row h1.be hg hr⟩,F1,f1,F2,f2,blk_own h2 hg hr2,h3.grown hg hr2⟩
   case hIx=>exact fun c s W W' row hs hg hr=>hs
   case h0=>exact⟨HI4.out,HSM.out⟩
   case hAx =>
    rintro x a' s X Y row ⟨b,p,q,r,h1,h2,h3,h5,h4⟩ hg hr
    exact⟨b,p,q,r,h1,h2,h3,h5,blk_own h4 hg (fun k e=>(hr k e).2)⟩
   case assign =>
    rintro l pre x W K ⟨hI,hS⟩ hK
    obtain⟨A1,c1,A2,c2,hex,-,-⟩:=HEV.out x.val
    rw [hex]
    have HK2:=Aside0.mk hK
    clear hK
    gi_wp2_with fail
    have hA:=zab (Below.refl W.heap.size W) (.cells #[.bool (M.rd_T27 es (x.val:Int)).f0,.slice A1 (M.rd_T27 es (x.val:Int)).f1.length c1,.slice A2 (M.rd_T27 es (x.val:Int)).f2.length c2] 27)
    obtain⟨F1,f1,F2,f2,h2,h3⟩:=hS
    exact HK2.out _ _ ((keepsO hA).from _) (hA.mono hI.be.size) ⟨hI.alloc _,F1,f1,F2,f2,zah h2 _,h3.below hA⟩ ⟨W.heap.size,_,_,_,by rw [hex],hex,hI.be.size,Nat.ne_of_gt (zaz h2),zaw W _⟩
   case body =>
    rintro l pre x a' W hl hr ⟨hI,hS⟩ ⟨b,p,q,r,rfl,hex,hb,hbne,hbk⟩ hlen2
    obtain⟨F1,f1,F2,f2,h2,h3⟩:=hS
    generalize hacc:dotI es fs (pre.map Fin.val)=acc at h2 h3
    have HAC:=Aside0.mk hacc
    have HNS:=Aside0.mk (h3.nr (by rw [← hacc]; exact red_dotI _ _ _) (by rw [← hacc]; exact HQ.out _ (by rw [List.length_map]; omega)))
    obtain⟨ad,A1,c1,A2,c2,e,q0,q1,q2,l1,g1,l2,g2⟩:=M.at_T27 HR4.out (x.val:Int) (by omega) (by have:=HLE.out; have:=x.isLt; omega)
    subst e
    rw [Int.toNat_natCast] at q0 q1 q2
    have HM:=Aside0.mk (fun (W':World) (h:Below W.heap.size W W')=>mul_n (EL.nr ((HEV.out x.val).below (zaa hI.be h)) (HOK.out x.val)) (EL.nr (w:=W') (x:=(M.rd_T27 fs (x.val:Int))) ⟨A1,c1,A2,c2,rfl,⟨Kd.C_below g1 (zaa hI.be h),l1⟩,⟨Kd.C_below g2 (zaa hI.be h),l2⟩⟩ (HOK'.out x.val)))
    rw [hex] at HM
    have HF:Aside0 (∀ w':World,Below W.heap.size W w'→(w'.cell? ⟨gs,0,none⟩=some (.bool acc.1)∧w'.cell? ⟨gs,1,none⟩=some (.slice F1 (dg B32 acc.2.1).length f1)∧w'.cell? ⟨gs,2,none⟩=some (.slice F2 (dg B32 acc.2.2).length f2)∧w'.cell? ⟨b,0,none⟩=some p∧w'.cell? ⟨b,1,none⟩=some q∧w'.cell? ⟨b,2,none⟩=some r∧w'.cell? ⟨w.heap.size+1,1,none⟩=some (.slice (some ad) fs.length d')∧w'.cell? (ad.add (x.val*3))=some (.bool (M.rd_T27 fs (x.val:Int)).f0)∧w'.cell? ⟨(ad.add (x.val*3)).block,(ad.add (x.val*3)).off+1,none⟩=some (.slice A1 (M.rd_T27 fs (x.val:Int)).f1.length c1)∧w'.cell? ⟨(ad.add (x.val*3)).block,(ad.add (x.val*3)).off+2,none⟩=some (.slice A2 (M.rd_T27 fs (x.val:Int)).f2.length c2))∧w'.heap[gs]? = some (.cells #[.bool acc.1,.slice F1 (dg B32 acc.2.1).length f1,.slice F2 (dg B32 acc.2.2).length f2] 27 (0,0))):=⟨fun w' h=>⟨⟨(zad (zae h2 h) 0).trans rfl,(zad (zae h2 h) 1).trans rfl,(zad (zae h2 h) 2).trans rfl,(zad (zae hbk h) 0).trans rfl,(zad (zae hbk h) 1).trans rfl,(zad (zae hbk h) 2).trans rfl,(zad (zae hI.b1 h) 1).trans rfl,((zaa hI.be h).cell (World.block_lt_of_cell? w _ q0)).trans q0,((zaa hI.be h).cell (World.block_lt_of_cell? w _ q1)).trans q1,((zaa hI.be h).cell (World.block_lt_of_cell? w _ q2)).trans q2⟩,zae h2 h⟩⟩
    have HI:=Aside0.mk hI
    have hxl:x.val < fs.length:=by have:=HLE.out; have:=x.isLt; omega
    clear hI h2 h3 hacc hbk hbne hr q0 q1 q2 g1 g2 l1 l2 hlen2
    gi_wp2_with fail
    refine start_round (m:=10) (S:=fun w'=>(w'.cell? ⟨gs,0,none⟩=some (.bool acc.1)∧w'.cell? ⟨gs,1,none⟩=some (.slice F1 (dg B32 acc.2.1).length f1)∧w'.cell? ⟨gs,2,none⟩=some (.slice F2 (dg B32 acc.2.2).length f2)∧w'.cell? ⟨b,0,none⟩=some p∧w'.cell? ⟨b,1,none⟩=some q∧w'.cell? ⟨b,2,none⟩=some r∧w'.cell? ⟨w.heap.size+1,1,none⟩=some (.slice (some ad) fs.length d')∧w'.cell? (ad.add (x.val*3))=some (.bool (M.rd_T27 fs (x.val:Int)).f0)∧w'.cell? ⟨(ad.add (x.val*3)).block,(ad.add (x.val*3)).off+1,none⟩=some (.slice A1 (M.rd_T27 fs (x.val:Int)).f1.length c1)∧w'.cell? ⟨(ad.add (x.val*3)).block,(ad.add (x.val*3)).off+2,none⟩=some (.slice A2 (M.rd_T27 fs (x.val:Int)).f2.length c2))) (ds:=[9]) #[zf,zf,zf,zf,zf,zf,zf,zf,zf,zf] (by kernel_rfl) (by kernel_rfl) (by rintro⟨a,w,h⟩; exact h) rfl rfl ((HF.out _ (zag (Below.refl _ _))).1) (fun hHeld=>?_)
    have hb0:=Aside0.mk (show Below W.heap.size W W.drew from zag (Below.refl _ _))
    generalize W.drew=V0 at hb0 hHeld ⊢
    refine qp 2 (some 42) ?_
    refine qp 4 (some 44) ?_
    refine qt 0 (some 40) ?_
    refine qt 1 (some 41) ?_
    refine qt 3 (some 43) ?_
    refine qp 5 (some 45) ?_
    refine qt 6 (some 46) ?_
    refine qo 7 (some 47) (fun K hK=>?_)
    refine qg Tryz.func94 #[.agg #[p,q,r],.agg #[.bool (M.rd_T27 fs (x.val:Int)).f0,.slice A1 (M.rd_T27 fs (x.val:Int)).f1.length c1,.slice A2 (M.rd_T27 fs (x.val:Int)).f2.length c2]] ?_
    refine(HM.out V0 hb0.out).mono ?_
    rintro e V1 ⟨v,rfl,hR,hB⟩
    obtain⟨D3,m3,D4,m4,rfl,-,-⟩:=hR.args
    refine⟨_,rfl,?_⟩
    have hb1:=Aside0.mk (zaa hb0.out hB)
    have HP:=Aside0.mk (hR.nr (nrm_red _ _ _) (HQM.out x.val))
    clear hB hb0 hR
    refine hK.out _ _ ((HF.out _ hb1.out).1) (fun hHeld=>?_)
    clear hK K
    refine qn ?_
    refine qo 8 (some 48) (fun K hK=>?_)
    refine qg Tryz.func93 #[.agg #[.bool acc.1,.slice F1 (dg B32 acc.2.1).length f1,.slice F2 (dg B32 acc.2.2).length f2],.agg #[.bool (mulQ (eN (M.rd_T27 es (x.val:Int))) (eN (M.rd_T27 fs (x.val:Int)))).1,.slice D3 (dg B32 (mulQ (eN (M.rd_T27 es (x.val:Int))) (eN (M.rd_T27 fs (x.val:Int)))).2.1).length m3,.slice D4 (dg B32 (mulQ (eN (M.rd_T27 es (x.val:Int))) (eN (M.rd_T27 fs (x.val:Int)))).2.2).length m4]] ?_
    refine(add_n (HNS.out.below hb1.out) HP.out).mono ?_
    rintro e V2 ⟨v,rfl,hR,hB⟩
    obtain⟨D5,m5,D6,m6,rfl,-,-⟩:=hR.args
    refine⟨_,rfl,?_⟩
    have hb2:=Aside0.mk (zaa hb1.out hB)
    have HT:=Aside0.mk (hR.lower (Nat.le_trans HI.out.be.size hb1.out.size))
    clear hB hb1 hR
    refine hK.out _ _ ((HF.out _ hb2.out).1) (fun hHeld=>?_)
    clear hK K
    refine qn ?_
    refine ql 9 none (fun K hK=>?_)
    obtain⟨⟨k0,k1,k2⟩,j0,j1,j2⟩:=zav (HF.out _ hb2.out).2
    refine qx ?_
    refine hK.out _ _ ?_
    clear hK K
    refine done_ (by kernel_rfl) ?_
    have hE:dotI es fs ((pre++[x]).map Fin.val)=addQ acc (mulQ (eN (M.rd_T27 es (x.val:Int))) (eN (M.rd_T27 fs (x.val:Int)))):=by
     rw [List.map_append,← HAC.out]
     exact dotI_snoc _ _ _ _
    have hgs:w.heap.size+1+1+1 < gs:=HGS.out
    refine⟨((keepsO hb2.out).trans (keeps3 V2 gs _ _ _)).from _,below3 (hb2.out.mono HI.out.be.size) (by omega) _ _ _,⟨(HI.out.below hb2.out).store3 hgs _ _ _,?_⟩⟩
    rw [hE]
    exact⟨D5,m5,D6,m6,zaN (HF.out _ hb2.out).2 _ _ _,HT.out.store3 (HF.out _ hb2.out).2 _ _ _⟩
   case done =>
    rintro D ys W hD hys ⟨hI,hS⟩ hK
    rw [hys,dotI_range] at hS
    obtain⟨F1,f1,F2,f2,h2,h3⟩:=hS
    obtain⟨⟨z0,z1,z2⟩,z3,z4,z5⟩:=zav hI.b2
    obtain⟨⟨k0,k1,k2⟩,-⟩:=zav h2
    have HI:=Aside0.mk (And.intro hI (And.intro h2 h3))
    have HDl:=Aside0.mk (Nat.le_trans HI4.out.be.size hD)
    clear hI h2 h3
    gi_wp2
    have hK':=(keeps3 W (w.heap.size+1+1) (.bool (dotP es fs es.length).1) (.slice F1 (dg B32 (dotP es fs es.length).2.1).length f1) (.slice F2 (dg B32 (dotP es fs es.length).2.2).length f2)).same D _ hK rfl
    have hb2':=zaN HI.out.1.b2 (.bool (dotP es fs es.length).1) (.slice F1 (dg B32 (dotP es fs es.length).2.1).length f1) (.slice F2 (dg B32 (dotP es fs es.length).2.2).length f2)
    refine⟨by simp,.inl ⟨_,_,rfl,run_takeDeferred hK',?_⟩⟩
    have hr2:∀ k,some D=some k→∃ o:Obj,(store3 W (w.heap.size+1+1) (.bool (dotP es fs es.length).1) (.slice F1 (dg B32 (dotP es fs es.length).2.1).length f1) (.slice F2 (dg B32 (dotP es fs es.length).2.2).length f2)).heap[k]? = some o∧o.isCells=false:=fun k e=>by cases e; exact⟨_,hK',rfl⟩
    have hb3:=blk_own hb2' (grownBy_putObj' _ D (.deferred none)) hr2
    refine⟨_,results_ct rfl _ _ (w.heap.size+1+1) 27 _ (0,0) _ rfl hb3 Tryz.underlying27 rfl (by kernel_rfl),?_⟩
    exact⟨F1,f1,F2,f2,rfl,(HI.out.2.2.store3 HI.out.1.b2 _ _ _).grown (grownBy_putObj' _ D (.deferred none)) hr2,(zaO HI.out.1.be (by omega) _ _ _).trans (belowK_b (w:=w) (Nat.le_refl _) _ D _ _ HDl.out hK' rfl rfl)⟩
   case stop =>
    rintro D cd pre W hD hpre hF hK
    exact hF.elim
end Go.Proofs.YtehghijlchpeaaaGreat.Nat1
end
section
namespace Go.Proofs.YtehghijlchpeaaaGreat.Nat1
open Go.RowKit YtehghijlchpeaaaGreatW.PrintWords YtehghijlchpeaaaGreatW.PrintLast YtehghijlchpeaaaGreatW.PrintMore L Nt
theorem cloneS_n (A0:Option Addr) (c0:Nat) (l0:List Int) (w:World) (hr0:Kd.C (Kd.int .i64) w A0 l0.length l0) (hl:l0.length*8≤140737488355328) :
  Calls Tryz.prog 123 #[.slice A0 l0.length c0] w fun e w'=>∃ A c,e=.returned (.slice A l0.length c)∧Kd.R (Kd.int .i64) 3 w' w.heap.size (fun _=>True) (.slice A l0.length c) l0∧Below w.heap.size w w':=by
 have HRC:=Aside0.mk (fun (W:World) (hb:Below w.heap.size w W)=>Kd.C_below hr0 hb)
 have hnil:=fun (W:World) (a:Option Addr) (n c:Nat)=>Lib.run_eql_slice_nil (P:=Tryz.prog) W 23 3 a n c 0 0 Tryz.underlying23
 cases A0 with
 | none =>
  have h0:l0=[]:=by
   cases l0 with
   | nil=>rfl
   | cons d l0 =>
    obtain⟨ad,e,_⟩:=hr0.2.2 (by simp)
    cases e
  subst h0
  clear hr0
  go_enter Tryz.func123,Tryz.ntmps123
  go_wp2_with fail
  go_ret
  exact⟨none,0,rfl,Kd.R_nil _ _ _ _ _,Below.refl _ _⟩
 | some ad =>
  clear hr0
  go_enter Tryz.func123,Tryz.ntmps123
  go_wp2_with (at_builtin; refine Kd.R_append_row (w0:=w) (Value.int .i64) (0:Int) w.heap.size rfl _ _ 23 3 (.int .i64 0) 8 rfl Tryz.underlying23 M.info3 rfl (by omega) (.slice (some ⟨w.heap.size,0,none⟩) 0 0) [] l0 (some ad) l0.length c0 (fun _=>True) rfl rfl (fun _ _=>trivial) (Kd.R_of_own (own_lit w w.heap.size 3 .i64 [] (Nat.le_refl _) (by simp)) (fun _ _=>trivial)) (HRC.out _ (zab (Below.refl _ _) _)) (zab (Below.refl _ _) _) (by simp) (by simp only [List.length_nil]; omega) ?_; intro v1 W1 hR hB hx1 hx2; clear hx1 hx2; rw [List.nil_append] at hR; obtain⟨S1,k1,rfl⟩:=Kd.R_slice hR; have HS1:=Aside0.mk hR; have HB1:=Aside0.mk hB; clear hR hB)
  go_ret
  exact⟨S1,k1,rfl,HS1.out,HB1.out⟩
end Go.Proofs.YtehghijlchpeaaaGreat.Nat1
end
section
namespace Go.Proofs.YtehghijlchpeaaaGreat.Nat1
open Go.RowKit YtehghijlchpeaaaGreatW.PrintWords YtehghijlchpeaaaGreatW.PrintLast YtehghijlchpeaaaGreatW.PrintMore L Nt
theorem R_stays {α:Type} {d:Kd α} {e:Nat} {w w1:World} {base:Nat} {ok:Nat→Prop} {v:Value} {xs:List α} (h:d.R e w base ok v xs) {row:Option Nat} (hg:w.grownBy w1 row) (hr:∀ k,row=some k→∃ o:Obj,w.heap[k]? = some o∧o.isCells=false):d.R e w1 base ok v xs :=
 Kd.R_mono (Kd.R_grown (Kd.R_bound h) hg (fun k hk e=>by
  obtain⟨_,_,_,q,_,cells,hc⟩:=hk
  obtain⟨o,ho,hn⟩:=hr k e.symm
  rw [hc] at ho
  cases ho
  cases hn)) (fun _ hk=>hk.1)
theorem R_ne {α:Type} {d:Kd α} {e:Nat} {w:World} {base g:Nat} {ok:Nat→Prop} {v:Value} {xs:List α} (h:d.R e w base ok v xs) (hg:g < base) (u:Value) (i:Nat):d.R e (w.setCell ⟨g,i,none⟩ u) base ok v xs :=
 Kd.R_mono (Kd.R_far (p:=⟨g,i,none⟩) (Kd.R_bound h) (fun k hk=>by have:=hk.2.1; show k≠g; omega) u) (fun _ hk=>hk.1)
section
variable {α:Type} {K:Kd α} {T e gO:Nat} {W0 W W' V1 V2:World} {S:Value} {ys:List α} {y:α}
structure AR (K:Kd α) (T e:Nat) (W0:World) (gO:Nat) (S:Value) (ys:List α) (W:World):Prop where
 v:∃ (E:Option Addr) (cE:Nat),W.heap[gO]? = some (.cells #[S,.slice E ys.length cE] T (0,0))∧K.R e W (gO+1) (fun _=>True) (.slice E ys.length cE) ys
 be:Below gO W0 W
theorem AR.lt (h:AR K T e W0 gO S ys W):gO < W.heap.size:=by
 obtain⟨⟨E,cE,h1,_⟩,_⟩:=h
 exact lt_of_block h1
theorem AR.below (h:AR K T e W0 gO S ys W) (hb:Below W.heap.size W W'):AR K T e W0 gO S ys W':=by
 have hl:=h.lt
 obtain⟨⟨E,cE,h1,h2⟩,h3⟩:=h
 exact⟨⟨E,cE,zae h1 hb,Kd.R_below h2 hb⟩,h3.trans (hb.mono (Nat.le_of_lt hl))⟩
theorem AR.push (h:AR K T e W0 gO S ys W) (hb:Below W.heap.size W V1) {v:Value} (hR:K.R e V2 (gO+1) (fun _=>True) v (ys++[y])) (hB:Below (gO+1) V1 V2):AR K T e W0 gO S (ys++[y]) (V2.setCell ⟨gO,1,none⟩ v):=by
 have hl:=h.lt
 obtain⟨⟨E,cE,h1,h2⟩,h3⟩:=h
 obtain⟨E2,c2,rfl⟩:=Kd.R_slice hR
 have hc:V2.heap[gO]? = some (.cells #[S,.slice E ys.length cE] T (0,0)):=(hB.block gO (by omega)).trans (zae h1 hb)
 exact⟨⟨E2,c2,zar (cs:=#[S,.slice E ys.length cE]) hc 1 _ rfl,R_ne hR (Nat.lt_succ_self _) _ _⟩,((h3.trans (hb.mono (Nat.le_of_lt hl))).trans (hB.mono (Nat.le_succ _))).setCell (p:=⟨gO,1,none⟩) (Nat.le_refl gO) _⟩
theorem AR.stays (h:AR K T e W0 gO S ys W) {row:Option Nat} (hg:W.grownBy W' row) (hr:∀ k,row=some k→gO≤k∧∃ o:Obj,W.heap[k]? = some o∧o.isCells=false):AR K T e W0 gO S ys W':=by
 have hr2:=fun k e=>(hr k e).2
 obtain⟨⟨E,cE,h1,h2⟩,h3⟩:=h
 exact⟨⟨E,cE,blk_own h1 hg hr2,R_stays h2 hg hr2⟩,h3.grown hg (Nat.le_of_lt (lt_of_block h1)) (fun k hk=>(hr k hk).1)⟩
end
end Go.Proofs.YtehghijlchpeaaaGreat.Nat1
end
section
namespace Go.Proofs.YtehghijlchpeaaaGreat.Nat1
open Go.RowKit Go.Shelf YtehghijlchpeaaaGreatW.PrintWords YtehghijlchpeaaaGreatW.PrintLast YtehghijlchpeaaaGreatW.PrintMore L Nt Ev Rd
attribute [local go_sem] Oper.semAt_some
def RV (w:World) (b:Nat) (v:Value) (y:M.S27):Prop:=∃ F1 f1 F2 f2,v=.agg #[.bool y.f0,.slice F1 y.f1.length f1,.slice F2 y.f2.length f2] ∧
 Kd.R (Kd.int .u32) 81 w b (fun _=>True) (.slice F1 y.f1.length f1) y.f1∧Kd.R (Kd.int .u32) 81 w b (fun _=>True) (.slice F2 y.f2.length f2) y.f2
def CallsV (fv : Value) (args : Array Value) (W : World) (R : Ending → World → Prop) : Prop := ∃ (f : FuncId) (fn : Func) (bd cp : Array Value), fv = .func (.func f) bd cp ∧ Tryz.prog.funcs[f]? = some fn ∧ (fn.name == "runtime.NumGoroutine") = false ∧ fn.body.isSome = true ∧ Calls Tryz.prog f (bd ++ args ++ cp) W R
open YtehghijlchpeaaaGreatW.PrintLast in
theorem callv_ {ops:Array Oper} {Q:Exit→Act→World→Prop} {oi:Oper} {N:Option Tmp} {a:Act} {w:World} {K:Act→World→Prop} {c:Operand} {xs:Array Operand} {ts:Array TypeId} {fv:Value} (args:Array Value)
  (hw:Region.wanted oi (yielded ops a.tmps)=true) (hN:oi.dst=N) (hop:oi.op=.call { callee:=.value c,args:=xs,argTypes:=ts }) (hc:a.eval c=fv) (hargs:xs.map a.eval=args)
  (h:CallsV fv args w fun e w'=>∃ v,e=.returned v∧K (a.put N v) w'):if Region.wanted oi (yielded ops a.tmps)=true then Oper.wp Tryz.prog oi a w K Q else K (a.put N undef) w:=by
 obtain⟨f,fn,bd,cp,rfl,h1,h2,h3,h4⟩:=h
 refine call_ f (bd++args++cp) hw hN ?_ h4
 have he:=za7 h1 h2 h3 (bd++(args++cp)) w
 unfold execOp
 simp [hop,resolve,hc,Deferred.ofValue,invoke,hargs,he]
theorem CallsV.mono {fv:Value} {args:Array Value} {W:World} {R R':Ending→World→Prop} (h:CallsV fv args W R) (hR:∀ e w,R e w→R' e w):CallsV fv args W R':=by
 obtain⟨f,fn,bd,cp,e,h1,h2,h3,h4⟩:=h
 exact⟨f,fn,bd,cp,e,h1,h2,h3,h4.mono hR⟩
def tl (φ:M.S27→M.S27) (es:List M.S27) (l:List Nat):List M.S27:=l.map (fun i:Nat=>φ (M.rd_T27 es (i:Int)))
theorem tl_range (φ:M.S27→M.S27) (es:List M.S27):tl φ es (List.range es.length)=es.map φ:=by
 have h:=congrArg (List.map φ) (rd_range es)
 rw [List.map_map] at h
 exact h
theorem tl_snoc (φ:M.S27→M.S27) (es:List M.S27) (l:List Nat) (i:Nat):tl φ es (l++[i])=tl φ es l++[φ (M.rd_T27 es (i:Int))]:=by
 rw [tl,List.map_append]
 rfl
theorem tl_len (φ:M.S27→M.S27) (es:List M.S27) (l:List Nat):(tl φ es l).length=l.length:=by simp [tl]
theorem keepsR {α:Type} {d:Kd α} {e:Nat} {W W':World} {base:Nat} {ok:Nat→Prop} {v:Value} {xs:List α} (h:d.R e W base ok v xs) (hg:W.grownBy W' v.ownBlock):KeepsOthers W W' :=
 KeepsOthers.of_grownBy hg (fun j o hj ho=>by
  obtain⟨cells,hc⟩:=Kd.R_typed h j hj
  rw [hc] at ho
  cases ho
  rfl)
theorem turned_n (A:Option Addr) (c:Nat) (sh:List Int) (B:Option Addr) (d:Nat) (es:List M.S27) (fv:Value) (φ:M.S27→M.S27) (w:World) (hr1:Kd.C (Kd.int .i64) w A sh.length sh) (hr2:Kd.C M.k27 w B es.length es)
  (hl1:sh.length*8≤140737488355328) (hlen:es.length≤1099511627776) (f:FuncId) (bd cp:Array Value) (hfv:fv=.func (.func f) bd cp)
  (HT:∀ (W:World) (v:Value) (i:Nat),Below w.heap.size w W→i < es.length→EL W v (M.rd_T27 es (i:Int))→CallsV fv #[v] W fun e W'=>∃ u,e=.returned u∧RV W' W.heap.size u (φ (M.rd_T27 es (i:Int)))∧Below W.heap.size W W') :
  Calls Tryz.prog 73 #[.agg #[.slice A sh.length c,.slice B es.length d],fv] w fun e w'=>∃ A' c' B' d',e=.returned (.agg #[.slice A' sh.length c',.slice B' es.length d']) ∧
   Kd.R (Kd.int .i64) 3 w' w.heap.size (fun _=>True) (.slice A' sh.length c') sh∧Kd.R M.k27 27 w' w.heap.size (fun _=>True) (.slice B' es.length d') (es.map φ)∧Below w.heap.size w w':=by
 have hu:=Tryz.underlying91
 have hu25:=Tryz.underlying27
 have HCL:=Aside0.mk (fun (W:World) (hb:Below w.heap.size w W)=>cloneS_n A c sh W (Kd.C_below hr1 hb) hl1)
 obtain⟨ev,hev,hec⟩:=evs hr2
 have HEV:=Aside0.mk hev
 have HEC:=Aside0.mk hec
 have HTT:=Aside0.mk HT
 clear hr1 hr2 hev hec HT
 subst hfv
 refine(callsIn_wide (n:=3)).1 ?_
 refine callsIn_of_wp_marks Tryz.func73 rfl trivial ?_ rfl
 simp only [Tryz.ntmps73,List.size_toArray,List.length_cons,List.length_nil,Nat.reduceAdd,Nat.reduceSub,Array.replicate_succ,Array.replicate_zero,List.push_toArray,List.append_toArray,List.nil_append,List.cons_append]
 gi_wp2_with fail
 have hx0:=zah (zah (zaw w (.cells #[.slice A sh.length c,.slice B es.length d] 91)) (.cells #[.func (.func f) bd cp] 34)) (.cells #[.slice none 0 0,.slice none 0 0] 91)
 have hx1:=zah (zaw (w.alloc (.cells #[.slice A sh.length c,.slice B es.length d] 91)) (.cells #[.func (.func f) bd cp] 34)) (.cells #[.slice none 0 0,.slice none 0 0] 91)
 rw [show (w.alloc (.cells #[.slice A sh.length c,.slice B es.length d] 91)).heap.size=w.heap.size+1 by simp] at hx1
 have hx2:=zaw ((w.alloc (.cells #[.slice A sh.length c,.slice B es.length d] 91)).alloc (.cells #[.func (.func f) bd cp] 34)) (.cells #[.slice none 0 0,.slice none 0 0] 91)
 rw [show ((w.alloc (.cells #[.slice A sh.length c,.slice B es.length d] 91)).alloc (.cells #[.func (.func f) bd cp] 34)).heap.size=w.heap.size+1+1 by simp] at hx2
 have hbw:Below w.heap.size w (((w.alloc (.cells #[.slice A sh.length c,.slice B es.length d] 91)).alloc (.cells #[.func (.func f) bd cp] 34)).alloc (.cells #[.slice none 0 0,.slice none 0 0] 91)):=zab (zab (zab (Below.refl _ _) _) _) _
 generalize (((w.alloc (.cells #[.slice A sh.length c,.slice B es.length d] 91)).alloc (.cells #[.func (.func f) bd cp] 34)).alloc (.cells #[.slice none 0 0,.slice none 0 0] 91))=W0 at hx0 hx1 hx2 hbw ⊢
 refine⟨trivial,(callsIn_wide.2 (HCL.out W0 hbw)).mono ?_⟩
 rintro e W1 ⟨S1,k1,rfl,hR,hB⟩
 have hsz:=hbw.size
 have HZ:=Aside0.mk (And.intro (zaz hx2) hsz)
 replace hx0:=zae hx0 hB
 replace hx1:=zae hx1 hB
 replace hx2:=zae hx2 hB
 replace hbw:=zaa hbw hB
 obtain⟨gO,hgO⟩:∃ g,g=W1.heap.size:=⟨_,rfl⟩
 have hS1:=Kd.R_alloc (Kd.R_mono (Kd.R_bound hR) (fun k hk=>(show w.heap.size≤k∧k < gO from ⟨Nat.le_trans hsz hk.2.1,by rw [hgO]; exact hk.2.2.1⟩))) (.cells #[.slice S1 sh.length k1,.slice none 0 0] 91)
 have c0:(W1.alloc (.cells #[.slice S1 sh.length k1,.slice none 0 0] 91)).cell? ⟨w.heap.size,0,none⟩=some (.slice A sh.length c):=(zad (zah hx0 _) 0).trans rfl
 have c1:(W1.alloc (.cells #[.slice S1 sh.length k1,.slice none 0 0] 91)).cell? ⟨w.heap.size,1,none⟩=some (.slice B es.length d):=(zad (zah hx0 _) 1).trans rfl
 have hxO:=zaw W1 (.cells #[.slice S1 sh.length k1,.slice none 0 0] 91)
 gi_wp2_with fail
 rw [← hgO] at hxO ⊢
 have HX:=Aside0.mk (And.intro (zah hx0 (.cells #[.slice S1 sh.length k1,.slice none 0 0] 91)) (And.intro (zah hx1 (.cells #[.slice S1 sh.length k1,.slice none 0 0] 91)) (And.intro (zah hx2 (.cells #[.slice S1 sh.length k1,.slice none 0 0] 91)) (zab hbw (.cells #[.slice S1 sh.length k1,.slice none 0 0] 91)))))
 have HGO:=Aside0.mk (show w.heap.size+1+1 < gO by rw [hgO]; exact zaz hx2)
 have HSH:=Aside0.mk hS1
 have HA0:=Aside0.mk (show AR M.k27 91 27 (W1.alloc (.cells #[.slice S1 sh.length k1,.slice none 0 0] 91)) gO (.slice S1 sh.length k1) (tl φ es []) (W1.alloc (.cells #[.slice S1 sh.length k1,.slice none 0 0] 91)) from ⟨⟨none,0,hxO,Kd.R_nil _ _ _ _ _⟩,Below.refl _ _⟩)
 clear hx0 hx1 hx2 hbw hR hB c0 c1 hxO hgO hS1
 generalize W1.alloc (.cells #[.slice S1 sh.length k1,.slice none 0 0] 91)=W2 at HX HSH HA0 ⊢
 refine⟨trivial,(callsIn_wide.2 (all_calls (.slice A sh.length c) (.slice B es.length d) W2)).mono ?_⟩
 rintro e W3 ⟨rfl,hG,hB⟩
 have HA1:=Aside0.mk (HA0.out.below hB)
 have HBW:=Aside0.mk (zaa HX.out.2.2.2 hB)
 have HG:=Aside0.mk hG
 have HL:=Aside0.mk HA1.out.lt
 clear hG hB HA0
 gi_wp2_with fail
 refine wpIn_rangeFunc_ownH rfl (by omega) (gf:=134) (lb:=#[.pointer (some ⟨W2.heap.size,0,none⟩)]) rfl trivial (za7 Tryz.func134 (by kernel_rfl) rfl)
  (all_stopsF Fence.wide _ trivial rfl (by omega) W2.heap.size w.heap.size es.length (Nat.le_trans hlen (by decide)) (.slice A sh.length c) B d ev w W3 HBW.out (Nat.le_refl _) HBW.out.size HEC.out HG.out) belowK_t (belowK_b HBW.out.size) (Below.refl _ _) (fun _=>rfl)
  (fun (pre:List (Fin es.length)) W=>AR M.k27 91 27 W2 gO (.slice S1 sh.length k1) (tl φ es (pre.map Fin.val)) W)
  (fun _ _ _=>False)
  ?hI ?hIx ?h0
  (fun (x:Fin es.length) a' W=>∃ (b:Nat) (p q r:Value),a'={ tmps:=#[.agg #[.slice A sh.length c,.slice B es.length d],.func (.func f) bd cp,.pointer (some ⟨w.heap.size,0,none⟩),.pointer (some ⟨w.heap.size+1,0,none⟩),.pointer (some ⟨w.heap.size+1+1,0,none⟩),.pointer (some ⟨gO,0,none⟩),undef,.pointer (some ⟨b,0,none⟩),.pointer (some ⟨w.heap.size,0,none⟩),.slice A sh.length c,.slice S1 sh.length k1,.agg #[.slice S1 sh.length k1,.slice none 0 0],.agg #[.slice A sh.length c,.slice B es.length d],.func (.func 134) #[] #[.pointer (some ⟨W2.heap.size,0,none⟩)],.int .i64 (x.val:Int),ev x.val,undef,undef,undef,undef,undef,undef,undef,undef,undef],defers:=[] }∧ev x.val=.agg #[p,q,r]∧W.heap[b]? = some (.cells #[p,q,r] 27 (0,0)))
  ?hAx ?assign ?body ?done ?stop
 case hI =>
  rintro pre X Y row h1 hg hr
  exact h1.stays hg (fun k e=>⟨by have h2:=(hr k e).1; have h3:=HL.out; omega,(hr k e).2⟩)
 case hIx=>exact fun c s W W' row hs hg hr=>hs
 case h0=>exact HA1.out
 case hAx =>
  rintro x a' s X Y row ⟨b,p,q,r,h1,h2,h4⟩ hg hr
  exact⟨b,p,q,r,h1,h2,blk_own h4 hg (fun k e=>(hr k e).2)⟩
 case assign =>
  rintro l pre x W K hI hK
  obtain⟨A1,c1,A2,c2,hex,-,-⟩:=HEV.out x.val
  rw [hex]
  have HK2:=Aside0.mk hK
  clear hK
  gi_wp2_with fail
  have hA:=zab (Below.refl W.heap.size W) (.cells #[.bool (M.rd_T27 es (x.val:Int)).f0,.slice A1 (M.rd_T27 es (x.val:Int)).f1.length c1,.slice A2 (M.rd_T27 es (x.val:Int)).f2.length c2] 27)
  exact HK2.out _ _ ((keepsO hA).from _) (hA.mono (by have:=hI.lt; have:=HGO.out; omega)) (hI.below hA) ⟨W.heap.size,_,_,_,by rw [hex],hex,zaw W _⟩
 case body =>
  rintro l pre x a' W hl hr hI ⟨b,p,q,r,rfl,hex,hbk⟩ hlen2
  have HI:=Aside0.mk hI
  have HBE:=Aside0.mk (show Below w.heap.size w W from HX.out.2.2.2.trans (hI.be.mono (by have:=HGO.out; omega)))
  obtain⟨E,cE,hv1,hv2⟩:=hI.v
  have h1:W.heap[w.heap.size+1]? = some (.cells #[.func (.func f) bd cp] 34 (0,0)):=(hI.be.block _ (by have:=HGO.out; omega)).trans HX.out.2.1
  have HM:=Aside0.mk (fun (W':World) (h:Below W.heap.size W W')=>HTT.out W' (ev x.val) x.val (zaa HBE.out h) x.isLt ((HEV.out x.val).below (zaa HBE.out h)))
  rw [hex] at HM
  generalize hacc:tl φ es (pre.map Fin.val)=acc at hv1 hv2
  have HAC:=Aside0.mk hacc
  have hal:acc.length < 1099511627776:=by rw [← hacc,tl_len,List.length_map]; omega
  have HV2:=Aside0.mk (And.intro hv1 hv2)
  have HF:Aside0 (∀ w':World,Below W.heap.size W w'→(w'.cell? ⟨gO,1,none⟩=some (.slice E acc.length cE)∧w'.cell? ⟨w.heap.size+1,0,none⟩=some (.func (.func f) bd cp)∧w'.cell? ⟨b,0,none⟩=some p∧w'.cell? ⟨b,1,none⟩=some q∧w'.cell? ⟨b,2,none⟩=some r)):=⟨fun w' h=>⟨(zad (zae hv1 h) 1).trans rfl,(zad (zae h1 h) 0).trans rfl,(zad (zae hbk h) 0).trans rfl,(zad (zae hbk h) 1).trans rfl,(zad (zae hbk h) 2).trans rfl⟩⟩
  clear hI hv1 hv2 h1 hacc hbk hr hlen2
  gi_wp2_with fail
  refine start_round (m:=9) (S:=fun w'=>(w'.cell? ⟨gO,1,none⟩=some (.slice E acc.length cE)∧w'.cell? ⟨w.heap.size+1,0,none⟩=some (.func (.func f) bd cp)∧w'.cell? ⟨b,0,none⟩=some p∧w'.cell? ⟨b,1,none⟩=some q∧w'.cell? ⟨b,2,none⟩=some r)) (ds:=[6,8]) #[zf,zf,zf,zf,zf,zf,zf,zf,zf] (by kernel_rfl) (by kernel_rfl) (by rintro⟨a,w,h⟩; exact h) rfl rfl ((HF.out _ (zag (Below.refl _ _)))) (fun hHeld=>?_)
  have hb0:=Aside0.mk (show Below W.heap.size W W.drew from zag (Below.refl _ _))
  generalize W.drew=V0 at hb0 hHeld ⊢
  refine qp 0 (some 16) ?_
  refine qt 1 (some 17) ?_
  refine qt 2 (some 18) ?_
  refine qt 3 (some 19) ?_
  refine qo 4 (some 20) (fun K hK=>?_)
  refine callv_ #[.agg #[p,q,r]] (by rfl) rfl rfl rfl (by (try simp only [List.map_toArray,List.map_cons,List.map_nil]); first | done | rfl) ?_
  refine(HM.out V0 hb0.out).mono ?_
  rintro e V1 ⟨u,rfl,⟨D1,m1,D2,m2,rfl,R1,R2⟩,hB⟩
  refine⟨_,rfl,?_⟩
  have hlt1:=Nat.lt_of_lt_of_le HI.out.lt hb0.out.size
  have HP:=Aside0.mk (M.k27_mkM V1 (gO+1) (fun k=>V0.heap.size≤k) (φ (M.rd_T27 es (x.val:Int))) (Kd.R_mono (Kd.R_lower (Kd.R_bound R1) (Nat.succ_le_of_lt hlt1)) (fun k hk=>hk.2.1)) (Kd.R_mono (Kd.R_lower (Kd.R_bound R2) (Nat.succ_le_of_lt hlt1)) (fun k hk=>hk.2.1)))
  have hb1:=Aside0.mk (zaa hb0.out hB)
  have HLE:=Aside0.mk (show ∀ k,some k=(Value.slice E acc.length cE).ownBlock→k < V0.heap.size from fun k e=>by have:=Kd.R_lt HV2.out.2 k e.symm; have:=hb0.out.size; omega)
  clear hB hb0 R1 R2 hlt1
  refine hK.out _ _ ((HF.out _ hb1.out)) (fun hHeld=>?_)
  clear hK K
  refine qn ?_
  refine qo 5 (some 21) (fun K hK=>?_)
  refine qv ?_
  refine hK.out _ _ ((HF.out _ (zab hb1.out _))) (fun hHeld=>?_)
  clear hK K
  refine qn ?_
  refine ql 6 (some 22) (fun K hK=>?_)
  have hO:=Kd.R_below HV2.out.2 hb1.out
  refine Kd.R_append_step M.k27 (w0:=V1) (W:=V1) (gO+1) (by rfl) (.tmp 17) (.tmp 21) 28 27 (.agg #[.bool false,.slice none 0 0,.slice none 0 0]) 56 rfl Tryz.underlying28 J.info27 rfl (by decide) (by decide) (.slice E acc.length cE) acc (φ (M.rd_T27 es (x.val:Int))) [.bool (φ (M.rd_T27 es (x.val:Int))).f0,.slice D1 (φ (M.rd_T27 es (x.val:Int))).f1.length m1,.slice D2 (φ (M.rd_T27 es (x.val:Int))).f2.length m2] (fun _=>True) (fun k=>V0.heap.size≤k) rfl rfl HP.out (fun k hk=>⟨trivial,fun e=>by have:=HLE.out k e; omega⟩) (fun _ _=>trivial) hO (Below.refl _ _) (by have:=HI.out.lt; have:=hb1.out.size; omega) (by omega) ?_
  intro v1 V3 hR hB hG hat
  have HKO:=Aside0.mk (keepsR hO hG)
  have HQ:=Aside0.mk (And.intro hR hB)
  obtain⟨E2,e2,rfl⟩:=Kd.R_slice hR
  have HC3:=Aside0.mk (show V3.heap[gO]? = some (.cells #[.slice S1 sh.length k1,.slice E acc.length cE] 91 (0,0)) from (hB.block gO (Nat.lt_succ_self _)).trans (zae HV2.out.1 hb1.out))
  clear hR hB hG hat hO
  refine hK.out _ _ ?_
  clear hK K
  refine qn ?_
  refine qp 7 (some 23) ?_
  refine ql 8 none (fun K hK=>?_)
  have hf3:=zap HC3.out 1
  have hc3:V3.cell? ⟨gO,1,none⟩=some (.slice E acc.length cE):=(zad HC3.out 1).trans rfl
  refine qx ?_
  refine hK.out _ _ ?_
  clear hK K
  refine done_ (by kernel_rfl) ?_
  have hE:tl φ es ((pre++[x]).map Fin.val)=acc++[(φ (M.rd_T27 es (x.val:Int)))]:=by rw [List.map_append,← HAC.out]; exact tl_snoc _ _ _ _
  have hlo:=HI.out.lt; have hgo:=HGO.out; have hs1:=hb1.out.size
  refine⟨((keepsO hb1.out).trans (HKO.out.trans (KeepsOthers.setCell _ _ _))).from _,((hb1.out.mono (by omega)).trans (HQ.out.2.mono (by omega))).setCell (p:=⟨gO,1,none⟩) (by show w.heap.size≤gO; omega) _,?_⟩
  show AR _ _ _ _ _ _ (tl φ es ((pre++[x]).map Fin.val)) _
  rw [hE]
  have hI2:=HI.out
  rw [HAC.out] at hI2
  have h9:=HQ.out.1
  rw [List.length_append,List.length_singleton] at h9
  exact hI2.push hb1.out h9 HQ.out.2
 case done =>
  rintro D ys W hD hys hI hK
  rw [hys,tl_range] at hI
  obtain⟨E,cE,hv1,hv2⟩:=hI.v
  rw [List.length_map] at hv1 hv2
  have hgo:=HGO.out
  have hb2:W.heap[w.heap.size+1+1]? = some (.cells #[.slice none 0 0,.slice none 0 0] 91 (0,0)):=(hI.be.block _ (by omega)).trans HX.out.2.2.1
  have o0:W.cell? ⟨gO,0,none⟩=some (.slice S1 sh.length k1):=(zad hv1 0).trans rfl
  have o1:W.cell? ⟨gO,1,none⟩=some (.slice E es.length cE):=(zad hv1 1).trans rfl
  have z0:W.cell? ⟨w.heap.size+1+1,0,none⟩=some (.slice none 0 0):=(zad hb2 0).trans rfl
  have z1:W.cell? ⟨w.heap.size+1+1,1,none⟩=some (.slice none 0 0):=(zad hb2 1).trans rfl
  have y0:=zap hb2 0
  have y1:=zap hb2 1
  have hbe:Below w.heap.size w W:=HX.out.2.2.2.trans (hI.be.mono (by omega))
  have hshW:=Kd.R_step (w1:=W) HSH.out (fun k hk _=>hI.be.block k hk.2)
  have HF:=Aside0.mk (And.intro hbe (And.intro hshW (And.intro hv2 hb2)))
  clear hI hv1 hv2 hbe hshW
  gi_wp2
  have hn1:=zar (cs':=#[.slice S1 sh.length k1,.slice E es.length cE]) (zar (cs':=#[.slice S1 sh.length k1,.slice none 0 0]) HF.out.2.2.2 0 (.slice S1 sh.length k1) rfl) 1 (.slice E es.length cE) rfl
  have hK':=((KeepsOthers.setCell W ⟨w.heap.size+1+1,0,none⟩ (.slice S1 sh.length k1)).trans (KeepsOthers.setCell _ ⟨w.heap.size+1+1,1,none⟩ (.slice E es.length cE))).same D _ hK rfl
  have hr2:∀ k,some D=some k→∃ o:Obj,((W.setCell ⟨w.heap.size+1+1,0,none⟩ (.slice S1 sh.length k1)).setCell ⟨w.heap.size+1+1,1,none⟩ (.slice E es.length cE)).heap[k]? = some o∧o.isCells=false:=fun k e=>by cases e; exact⟨_,hK',rfl⟩
  have hb3:=blk_own hn1 (grownBy_putObj' _ D (.deferred none)) hr2
  refine⟨by simp,.inl ⟨_,_,rfl,run_takeDeferred hK',?_⟩⟩
  refine⟨_,results_cell_row rfl _ _ (w.heap.size+1+1) 91 _ (0,0) _ rfl hb3 hu rfl (by kernel_rfl),?_⟩
  have hz:=HZ.out
  have hbD:=HBW.out.size
  exact⟨S1,k1,E,cE,rfl,Kd.R_mono (R_stays (Kd.R_lower (R_ne (R_ne HF.out.2.1 hz.1 _ _) hz.1 _ _) hz.2) (grownBy_putObj' _ D (.deferred none)) hr2) (fun _ _=>trivial),R_stays (Kd.R_lower (R_ne (R_ne HF.out.2.2.1 (by omega) _ _) (by omega) _ _) (by omega)) (grownBy_putObj' _ D (.deferred none)) hr2,
   ((HF.out.1.setCell (p:=⟨w.heap.size+1+1,0,none⟩) (by show w.heap.size≤w.heap.size+1+1; omega) _).setCell (p:=⟨w.heap.size+1+1,1,none⟩) (by show w.heap.size≤w.heap.size+1+1; omega) _).trans (belowK_b (w:=w) (Nat.le_refl _) _ D _ _ (Nat.le_trans hbD hD) hK' rfl rfl)⟩
 case stop =>
  rintro D cd pre W hD hpre hF hK
  exact hF.elim
end Go.Proofs.YtehghijlchpeaaaGreat.Nat1
end
section
namespace Go.Proofs.YtehghijlchpeaaaGreat.Nat1
open Go.RowKit YtehghijlchpeaaaGreatW.PrintWords YtehghijlchpeaaaGreatW.PrintLast YtehghijlchpeaaaGreatW.PrintMore L Nt Ev
theorem append_mixed {P:Program} {t t' e e':TypeId} (ht:P.underlying t=some (.slice e)) (ht':P.underlying t'=some (.slice e')) (ty:TypeId) (args:Array Value) (w:World) :
  (Builtin.append_ #[t,t'] ty args).run P w=(Builtin.append_ #[t,t] ty args).run P w:=by
 unfold Builtin.append_
 simp only [List.getElem?_toArray,List.getElem?_cons_zero,List.getElem?_cons_succ]
 split
 ·
  rename_i h
  injection h with h1 h2
  injection h1 with h1
  subst h1
  simp only [Sem.run_bind,run_underlying ht,Result.andThen]
  split
  ·
   simp only [Sem.run_bind]
   refine congrArg _ (funext fun size=>funext fun w1=>?_)
   simp only [run_underlying ht',run_underlying ht,Result.andThen]
  ·
   rfl
 ·
  rfl
theorem execOp_mixed {P:Program} {o:Oper} {ev:Operand→Value} {W:World} (s x:Operand) (t t' e e':TypeId) (ho:o.op=.call { callee:=.builtin .append,args:=#[s,x],argTypes:=#[t,t'] })
  (ht:P.underlying t=some (.slice e)) (ht':P.underlying t'=some (.slice e')) :
  (execOp ev o).run P W=(execOp ev { o with op:=.call { callee:=.builtin .append,args:=#[s,x],argTypes:=#[t,t] } }).run P W:=by
 obtain⟨d,op,ty,pos,af,gd⟩:=o
 simp only at ho
 subst ho
 simp [execOp,resolve,invoke,builtin,append_mixed ht ht']
theorem wp_mixed {P:Program} {ops:Array Oper} {Q:Exit→Act→World→Prop} {rest:List Oper} {o:Oper} {a:Act} {W:World} (hgd:o.guard=none) (s x:Operand) (t t' e e':TypeId) (ho:o.op=.call { callee:=.builtin .append,args:=#[s,x],argTypes:=#[t,t'] })
  (ht:P.underlying t=some (.slice e)) (ht':P.underlying t'=some (.slice e'))
  (h:∀ Q':Exit→Act→World→Prop,(∀ v w1,wpList P ops Q rest (a.put o.dst v) w1→Q' .normal (a.put o.dst v) w1)→wpList P ops Q' [{ o with op:=.call { callee:=.builtin .append,args:=#[s,x],argTypes:=#[t,t] } }] a W):wpList P ops Q (o :: rest) a W:=by
 have h1:=h (fun ex b w1=>ex=.normal∧wpList P ops Q rest b w1) (fun v w1 hh=>⟨rfl,hh⟩)
 simp only [wpList,Region.wanted,hgd,if_true] at h1 ⊢
 rcases h1 with h1 | h1
 ·
  left
  unfold Oper.wp at h1 ⊢
  rw [execOp_mixed s x t t' e e' ho ht ht',hgd]
  generalize (execOp a.eval { dst:=o.dst,op:=Op.call { callee:=Callee.builtin Builtin.append,args:=#[s,x],argTypes:=#[t,t] },type:=o.type,pos:=o.pos,after:=o.after,guard:=none }).run P W=r at h1 ⊢
  cases r with
  | ok n w' =>
   cases n with
   | value v=>exact h1.2
   | skip=>exact h1.2
   | defer d=>exact h1.2
   | enter f args =>
    refine Calls.mono h1 (fun e w2 hh=>?_)
    cases e with
    | returned v=>exact hh.2
    | panicked c=>cases hh.1
    | outgrown =>
     obtain⟨b,w1,hh⟩:=hh
     cases hh.1
   | row row args=>exact Rows.mono h1 (fun _ _ hh=>hh.2)
   | _=>exact h1.elim
  | halt hh w' =>
   cases hh with
   | panic v=>cases h1.1
   | _=>exact h1.elim
 ·
  obtain⟨_,b,w1,hh⟩:=h1
  cases hh.1
structure SR where
 f0:Bool
 f1:(List Int)
 f2:(List Int)
def zR:SR:=⟨false,([]:List Int),([]:List Int)⟩
def kR:Kd SR:=Kd.iso (Kd.pair Kd.bool (Kd.pair (Kd.slice 3 (Kd.int .i64)) (Kd.slice 3 (Kd.int .i64)))) (fun x:SR=>(x.f0,x.f1,x.f2))
theorem kR_open {w:World} {x:SR} {cs:List Value} (h:kR.K w x cs):∃ A1 c1 A2 c2,cs=[.bool x.f0,.slice A1 x.f1.length c1,.slice A2 x.f2.length c2]∧x.f1.length≤c1∧(Kd.int .i64).C w A1 x.f1.length x.f1∧x.f2.length≤c2∧(Kd.int .i64).C w A2 x.f2.length x.f2:=by
 obtain⟨_,_,rfl,rfl,⟨_,_,rfl,⟨A1,c1,rfl,l1,g1⟩,⟨A2,c2,rfl,l2,g2⟩⟩⟩:=h
 exact⟨A1,c1,A2,c2,rfl,l1,g1,l2,g2⟩
theorem kR_mkM (w:World) (base:Nat) (ok:Nat→Prop) (x:SR) {v1:Value} (g1:(Kd.int .i64).R 3 w base ok v1 x.f1) {v2:Value} (g2:(Kd.int .i64).R 3 w base ok v2 x.f2):kR.M w base ok x [.bool x.f0,v1,v2]:=⟨[.bool x.f0],[v1,v2],rfl,rfl,⟨[v1],[v2],rfl,⟨v1,rfl,g1⟩,⟨v2,rfl,g2⟩⟩⟩
def rd_R (xs:List SR) (i:Int):SR:=xs.getD i.toNat zR
theorem at_R {w:World} {A:Option Addr} {n:Nat} {xs:List SR} (h:Kd.C kR w A n xs) (i:Int) (h0:0≤i) (h1:i < n):∃ ad A1 c1 A2 c2,A=some ad∧w.cell? (ad.add (i.toNat*3))=some (.bool (rd_R xs i).f0)∧w.cell? ⟨(ad.add (i.toNat*3)).block,(ad.add (i.toNat*3)).off+1,none⟩=some (.slice A1 (rd_R xs i).f1.length c1)∧w.cell? ⟨(ad.add (i.toNat*3)).block,(ad.add (i.toNat*3)).off+2,none⟩=some (.slice A2 (rd_R xs i).f2.length c2)∧(rd_R xs i).f1.length≤c1∧(Kd.int .i64).C w A1 (rd_R xs i).f1.length (rd_R xs i).f1∧(rd_R xs i).f2.length≤c2∧(Kd.int .i64).C w A2 (rd_R xs i).f2.length (rd_R xs i).f2:=by
 obtain⟨ad,c,e,_,hK,hc0⟩:=Kd.C_get h zR i h0 h1
 have hc:∀ j u,c[j]? = some u→w.cell? (ad.add (i.toNat*3+j))=some u:=hc0
 obtain⟨A1,c1,A2,c2,rfl,l1,g1,l2,g2⟩:=kR_open hK
 exact⟨ad,A1,c1,A2,c2,e,hc 0 _ rfl,by rw [← add_field _ _ 1 (by omega)]; exact hc 1 _ rfl,by rw [← add_field _ _ 2 (by omega)]; exact hc 2 _ rfl,l1,g1,l2,g2⟩
theorem infoR:(Tryz.prog.info? 40).map (fun i=>(i.zero,i.size,i.bytes))=some (some (.agg #[(.bool false),(.slice none 0 0),(.slice none 0 0)]),3,56):=by kernel_rfl
theorem take_succ_R {es:List SR} {i:Nat} (h:i < es.length):es.take (i+1)=es.take i++[rd_R es (i:Int)]:=by
 rw [List.take_succ_eq_append_getElem h]
 congr 1
 simp [rd_R,List.getD_eq_getElem?_getD,List.getElem?_eq_getElem h]
structure OB (g:SR→M.S27) (w:World) (gO:Nat) (S BT1 BT2:Value) (sh:List Int) (es:List SR) (i:Nat) (W:World):Prop where
 v:∃ (E:Option Addr) (cE:Nat),W.heap[gO]? = some (.cells #[S,.slice E (es.take i).length cE] 30 (0,0))∧Kd.R M.k27 27 W w.heap.size (fun k=>gO < k) (.slice E (es.take i).length cE) ((es.take i).map g)
 sh:Kd.R (Kd.int .i64) 3 W w.heap.size (fun k=>k < gO) S sh
 bt:W.heap[w.heap.size]? = some (.cells #[BT1,BT2] 44 (0,0))
 bz:W.heap[w.heap.size+1]? = some (.cells #[.slice none 0 0,.slice none 0 0] 30 (0,0))
 be:Below w.heap.size w W
theorem tback_n (g:SR→M.S27) (A:Option Addr) (c:Nat) (sh:List Int) (B:Option Addr) (d:Nat) (es:List SR) (w:World) (hr1:Kd.C (Kd.int .i64) w A sh.length sh) (hc1:sh.length≤c) (hr2:Kd.C kR w B es.length es) (hc2:es.length≤d) (hl1:sh.length≤1099511627776) (hlen:es.length≤1099511627776) (hg:∀ x∈es,∃ k,M.fluxionref03_Back.f k x.f0 x.f1 x.f2=some ((g x).f0,(g x).f1,(g x).f2)) :
  Calls Tryz.prog 97 #[.agg #[.slice A sh.length c,.slice B es.length d]] w fun e w'=>∃ A' c' B' d',e=.returned (.agg #[.slice A' sh.length c',.slice B' es.length d']) ∧
   Kd.R (Kd.int .i64) 3 w' w.heap.size (fun _=>True) (.slice A' sh.length c') sh∧Kd.R M.k27 27 w' w.heap.size (fun _=>True) (.slice B' es.length d') (es.map g)∧Below w.heap.size w w':=by
 have hu67:=Tryz.underlying30
 have huT:=Tryz.underlying44
 have huR:=Tryz.underlying40
 have hu25:=Tryz.underlying27
 have HRC:=Aside0.mk (fun (W:World) (hb:Below w.heap.size w W)=>Kd.C_below hr1 hb)
 have HR2:=Aside0.mk hr2
 have HG:=Aside0.mk hg
 clear hr1 hr2 hg
 go_enter Tryz.func97,Tryz.ntmps97
 go_wp2_with ((with_reducible refine zaB (b:=.append) rfl ?_); go_must (refine wp_mixed rfl _ _ 23 22 3 3 rfl Tryz.underlying23 Tryz.underlying22 (fun Q' HQ'=>?_); refine Kd.R_append_row (Value.int .i64) (0:Int) _ rfl _ _ 23 3 (.int .i64 0) 8 rfl Tryz.underlying23 M.info3 rfl (by omega) (.slice none 0 0) [] sh A sh.length c (fun _=>True) rfl rfl (fun _ _=>trivial) (Kd.R_nil _ _ _ _ _) (HRC.out _ (zab (zab (Below.refl _ _) _) _)) (Below.refl _ _) (Nat.le_refl _) (by simp only [List.length_nil]; omega) ?_); intro v1 W1 hR hB hx1 hx2; refine HQ' _ _ ?_; clear hx1 hx2 HQ'; obtain⟨S1,k1,rfl⟩:=Kd.R_slice hR; have HS1:=Aside0.mk hR; have HB1:=Aside0.mk hB; clear hR hB)
 obtain⟨gO,hgO⟩:∃ g,g=W1.heap.size:=⟨_,rfl⟩
 have hsz0:((w.alloc (.cells #[.slice A sh.length c,.slice B es.length d] 44)).alloc (.cells #[.slice none 0 0,.slice none 0 0] 30)).heap.size=w.heap.size+1+1:=by simp
 have hx0:=zah (zae (zah (zaw w (.cells #[.slice A sh.length c,.slice B es.length d] 44)) (.cells #[.slice none 0 0,.slice none 0 0] 30)) HB1.out) (.cells #[.slice S1 sh.length k1,.slice none 0 0] 30)
 have hx1:=zaw (w.alloc (.cells #[.slice A sh.length c,.slice B es.length d] 44)) (.cells #[.slice none 0 0,.slice none 0 0] 30)
 rw [show (w.alloc (.cells #[.slice A sh.length c,.slice B es.length d] 44)).heap.size=w.heap.size+1 by simp] at hx1
 replace hx1:=zah (zae hx1 HB1.out) (.cells #[.slice S1 sh.length k1,.slice none 0 0] 30)
 have hx2:=zaw W1 (.cells #[.slice S1 sh.length k1,.slice none 0 0] 30)
 have hbw:Below w.heap.size w (W1.alloc (.cells #[.slice S1 sh.length k1,.slice none 0 0] 30)):=zab (zaa (zab (zab (Below.refl _ _) _) _) HB1.out) _
 have hsz1:=HB1.out.size
 rw [hsz0] at hsz1
 have hS1:Kd.R (Kd.int .i64) 3 W1 (w.heap.size+1+1) (fun _=>True) (.slice S1 sh.length k1) sh:=by
  have h:=HS1.out
  rw [hsz0] at h
  exact h
 have HI0:=Aside0.mk (show OB g w gO (.slice S1 sh.length k1) (.slice A sh.length c) (.slice B es.length d) sh es 0 (W1.alloc (.cells #[.slice S1 sh.length k1,.slice none 0 0] 30)) from
  ⟨⟨none,0,by rw [hgO]; exact hx2,Kd.R_nil _ _ _ _ _⟩,Kd.R_alloc (Kd.R_mono (Kd.R_lower (Kd.R_bound hS1) (by omega)) (fun k hk=>by rw [hgO]; exact hk.2.2.1)) _,hx0,hx1,hbw⟩)
 have HGO:=Aside0.mk (show w.heap.size+1 < gO by omega)
 rw [← hgO]
 generalize W1.alloc (.cells #[.slice S1 sh.length k1,.slice none 0 0] 30)=W2 at HI0 ⊢
 clear hx0 hx1 hx2 hbw hsz0 hsz1 hS1 HS1 HB1 hgO
 go_loopw [4] (fun iv wr=>∃ i:Nat,iv=.int .i64 i∧i≤es.length∧Aside0 (OB g w gO (.slice S1 sh.length k1) (.slice A sh.length c) (.slice B es.length d) sh es i wr)) (fun iv _=>es.length-(intOf iv).toNat)
 case atStart=>exact⟨0,rfl,by omega,HI0⟩
 case round =>
  obtain⟨i,rfl,hi,HI⟩:=hrel
  obtain⟨E,cE,hv1,hv2⟩:=HI.out.v
  by_cases hlt:i < es.length
  ·
   obtain⟨ad,A1,c1,A2,c2,e,q0,q1,q2,l1,g1,l2,g2⟩:=at_R HR2.out (i:Int) (by omega) (by omega)
   subst e
   rw [Int.toNat_natCast] at q0 q1 q2
   obtain⟨kk,hkk⟩:=HG.out (rd_R es (i:Int)) (by unfold rd_R; rw [Int.toNat_natCast,List.getD_eq_getElem?_getD,List.getElem?_eq_getElem hlt]; exact List.getElem_mem hlt)
   have HCO:=Aside0.mk (fun (W:World) (hb:Below w.heap.size w W)=>M.fluxionref03_Back.calls kk (rd_R es (i:Int)).f0 A1 c1 (rd_R es (i:Int)).f1 A2 c2 (rd_R es (i:Int)).f2 _ _ _ W (Kd.C_below g1 hb) l1 (Kd.C_below g2 hb) l2 hkk)
   clear hkk
   have HV2:=Aside0.mk hv2
   obtain⟨n,hn⟩:∃ n,n=(es.take i).length:=⟨_,rfl⟩
   have HN:=Aside0.mk hn
   rw [← hn] at hv1
   clear hv2 g1 g2 l1 l2 hn
   have HS:Aside0 (∀ w':World,Below w.heap.size w w'→w'.heap[gO]? = some (.cells #[.slice S1 sh.length k1,.slice E n cE] 30 (0,0))→w'.heap[w.heap.size]? = some (.cells #[.slice A sh.length c,.slice (some ad) es.length d] 44 (0,0))→(w'.cell? ⟨gO,1,none⟩=some (.slice E n cE)∧w'.cell? ⟨w.heap.size,1,none⟩=some (.slice (some ad) es.length d)∧w'.cell? (ad.add (i*3))=some (.bool (rd_R es (i:Int)).f0)∧w'.cell? ⟨(ad.add (i*3)).block,(ad.add (i*3)).off+1,none⟩=some (.slice A1 (rd_R es (i:Int)).f1.length c1)∧w'.cell? ⟨(ad.add (i*3)).block,(ad.add (i*3)).off+2,none⟩=some (.slice A2 (rd_R es (i:Int)).f2.length c2))):=⟨fun w' h h1 h2=>⟨(zad h1 1).trans rfl,(zad h2 1).trans rfl,(h.cell (World.block_lt_of_cell? w _ q0)).trans q0,(h.cell (World.block_lt_of_cell? w _ q1)).trans q1,(h.cell (World.block_lt_of_cell? w _ q2)).trans q2⟩⟩
   clear q0 q1 q2
   have s0:=(HS.out wr HI.out.be hv1 HI.out.bt)
   obtain⟨s1,s2,s3,s4,s5⟩:=s0
   go_wp2_with fail
   clear s1 s2 s3 s4 s5
   refine zbg (n:=12) (S:=fun w'=>(w'.cell? ⟨gO,1,none⟩=some (.slice E n cE)∧w'.cell? ⟨w.heap.size,1,none⟩=some (.slice (some ad) es.length d)∧w'.cell? (ad.add (i*3))=some (.bool (rd_R es (i:Int)).f0)∧w'.cell? ⟨(ad.add (i*3)).block,(ad.add (i*3)).off+1,none⟩=some (.slice A1 (rd_R es (i:Int)).f1.length c1)∧w'.cell? ⟨(ad.add (i*3)).block,(ad.add (i*3)).off+2,none⟩=some (.slice A2 (rd_R es (i:Int)).f2.length c2))) (ds:=[11]) #[zf,zf,zf,zf,zf,zf,zf,zf,zf,zf,zf,zf] (by kernel_rfl) rfl rfl ((HS.out _ (zaa HI.out.be (zag (Below.refl _ _))) (zai hv1) (zai HI.out.bt))) (fun hHeld=>?_)
   have hb0:=Aside0.mk (show Below wr.heap.size wr wr.drew from zag (Below.refl _ _))
   generalize wr.drew=V0 at hb0 hHeld ⊢
   refine qp 0 (some 16) ?_
   refine qp 2 (some 18) ?_
   refine qp 4 (some 20) ?_
   refine qt 1 (some 17) ?_
   refine qt 3 (some 19) ?_
   refine qp 5 (some 21) ?_
   refine qt 6 (some 22) ?_
   refine qo 7 (some 23) (fun K hK=>?_)
   refine qg Tryz.func64 #[.agg #[.bool (rd_R es (i:Int)).f0,.slice A1 (rd_R es (i:Int)).f1.length c1,.slice A2 (rd_R es (i:Int)).f2.length c2]] ?_
   refine(HCO.out V0 (zaa HI.out.be hb0.out)).mono ?_
   rintro e V1 ⟨u1,u2,rfl,R1,R2,hB⟩
   refine⟨_,rfl,?_⟩
   obtain⟨F1,f1,rfl⟩:=Kd.R_slice R1
   obtain⟨F2,f2,rfl⟩:=Kd.R_slice R2
   have HP:=Aside0.mk (M.k27_mkM V1 w.heap.size (fun k=>V0.heap.size≤k) (g (rd_R es (i:Int))) (Kd.R_mono (Kd.R_lower (Kd.R_bound R1) (zaa HI.out.be hb0.out).size) (fun k hk=>hk.2.1)) (Kd.R_mono (Kd.R_lower (Kd.R_bound R2) (zaa HI.out.be hb0.out).size) (fun k hk=>hk.2.1)))
   have hb1:=Aside0.mk (zaa hb0.out hB)
   clear hB R1 R2
   refine hK.out _ _ ((HS.out _ (zaa HI.out.be hb1.out) (zae hv1 hb1.out) (zae HI.out.bt hb1.out))) (fun hHeld=>?_)
   clear hK K
   refine qn ?_
   refine qo 8 (some 24) (fun K hK=>?_)
   refine qv ?_
   refine hK.out _ _ ((HS.out _ (zab (zaa HI.out.be hb1.out) _) (zah (zae hv1 hb1.out) _) (zah (zae HI.out.bt hb1.out) _))) (fun hHeld=>?_)
   clear hK K
   refine qn ?_
   refine qo 9 (some 25) (fun K hK=>?_)
   have hO:=Kd.R_below HV2.out hb1.out
   rw [← HN.out] at hO
   refine Kd.R_append_step M.k27 (w0:=w) (W:=V1) w.heap.size (by rfl) (.tmp 17) (.tmp 24) 28 27 (.agg #[.bool false,.slice none 0 0,.slice none 0 0]) 56 rfl Tryz.underlying28 J.info27 rfl (by decide) (by decide) (.slice E n cE) ((es.take i).map g) (g (rd_R es (i:Int))) [.bool (g (rd_R es (i:Int))).f0,.slice F1 (g (rd_R es (i:Int))).f1.length f1,.slice F2 (g (rd_R es (i:Int))).f2.length f2] (fun k=>gO < k) (fun k=>V0.heap.size≤k) rfl rfl HP.out (fun k hk=>⟨by have:=zaz (zae hv1 hb0.out); omega,fun e=>by have:=Kd.R_lt (Kd.R_below HV2.out hb0.out) k (by rw [← HN.out]; exact e.symm); omega⟩) (fun k hk=>by have:=zaz (zae hv1 hb1.out); omega) hO (zaa HI.out.be hb1.out) (zaa HI.out.be hb1.out).size (by rw [List.length_map,List.length_take]; omega) ?_
   intro v1 V2 hR hB hG hat
   have hne:∀ b o,wr.heap[b]? = some o→b≤gO→V2.heap[b]? = some o:=fun b o hbo hle=>blk_grown (zae hbo hb1.out) hG (fun e=>by have:=HV2.out.1 b (by rw [← HN.out]; exact e.symm); omega)
   have hsh:=Kd.R_grown (Kd.R_below HI.out.sh hb1.out) hG (fun k hk e=>by have:=HV2.out.1 k (by rw [← HN.out]; exact e.symm); omega)
   obtain⟨E2,e2,rfl⟩:=Kd.R_slice hR
   have HQ:=Aside0.mk (And.intro hR (And.intro hB (And.intro hsh (And.intro (hne _ _ HI.out.bt (by have:=HGO.out; omega)) (And.intro (hne _ _ HI.out.bz (by have:=HGO.out; omega)) (hne _ _ hv1 (Nat.le_refl _)))))))
   clear hR hB hG hat hne hsh hO
   refine hK.out _ _ ((HS.out _ HQ.out.2.1 HQ.out.2.2.2.2.2 HQ.out.2.2.2.1)) (fun hHeld=>?_)
   clear hK K
   refine qn ?_
   refine qp 10 (some 26) ?_
   refine ql 11 none (fun K hK=>?_)
   have hf3:=zap HQ.out.2.2.2.2.2 1
   have hc3:V2.cell? ⟨gO,1,none⟩=some (.slice E n cE):=(zad HQ.out.2.2.2.2.2 1).trans rfl
   refine qx ?_
   refine hK.out _ _ ?_
   clear hK K
   refine done_ (by kernel_rfl) ?_
   clear hHeld hf3 hc3
   go_wp2
   go_roundw
   case rel =>
    refine⟨i+1,by go_num,by omega,⟨⟨⟨E2,e2,?_,?_⟩,Kd.R_far (p:=⟨gO,1,none⟩) HQ.out.2.2.1 (fun k hk=>Nat.ne_of_lt hk) _,zax HQ.out.2.2.2.1 (by have:=HGO.out; show w.heap.size≠gO; omega) _,zax HQ.out.2.2.2.2.1 (by have:=HGO.out; show w.heap.size+1≠gO; omega) _,zao HQ.out.2.1 (by have:=HGO.out; show w.heap.size≤gO; omega)⟩⟩⟩
    ·
     have hl:(es.take (i+1)).length=i+1:=by rw [List.length_take]; omega
     rw [hl]
     exact zar (cs:=#[.slice S1 sh.length k1,.slice E n cE]) HQ.out.2.2.2.2.2 1 _ rfl
    ·
     have he:(es.take (i+1)).map g=(es.take i).map g++[g (rd_R es (i:Int))]:=by rw [take_succ_R hlt,List.map_append]; rfl
     have hln:(es.take (i+1)).length=((es.take i).map g++[g (rd_R es (i:Int))]).length:=by rw [← he,List.length_map]
     rw [hln,he]
     exact Kd.R_far (p:=⟨gO,1,none⟩) HQ.out.1 (fun k hk=>Nat.ne_of_gt hk) _
   case measure=>simp [intOf]; omega
  ·
   have hie:es.take i=es:=List.take_of_length_le (by omega)
   rw [hie] at hv1 hv2
   have c1:wr.cell? ⟨w.heap.size,1,none⟩=some (.slice B es.length d):=(zad HI.out.bt 1).trans rfl
   have o0:wr.cell? ⟨gO,0,none⟩=some (.slice S1 sh.length k1):=(zad hv1 0).trans rfl
   have o1:wr.cell? ⟨gO,1,none⟩=some (.slice E es.length cE):=(zad hv1 1).trans rfl
   have z0:wr.cell? ⟨w.heap.size+1,0,none⟩=some (.slice none 0 0):=(zad HI.out.bz 0).trans rfl
   have z1:wr.cell? ⟨w.heap.size+1,1,none⟩=some (.slice none 0 0):=(zad HI.out.bz 1).trans rfl
   have y0:=zap HI.out.bz 0
   have y1:=zap HI.out.bz 1
   have HV2:=Aside0.mk hv2
   clear hv1 hv2 hie
   go_wp2
   have hn1:=zar (cs':=#[.slice S1 sh.length k1,.slice E es.length cE]) (zar (cs':=#[.slice S1 sh.length k1,.slice none 0 0]) HI.out.bz 0 (.slice S1 sh.length k1) rfl) 1 (.slice E es.length cE) rfl
   refine bodyPost_ret (results_cell_row rfl _ _ (w.heap.size+1) 30 _ (0,0) _ rfl hn1 hu67 rfl (by kernel_rfl)) rfl ?_
   have hgo:=HGO.out
   have hsh:Kd.R (Kd.int .i64) 3 wr w.heap.size (fun k=>k≠w.heap.size+1) (.slice S1 sh.length k1) sh:=Kd.R_mono (Kd.R_types HI.out.sh HI.out.bz (by decide)) (fun k hk=>hk.2)
   exact⟨S1,k1,E,cE,rfl,Kd.R_mono (Kd.R_far (p:=⟨w.heap.size+1,1,none⟩) (Kd.R_far (p:=⟨w.heap.size+1,0,none⟩) hsh (fun k hk=>hk) _) (fun k hk=>hk) _) (fun _ _=>trivial),
    Kd.R_mono (Kd.R_far (p:=⟨w.heap.size+1,1,none⟩) (Kd.R_far (p:=⟨w.heap.size+1,0,none⟩) HV2.out (fun k hk=>by show k≠w.heap.size+1; omega) _) (fun k hk=>by show k≠w.heap.size+1; omega) _) (fun _ _=>trivial),
    zao (zao HI.out.be (by show w.heap.size≤w.heap.size+1; omega)) (by show w.heap.size≤w.heap.size+1; omega)⟩
end Go.Proofs.YtehghijlchpeaaaGreat.Nat1
end
section
namespace Go.Proofs.YtehghijlchpeaaaGreat.Nat1
open Go.RowKit YtehghijlchpeaaaGreatW.PrintWords YtehghijlchpeaaaGreatW.PrintLast YtehghijlchpeaaaGreatW.PrintMore L Nt Ev
def li {α:Type} (g:Nat→α) (i:Nat):List α:=(List.range i).map g
theorem li_len {α:Type} (g:Nat→α) (i:Nat):(li g i).length=i:=by simp [li]
theorem li_succ {α:Type} (g:Nat→α) (i:Nat):li g (i+1)=li g i++[g i]:=by
 rw [li,List.range_succ,List.map_append]
 rfl
def SQ (X:QN):SR:=⟨X.1,dg 10000 X.2.1,dg 10000 X.2.2⟩
theorem li_map {α β:Type} (es:List α) (z:α) (f:α→β):li (fun i:Nat=>f (es.getD i z)) es.length=es.map f:=by
 apply List.ext_getElem
 ·
  simp [li]
 ·
  intro i h1 h2
  simp [li] at h1 ⊢
  rw [List.getElem?_eq_getElem h1,Option.getD_some]
theorem li_rd (es:List M.S27) {β:Type} (f:M.S27→β):li (fun i:Nat=>f (M.rd_T27 es (i:Int))) es.length=es.map f:=by
 have:=li_map es M.z27 f
 simp only [M.rd_T27,Int.toNat_natCast]
 exact this
theorem tof_n (A:Option Addr) (c:Nat) (sh:List Int) (B:Option Addr) (d:Nat) (es:List M.S27) (w:World) (hr1:Kd.C (Kd.int .i64) w A sh.length sh) (hr2:Kd.C M.k27 w B es.length es) (hl1:sh.length*8≤140737488355328) (hlen:es.length≤1099511627776) (hok:∀ x∈es,eOk x) :
  Calls Tryz.prog 33 #[.agg #[.slice A sh.length c,.slice B es.length d]] w fun e w'=>∃ A' c' B' d',e=.returned (.agg #[.slice A' sh.length c',.slice B' es.length d']) ∧
   Kd.R (Kd.int .i64) 3 w' w.heap.size (fun _=>True) (.slice A' sh.length c') sh∧Kd.R kR 40 w' w.heap.size (fun _=>True) (.slice B' es.length d') (es.map (fun x=>SQ (eN x)))∧Below w.heap.size w w':=by
 have huT:=Tryz.underlying44
 have huTT:=Tryz.underlying30
 have huR:=Tryz.underlying40
 have hu25:=Tryz.underlying27
 have HRC:=Aside0.mk (fun (W:World) (hb:Below w.heap.size w W)=>Kd.C_below hr1 hb)
 have HR2:=Aside0.mk hr2
 have HOK:=Aside0.mk (fun i:Nat=>rd_ok hok i)
 clear hr1 hr2 hok
 go_enter Tryz.func33,Tryz.ntmps33
 go_wp2_with ((with_reducible refine zaB (b:=.append) rfl ?_); go_must (refine wp_mixed rfl _ _ 22 23 3 3 rfl Tryz.underlying22 Tryz.underlying23 (fun Q' HQ'=>?_); refine Kd.R_append_row (Value.int .i64) (0:Int) _ rfl _ _ 22 3 (.int .i64 0) 8 rfl Tryz.underlying22 M.info3 rfl (by omega) (.slice none 0 0) [] sh A sh.length c (fun _=>True) rfl rfl (fun _ _=>trivial) (Kd.R_nil _ _ _ _ _) (HRC.out _ (zab (zab (Below.refl _ _) _) _)) (Below.refl _ _) (Nat.le_refl _) (by simp only [List.length_nil]; omega) ?_); intro v1 W1 hR hB hx1 hx2; refine HQ' _ _ ?_; clear hx1 hx2 HQ'; rw [List.nil_append] at hR; obtain⟨S1,k1,rfl⟩:=Kd.R_slice hR; have HS1:=Aside0.mk hR; have HB1:=Aside0.mk hB; clear hR hB)
 have hx0:=zah (zaw w (.cells #[.slice A sh.length c,.slice B es.length d] 30)) (.cells #[.slice none 0 0,.slice none 0 0] 44)
 have hx1:=zaw (w.alloc (.cells #[.slice A sh.length c,.slice B es.length d] 30)) (.cells #[.slice none 0 0,.slice none 0 0] 44)
 rw [show (w.alloc (.cells #[.slice A sh.length c,.slice B es.length d] 30)).heap.size=w.heap.size+1 by simp] at hx1
 have hbw:Below w.heap.size w ((w.alloc (.cells #[.slice A sh.length c,.slice B es.length d] 30)).alloc (.cells #[.slice none 0 0,.slice none 0 0] 44)):=zab (zab (Below.refl _ _) _) _
 replace hx0:=zah (zae hx0 HB1.out) (.cells #[.slice S1 sh.length k1,.slice none 0 0] 44)
 replace hx1:=zah (zae hx1 HB1.out) (.cells #[.slice S1 sh.length k1,.slice none 0 0] 44)
 have hxO:=zaw W1 (.cells #[.slice S1 sh.length k1,.slice none 0 0] 44)
 obtain⟨gO,hgO⟩:∃ g,g=W1.heap.size:=⟨_,rfl⟩
 have hsz:((w.alloc (.cells #[.slice A sh.length c,.slice B es.length d] 30)).alloc (.cells #[.slice none 0 0,.slice none 0 0] 44)).heap.size=w.heap.size+1+1:=by simp
 have hS:=HS1.out
 have hsz1:=HB1.out.size
 rw [hsz] at hS hsz1
 have HSH:=Aside0.mk (Kd.R_alloc (Kd.R_mono (Kd.R_bound hS) (fun k hk=>(show k < gO by rw [hgO]; exact hk.2.2.1))) (.cells #[.slice S1 sh.length k1,.slice none 0 0] 44))
 have HX:=Aside0.mk (And.intro hx0 (And.intro hx1 (zab (zaa hbw HB1.out) (.cells #[.slice S1 sh.length k1,.slice none 0 0] 44))))
 have HGO:=Aside0.mk (show w.heap.size+1 < gO by omega)
 rw [← hgO] at hxO ⊢
 have HA0:=Aside0.mk (show AR kR 44 40 (W1.alloc (.cells #[.slice S1 sh.length k1,.slice none 0 0] 44)) gO (.slice S1 sh.length k1) (li (fun i:Nat=>SQ (eN (M.rd_T27 es (i:Int)))) 0) (W1.alloc (.cells #[.slice S1 sh.length k1,.slice none 0 0] 44)) from ⟨⟨none,0,hxO,Kd.R_nil _ _ _ _ _⟩,Below.refl _ _⟩)
 clear hx0 hx1 hbw hxO hgO hsz hS hsz1 HS1 HB1
 generalize W1.alloc (.cells #[.slice S1 sh.length k1,.slice none 0 0] 44)=W0 at HX HSH HA0 ⊢
 go_loopw [4] (fun iv wr=>∃ i:Nat,iv=.int .i64 i∧i≤es.length∧Aside0 (AR kR 44 40 W0 gO (.slice S1 sh.length k1) (li (fun i:Nat=>SQ (eN (M.rd_T27 es (i:Int)))) i) wr)) (fun iv _=>es.length-(intOf iv).toNat)
 case atStart=>exact⟨0,rfl,by omega,HA0⟩
 case round =>
  obtain⟨i,rfl,hi,HI⟩:=hrel
  have HW:=Aside0.mk (show Below w.heap.size w wr from HX.out.2.2.trans (HI.out.be.mono (by have:=HGO.out; omega)))
  have b0:wr.heap[w.heap.size]? = some (.cells #[.slice A sh.length c,.slice B es.length d] 30 (0,0)):=(HI.out.be.block _ (by have:=HGO.out; omega)).trans HX.out.1
  have b1:wr.heap[w.heap.size+1]? = some (.cells #[.slice none 0 0,.slice none 0 0] 44 (0,0)):=(HI.out.be.block _ (by have:=HGO.out; omega)).trans HX.out.2.1
  have HB:=Aside0.mk (And.intro b0 b1)
  obtain⟨E,cE,hv1,hv2⟩:=HI.out.v
  rw [li_len] at hv1 hv2
  clear b0 b1
  by_cases hlt:i < es.length
  ·
   skip
   obtain⟨ad,aA,aa,aB,ab,e,a0,a1,a2,al1,ag1,al2,ag2⟩:=M.at_T27 HR2.out (i:Int) (by omega) (by omega)
   subst e
   rw [Int.toNat_natCast] at a0 a1 a2
   have HCO:=Aside0.mk (fun (W:World) (hb:Below w.heap.size w W)=>ref_of_n (EL.nr (w:=W) (x:=(M.rd_T27 es (i:Int))) ⟨aA,aa,aB,ab,rfl,⟨Kd.C_below ag1 hb,al1⟩,⟨Kd.C_below ag2 hb,al2⟩⟩ (HOK.out i)))
   have HV2:=Aside0.mk (And.intro hv1 hv2)
   clear hv1 hv2 al1 ag1 al2 ag2
   have s0:(wr.cell? ⟨gO,1,none⟩=some (.slice E i cE)∧wr.cell? ⟨w.heap.size,1,none⟩=some (.slice (some ad) es.length d)∧wr.cell? (ad.add (i*3))=some (.bool (M.rd_T27 es (i:Int)).f0)∧wr.cell? ⟨(ad.add (i*3)).block,(ad.add (i*3)).off+1,none⟩=some (.slice aA (M.rd_T27 es (i:Int)).f1.length aa)∧wr.cell? ⟨(ad.add (i*3)).block,(ad.add (i*3)).off+2,none⟩=some (.slice aB (M.rd_T27 es (i:Int)).f2.length ab)):=⟨(zad HV2.out.1 1).trans rfl,(zad HB.out.1 1).trans rfl,(HW.out.cell (World.block_lt_of_cell? w _ a0)).trans a0,(HW.out.cell (World.block_lt_of_cell? w _ a1)).trans a1,(HW.out.cell (World.block_lt_of_cell? w _ a2)).trans a2⟩
   have HS:Aside0 (∀ w':World,Below (gO+1) wr w'→(w'.cell? ⟨gO,1,none⟩=some (.slice E i cE)∧w'.cell? ⟨w.heap.size,1,none⟩=some (.slice (some ad) es.length d)∧w'.cell? (ad.add (i*3))=some (.bool (M.rd_T27 es (i:Int)).f0)∧w'.cell? ⟨(ad.add (i*3)).block,(ad.add (i*3)).off+1,none⟩=some (.slice aA (M.rd_T27 es (i:Int)).f1.length aa)∧w'.cell? ⟨(ad.add (i*3)).block,(ad.add (i*3)).off+2,none⟩=some (.slice aB (M.rd_T27 es (i:Int)).f2.length ab))):=⟨fun w' h=>by
    have hg:=HGO.out; have hs:=HI.out.lt; have hz:=HW.out.size
    obtain⟨s0,s1,s2,s3,s4⟩:=s0
    exact⟨(h.cell (by show _ < _; simp only []; omega)).trans s0,(h.cell (by show _ < _; simp only []; omega)).trans s1,(h.cell (by exact Nat.lt_of_lt_of_le (World.block_lt_of_cell? w _ a0) (by omega))).trans s2,(h.cell (by exact Nat.lt_of_lt_of_le (World.block_lt_of_cell? w _ a1) (by omega))).trans s3,(h.cell (by exact Nat.lt_of_lt_of_le (World.block_lt_of_cell? w _ a2) (by omega))).trans s4⟩⟩
   obtain⟨s0,s1,s2,s3,s4⟩:=s0
   go_wp2_with fail
   clear s0 s1 s2 s3 s4 a0 a1 a2
   refine zbg (n:=12) (S:=fun w'=>(w'.cell? ⟨gO,1,none⟩=some (.slice E i cE)∧w'.cell? ⟨w.heap.size,1,none⟩=some (.slice (some ad) es.length d)∧w'.cell? (ad.add (i*3))=some (.bool (M.rd_T27 es (i:Int)).f0)∧w'.cell? ⟨(ad.add (i*3)).block,(ad.add (i*3)).off+1,none⟩=some (.slice aA (M.rd_T27 es (i:Int)).f1.length aa)∧w'.cell? ⟨(ad.add (i*3)).block,(ad.add (i*3)).off+2,none⟩=some (.slice aB (M.rd_T27 es (i:Int)).f2.length ab))) (ds:=[11]) #[zf,zf,zf,zf,zf,zf,zf,zf,zf,zf,zf,zf] (by kernel_rfl) rfl rfl ((HS.out _ (zag (Below.refl _ _)))) (fun hHeld=>?_)
   have hb0:=Aside0.mk (show Below wr.heap.size wr wr.drew from zag (Below.refl _ _))
   generalize wr.drew=V0 at hb0 hHeld ⊢
   refine qp 0 (some 16) ?_
   refine qp 2 (some 18) ?_
   refine qp 4 (some 20) ?_
   refine qt 1 (some 17) ?_
   refine qt 3 (some 19) ?_
   refine qp 5 (some 21) ?_
   refine qt 6 (some 22) ?_
   refine qo 7 (some 23) (fun K hK=>?_)
   refine qg Tryz.func22 #[.agg #[.bool (M.rd_T27 es (i:Int)).f0,.slice aA (M.rd_T27 es (i:Int)).f1.length aa,.slice aB (M.rd_T27 es (i:Int)).f2.length ab]] ?_
   refine(HCO.out V0 (zaa HW.out hb0.out)).mono ?_
   rintro e V1 ⟨v,rfl,⟨y1,y2,rfl,R1,R2⟩,hB⟩
   refine⟨_,rfl,?_⟩
   obtain⟨D1,m1,rfl⟩:=Kd.R_slice R1
   obtain⟨D2,m2,rfl⟩:=Kd.R_slice R2
   have hb1:=Aside0.mk (zaa hb0.out hB)
   have hlt1:=Nat.lt_of_lt_of_le HI.out.lt hb0.out.size; have HP2:=Aside0.mk (kR_mkM V1 (gO+1) (fun k=>V0.heap.size≤k) (SQ (eN (M.rd_T27 es (i:Int)))) (Kd.R_mono (Kd.R_lower (Kd.R_bound R1) (Nat.succ_le_of_lt hlt1)) (fun k hk=>hk.2.1)) (Kd.R_mono (Kd.R_lower (Kd.R_bound R2) (Nat.succ_le_of_lt hlt1)) (fun k hk=>hk.2.1))); have HLE:=Aside0.mk (show ∀ k,some k=(Value.slice E i cE).ownBlock→k < V0.heap.size from fun k e=>by have:=Kd.R_lt HV2.out.2 k e.symm; have:=hb0.out.size; omega); clear R1 R2 hlt1
   clear hB 
   refine hK.out _ _ ((HS.out _ (hb1.out.mono HI.out.lt))) (fun hHeld=>?_)
   clear hK K
   refine qn ?_
   refine qo 8 (some 24) (fun K hK=>?_)
   refine qv ?_
   refine hK.out _ _ ((HS.out _ ((hb1.out.mono HI.out.lt).alloc (Nat.le_trans HI.out.lt hb1.out.size) _))) (fun hHeld=>?_)
   clear hK K
   refine qn ?_
   refine qo 9 (some 25) (fun K hK=>?_)
   have hO:=Kd.R_below HV2.out.2 hb1.out
   refine Kd.R_append_step kR (w0:=V1) (W:=V1) (gO+1) (by rfl) (.tmp 17) (.tmp 24) 42 40 (.agg #[.bool false,.slice none 0 0,.slice none 0 0]) 56 rfl Tryz.underlying42 infoR rfl (by decide) (by decide) (.slice E i cE) (li (fun i:Nat=>SQ (eN (M.rd_T27 es (i:Int)))) i) (SQ (eN (M.rd_T27 es (i:Int)))) [.bool (eN (M.rd_T27 es (i:Int))).1,.slice D1 (dg 10000 (eN (M.rd_T27 es (i:Int))).2.1).length m1,.slice D2 (dg 10000 (eN (M.rd_T27 es (i:Int))).2.2).length m2] (fun _=>True) (fun k=>V0.heap.size≤k) rfl rfl HP2.out (fun k hk=>⟨trivial,fun e=>by have:=HLE.out k e; omega⟩) (fun _ _=>trivial) hO (Below.refl _ _) (by have:=HI.out.lt; have:=hb1.out.size; omega) (by rw [li_len]; omega) ?_
   intro v1 VX hR hB hG hat
   rw [show (li (fun i:Nat=>SQ (eN (M.rd_T27 es (i:Int)))) i)++[(SQ (eN (M.rd_T27 es (i:Int))))]=(li (fun i:Nat=>SQ (eN (M.rd_T27 es (i:Int)))) (i+1)) from (li_succ _ _).symm] at hR
   have HQ3:=Aside0.mk (And.intro hR hB)
   obtain⟨E2,e2,rfl⟩:=Kd.R_slice hR
   have HC3:=Aside0.mk (show VX.heap[gO]? = some (.cells #[.slice S1 sh.length k1,.slice E i cE] 44 (0,0)) from (hB.block gO (Nat.lt_succ_self _)).trans (zae HV2.out.1 hb1.out))
   clear hR hB hG hat hO
   refine hK.out _ _ ((HS.out _ ((hb1.out.mono HI.out.lt).trans HQ3.out.2))) (fun hHeld=>?_)
   clear hK K
   refine qn ?_
   refine qp 10 (some 26) ?_
   refine ql 11 none (fun K hK=>?_)
   have hf3:=zap HC3.out 1
   have hc3:VX.cell? ⟨gO,1,none⟩=some (.slice E i cE):=(zad HC3.out 1).trans rfl
   refine qx ?_
   refine hK.out _ _ ?_
   clear hK K
   refine done_ (by kernel_rfl) ?_
   clear hHeld hf3 hc3
   go_wp2
   go_roundw
   case rel =>
    refine⟨i+1,by go_num,by omega,⟨?_⟩⟩
    have h1:=HQ3.out.1
    rw [li_succ] at h1 ⊢
    exact HI.out.push hb1.out h1 HQ3.out.2
   case measure=>simp [intOf]; omega
  ·
   have hie:i=es.length:=by omega
   subst hie
   have c1:wr.cell? ⟨w.heap.size,1,none⟩=some (.slice B es.length d):=(zad HB.out.1 1).trans rfl
   have o0:wr.cell? ⟨gO,0,none⟩=some (.slice S1 sh.length k1):=(zad hv1 0).trans rfl
   have o1:wr.cell? ⟨gO,1,none⟩=some (.slice E es.length cE):=(zad hv1 1).trans rfl
   have z0:wr.cell? ⟨w.heap.size+1,0,none⟩=some (.slice none 0 0):=(zad HB.out.2 0).trans rfl
   have z1:wr.cell? ⟨w.heap.size+1,1,none⟩=some (.slice none 0 0):=(zad HB.out.2 1).trans rfl
   have y0:=zap HB.out.2 0
   have y1:=zap HB.out.2 1
   rw [li_rd es (fun x=>SQ (eN x))] at hv2
   have HV2:=Aside0.mk hv2
   clear hv1 hv2
   go_wp2
   have hn1:=zar (cs':=#[.slice S1 sh.length k1,.slice E es.length cE]) (zar (cs':=#[.slice S1 sh.length k1,.slice none 0 0]) HB.out.2 0 (.slice S1 sh.length k1) rfl) 1 (.slice E es.length cE) rfl
   refine bodyPost_ret (results_cell_row rfl _ _ (w.heap.size+1) 44 _ (0,0) _ rfl hn1 huT rfl (by kernel_rfl)) rfl ?_
   have hgo:=HGO.out
   have hsh:=Kd.R_step (w1:=wr) HSH.out (fun k hk _=>HI.out.be.block k hk)
   exact⟨S1,k1,E,cE,rfl,Kd.R_mono (Kd.R_lower (R_ne (R_ne hsh (by omega) _ _) (by omega) _ _) (by omega)) (fun _ _=>trivial),Kd.R_lower (R_ne (R_ne HV2.out (by omega) _ _) (by omega) _ _) (by omega),zao (zao HW.out (by show w.heap.size≤w.heap.size+1; omega)) (by show w.heap.size≤w.heap.size+1; omega)⟩
end Go.Proofs.YtehghijlchpeaaaGreat.Nat1
end
section
namespace Go.Proofs.YtehghijlchpeaaaGreat.Nat1
open Go.RowKit YtehghijlchpeaaaGreatW.PrintWords YtehghijlchpeaaaGreatW.PrintLast YtehghijlchpeaaaGreatW.PrintMore L Nt Ev
def SX (X:QN):M.S27:=⟨X.1,dg B32 X.2.1,dg B32 X.2.2⟩
end Go.Proofs.YtehghijlchpeaaaGreat.Nat1
end
section
namespace Go.Proofs.YtehghijlchpeaaaGreat.Ev
open Go.RowKit YtehghijlchpeaaaGreatW.PrintWords YtehghijlchpeaaaGreatW.PrintLast YtehghijlchpeaaaGreatW.PrintMore L Nt Nat1
theorem sameS_loop {a b:List Int} (h:a.length=b.length) (hl:a.length≤4611686018427387904) (n:Nat):∀ i,i+n=a.length→Ev (fun k=>M.fluxionref07_SameShape.l0 k a b (i:Int)) (decide (a.drop i=b.drop i)):=by
 induction n with
 | zero =>
  intro i hi
  rw [List.drop_eq_nil_of_le (by omega),List.drop_eq_nil_of_le (by omega),decide_eq_true rfl]
  refine Ev.succ (Ev.congr (Ev.some _) (fun k=>?_))
  rw [M.fluxionref07_SameShape.l0,if_neg (by omega)]
 | succ n ih =>
  intro i hi
  rw [drop_rd (l:=a) (show i < a.length by omega),drop_rd (l:=b) (show i < b.length by omega)]
  by_cases h1:rd a (i:Int)=rd b (i:Int)
  ·
   rw [show (decide (rd a (i:Int) :: a.drop (i+1)=rd b (i:Int) :: b.drop (i+1)))=decide (a.drop (i+1)=b.drop (i+1)) by rw [decide_eq_decide,h1]; simp]
   refine Ev.succ (Ev.congr (ih (i+1) (by omega)) (fun k=>?_))
   rw [M.fluxionref07_SameShape.l0,if_pos (by omega),if_pos (by omega),if_pos (by omega),if_pos h1,w_succ (by omega)]
  ·
   rw [show (decide (rd a (i:Int) :: a.drop (i+1)=rd b (i:Int) :: b.drop (i+1)))=false by rw [decide_eq_false_iff_not]; intro e; injection e with e _; exact h1 e]
   refine Ev.succ (Ev.congr (Ev.some _) (fun k=>?_))
   rw [M.fluxionref07_SameShape.l0,if_pos (by omega),if_pos (by omega),if_pos (by omega),if_neg h1]
theorem sameS_ev {a b:List Int} (hl:a.length≤4611686018427387904):Ev (fun k=>M.fluxionref07_SameShape.f k a b) (decide (a=b)):=by
 by_cases h:a.length=b.length
 ·
  have:=sameS_loop h hl a.length 0 (by omega)
  rw [List.drop_zero,List.drop_zero] at this
  refine Ev.congr this (fun k=>?_)
  rw [M.fluxionref07_SameShape.f,if_pos (by omega)]
  rfl
 ·
  rw [decide_eq_false (fun e=>h (by rw [e]))]
  refine Ev.congr (Ev.some _) (fun k=>?_)
  rw [M.fluxionref07_SameShape.f,if_neg (by omega)]
end Go.Proofs.YtehghijlchpeaaaGreat.Ev
namespace Go.Proofs.YtehghijlchpeaaaGreat.Nat1
open Go.RowKit YtehghijlchpeaaaGreatW.PrintWords YtehghijlchpeaaaGreatW.PrintLast YtehghijlchpeaaaGreatW.PrintMore L Nt Ev
theorem samesh_n {A:Option Addr} {c:Nat} {a:List Int} {A':Option Addr} {c':Nat} {b:List Int} {w:World} (h1:Kd.C (Kd.int .i64) w A a.length a) (h2:a.length≤c) (h3:Kd.C (Kd.int .i64) w A' b.length b) (h4:b.length≤c') (hl:a.length≤4611686018427387904) :
  Calls Tryz.prog 38 #[.slice A a.length c,.slice A' b.length c'] w fun e w'=>e=.returned (.bool (decide (a=b)))∧Below w.heap.size w w':=by
 obtain⟨k,hk⟩:=sameS_ev (b:=b) hl
 refine(M.fluxionref07_SameShape.calls k A c a A' c' b _ w h1 h2 h3 h4 (hk k (Nat.le_refl _))).mono ?_
 rintro e w' ⟨rfl,hD⟩
 obtain⟨m,rfl⟩:=hD.out
 exact⟨rfl,zac (Below.refl _ _) m⟩
theorem SX_may {X:QN} (h:red X):eV (SX X)=0:=by
 unfold eV mayV
 rw [if_pos]
 show X.1=(nrm X.1 (val B32 (dg B32 X.2.1)) (val B32 (dg B32 X.2.2))).1∧dg B32 X.2.1=dg B32 (nrm X.1 (val B32 (dg B32 X.2.1)) (val B32 (dg B32 X.2.2))).2.1∧dg B32 X.2.2=dg B32 (nrm X.1 (val B32 (dg B32 X.2.1)) (val B32 (dg B32 X.2.2))).2.2
 rw [zaH zam,zaH zam,nrm_of_red h]
 exact⟨rfl,rfl,rfl⟩
theorem eOk_SX {X:QN} (h:okQ X):eOk (SX X):=⟨okS_dg h.1,okS_dg h.2⟩
end Go.Proofs.YtehghijlchpeaaaGreat.Nat1
end
section
namespace Go.Proofs.YtehghijlchpeaaaGreat.Nat1
open Go.RowKit YtehghijlchpeaaaGreatW.PrintWords YtehghijlchpeaaaGreatW.PrintLast YtehghijlchpeaaaGreatW.PrintMore L Nt Ev
theorem ref_is_c {w:World} {X:QN} {A1 A2 B1 B2:Option Addr} {c1 c2 d1 d2:Nat} (h1:(Kd.int .i64).C w A1 (dg 10000 X.2.1).length (dg 10000 X.2.1)) (l1:(dg 10000 X.2.1).length≤c1) (h2:(Kd.int .i64).C w A2 (dg 10000 X.2.2).length (dg 10000 X.2.2)) (l2:(dg 10000 X.2.2).length≤c2)
  (h3:(Kd.int .u32).C w B1 (dg B32 X.2.1).length (dg B32 X.2.1)) (l3:(dg B32 X.2.1).length≤d1) (h4:(Kd.int .u32).C w B2 (dg B32 X.2.2).length (dg B32 X.2.2)) (l4:(dg B32 X.2.2).length≤d2) (hx:okQ X) :
  Calls Tryz.prog 36 #[.agg #[.bool X.1,.slice A1 (dg 10000 X.2.1).length c1,.slice A2 (dg 10000 X.2.2).length c2],.agg #[.bool X.1,.slice B1 (dg B32 X.2.1).length d1,.slice B2 (dg B32 X.2.2).length d2]] w fun e w'=>e=.returned (.bool true)∧Below w.heap.size w w':=by
 obtain⟨k,hk⟩:=isR_ev (r:=X) (n:=X.1) (okE_dg hx.1) (okE_dg hx.2)
 have hk:=hk k (Nat.le_refl _)
 rw [decide_eq_true ⟨rfl,rfl,rfl⟩] at hk
 exact fluxionref03_Is.calls k X.1 A1 c1 _ A2 c2 _ X.1 B1 d1 _ B2 d2 _ _ w h1 l1 h2 l2 h3 l3 h4 l4 hk
theorem rd_R_map {α:Type} (xs:List α) (f:α→SR) {i:Nat} (h:i < xs.length):rd_R (xs.map f) (i:Int)=f xs[i]:=by
 simp [rd_R,List.getD_eq_getElem?_getD,h]
theorem rd_T_map {α:Type} (xs:List α) (f:α→M.S27) {i:Nat} (h:i < xs.length):M.rd_T27 (xs.map f) (i:Int)=f xs[i]:=by
 simp [M.rd_T27,List.getD_eq_getElem?_getD,h]
theorem tis_n {A:Option Addr} {c:Nat} {sh:List Int} {B:Option Addr} {d:Nat} {A':Option Addr} {c':Nat} {B':Option Addr} {d':Nat} {xs:List QN} {w:World} (hr1:Kd.C (Kd.int .i64) w A sh.length sh) (hc1:sh.length≤c) (hr2:Kd.C kR w B xs.length (xs.map SQ)) (hc2:xs.length≤d) (hr3:Kd.C (Kd.int .i64) w A' sh.length sh) (hc3:sh.length≤c') (hr4:Kd.C M.k27 w B' xs.length (xs.map SX)) (hc4:xs.length≤d')
  (hl1:sh.length≤4611686018427387904) (hlen:xs.length≤1099511627776) (hok:∀ X∈xs,okQ X) :
  Calls Tryz.prog 21 #[.agg #[.slice A sh.length c,.slice B xs.length d],.agg #[.slice A' sh.length c',.slice B' xs.length d']] w fun e w'=>e=.returned (.bool true)∧Below w.heap.size w w':=by
 have huT:=Tryz.underlying44
 have huTT:=Tryz.underlying30
 have huR:=Tryz.underlying40
 have hu25:=Tryz.underlying27
 have HSS:=Aside0.mk (fun (W:World) (hb:Below w.heap.size w W)=>samesh_n (Kd.C_below hr1 hb) hc1 (Kd.C_below hr3 hb) hc3 hl1)
 rw [decide_eq_true rfl] at HSS
 have HR2:=Aside0.mk hr2
 have HR4:=Aside0.mk hr4
 have HOK:=Aside0.mk hok
 clear hr1 hr2 hr3 hr4 hok
 go_enter Tryz.func21,Tryz.ntmps21
 go_wp2_with fail
 have hx0:=zah (zaw w (.cells #[.slice A sh.length c,.slice B xs.length d] 44)) (.cells #[.slice A' sh.length c',.slice B' xs.length d'] 30)
 have hx1:=zaw (w.alloc (.cells #[.slice A sh.length c,.slice B xs.length d] 44)) (.cells #[.slice A' sh.length c',.slice B' xs.length d'] 30)
 rw [show (w.alloc (.cells #[.slice A sh.length c,.slice B xs.length d] 44)).heap.size=w.heap.size+1 by simp] at hx1
 have hbw:Below w.heap.size w ((w.alloc (.cells #[.slice A sh.length c,.slice B xs.length d] 44)).alloc (.cells #[.slice A' sh.length c',.slice B' xs.length d'] 30)):=zab (zab (Below.refl _ _) _) _
 generalize ((w.alloc (.cells #[.slice A sh.length c,.slice B xs.length d] 44)).alloc (.cells #[.slice A' sh.length c',.slice B' xs.length d'] 30))=W0 at hx0 hx1 hbw ⊢
 refine(HSS.out W0 hbw).mono ?_
 rintro e W1 ⟨rfl,hB⟩
 have HX:=Aside0.mk (And.intro (zae hx0 hB) (And.intro (zae hx1 hB) (zaa hbw hB)))
 have c1:W1.cell? ⟨w.heap.size,1,none⟩=some (.slice B xs.length d):=(zad HX.out.1 1).trans rfl
 have c2:W1.cell? ⟨w.heap.size+1,1,none⟩=some (.slice B' xs.length d'):=(zad HX.out.2.1 1).trans rfl
 clear hx0 hx1 hbw hB HSS
 go_wp2_with fail
 clear c1 c2
 go_loopw [5] (fun iv wr=>∃ i:Nat,iv=.int .i64 i∧i≤xs.length∧Aside0 (Below W1.heap.size W1 wr)) (fun iv _=>xs.length-(intOf iv).toNat)
 case atStart=>exact⟨0,rfl,by omega,⟨Below.refl _ _⟩⟩
 case round =>
  obtain⟨i,rfl,hi,HI⟩:=hrel
  have HW:=Aside0.mk (zaa HX.out.2.2 HI.out)
  have c1:wr.cell? ⟨w.heap.size,1,none⟩=some (.slice B xs.length d):=(zad (zae HX.out.1 HI.out) 1).trans rfl
  have c2:wr.cell? ⟨w.heap.size+1,1,none⟩=some (.slice B' xs.length d'):=(zad (zae HX.out.2.1 HI.out) 1).trans rfl
  by_cases hlt:i < xs.length
  ·
   obtain⟨ad,aA,aa,aB,ab,e,a0,a1,a2,al1,ag1,al2,ag2⟩:=at_R HR2.out (i:Int) (by omega) (by omega)
   subst e
   obtain⟨bd,bA,ba,bB,bb,e,b0,b1,b2,bl1,bg1,bl2,bg2⟩:=M.at_T27 HR4.out (i:Int) (by omega) (by omega)
   subst e
   rw [Int.toNat_natCast] at a0 a1 a2 b0 b1 b2
   rw [rd_R_map xs SQ hlt] at a0 a1 a2 al1 ag1 al2 ag2
   rw [rd_T_map xs SX hlt] at b0 b1 b2 bl1 bg1 bl2 bg2
   have hX:=HOK.out _ (List.getElem_mem hlt)
   generalize xs[i]=X at a0 a1 a2 al1 ag1 al2 ag2 b0 b1 b2 bl1 bg1 bl2 bg2 hX
   have HC:=Aside0.mk (fun (W:World) (hb:Below w.heap.size w W)=>ref_is_c (Kd.C_below ag1 hb) al1 (Kd.C_below ag2 hb) al2 (Kd.C_below bg1 hb) bl1 (Kd.C_below bg2 hb) bl2 hX)
   clear al1 ag1 al2 ag2 bl1 bg1 bl2 bg2 hX
   have HS:Aside0 (∀ w':World,Below wr.heap.size wr w'→(w'.cell? ⟨w.heap.size,1,none⟩=some (.slice (some ad) xs.length d)∧w'.cell? ⟨w.heap.size+1,1,none⟩=some (.slice (some bd) xs.length d')∧w'.cell? (ad.add (i*3))=some (.bool (SQ X).f0)∧w'.cell? ⟨(ad.add (i*3)).block,(ad.add (i*3)).off+1,none⟩=some (.slice aA (SQ X).f1.length aa)∧w'.cell? ⟨(ad.add (i*3)).block,(ad.add (i*3)).off+2,none⟩=some (.slice aB (SQ X).f2.length ab)∧w'.cell? (bd.add (i*3))=some (.bool (SX X).f0)∧w'.cell? ⟨(bd.add (i*3)).block,(bd.add (i*3)).off+1,none⟩=some (.slice bA (SX X).f1.length ba)∧w'.cell? ⟨(bd.add (i*3)).block,(bd.add (i*3)).off+2,none⟩=some (.slice bB (SX X).f2.length bb))):=⟨fun w' h=>⟨(h.cell (World.block_lt_of_cell? wr _ (c1))).trans (c1),(h.cell (World.block_lt_of_cell? wr _ (c2))).trans (c2),(h.cell (World.block_lt_of_cell? wr _ ((HW.out.cell (World.block_lt_of_cell? w _ a0)).trans a0))).trans ((HW.out.cell (World.block_lt_of_cell? w _ a0)).trans a0),(h.cell (World.block_lt_of_cell? wr _ ((HW.out.cell (World.block_lt_of_cell? w _ a1)).trans a1))).trans ((HW.out.cell (World.block_lt_of_cell? w _ a1)).trans a1),(h.cell (World.block_lt_of_cell? wr _ ((HW.out.cell (World.block_lt_of_cell? w _ a2)).trans a2))).trans ((HW.out.cell (World.block_lt_of_cell? w _ a2)).trans a2),(h.cell (World.block_lt_of_cell? wr _ ((HW.out.cell (World.block_lt_of_cell? w _ b0)).trans b0))).trans ((HW.out.cell (World.block_lt_of_cell? w _ b0)).trans b0),(h.cell (World.block_lt_of_cell? wr _ ((HW.out.cell (World.block_lt_of_cell? w _ b1)).trans b1))).trans ((HW.out.cell (World.block_lt_of_cell? w _ b1)).trans b1),(h.cell (World.block_lt_of_cell? wr _ ((HW.out.cell (World.block_lt_of_cell? w _ b2)).trans b2))).trans ((HW.out.cell (World.block_lt_of_cell? w _ b2)).trans b2)⟩⟩
   obtain⟨s0,s1,s2,s3,s4,s5,s6,s7⟩:=HS.out wr (Below.refl _ _)
   go_wp2_with fail
   clear c1 c2 a0 a1 a2 b0 b1 b2 s0 s1 s2 s3 s4 s5 s6 s7
   refine zbg (n:=12) (S:=fun w'=>(w'.cell? ⟨w.heap.size,1,none⟩=some (.slice (some ad) xs.length d)∧w'.cell? ⟨w.heap.size+1,1,none⟩=some (.slice (some bd) xs.length d')∧w'.cell? (ad.add (i*3))=some (.bool (SQ X).f0)∧w'.cell? ⟨(ad.add (i*3)).block,(ad.add (i*3)).off+1,none⟩=some (.slice aA (SQ X).f1.length aa)∧w'.cell? ⟨(ad.add (i*3)).block,(ad.add (i*3)).off+2,none⟩=some (.slice aB (SQ X).f2.length ab)∧w'.cell? (bd.add (i*3))=some (.bool (SX X).f0)∧w'.cell? ⟨(bd.add (i*3)).block,(bd.add (i*3)).off+1,none⟩=some (.slice bA (SX X).f1.length ba)∧w'.cell? ⟨(bd.add (i*3)).block,(bd.add (i*3)).off+2,none⟩=some (.slice bB (SX X).f2.length bb))) (ds:=[]) #[zf,zf,zf,zf,zf,zf,zf,zf,zf,zf,zf,zf] (by kernel_rfl) rfl rfl ((HS.out _ (zag (Below.refl _ _)))) (fun hHeld=>?_)
   have hb0:=Aside0.mk (show Below wr.heap.size wr wr.drew from zag (Below.refl _ _))
   generalize wr.drew=V0 at hb0 hHeld ⊢
   refine qp 0 (some 28) ?_
   refine qp 2 (some 30) ?_
   refine qp 5 (some 33) ?_
   refine qp 7 (some 35) ?_
   refine qt 1 (some 29) ?_
   refine qp 3 (some 31) ?_
   refine qt 4 (some 32) ?_
   refine qt 6 (some 34) ?_
   refine qp 8 (some 36) ?_
   refine qt 9 (some 37) ?_
   refine qo 10 (some 38) (fun K hK=>?_)
   refine qg Tryz.func36 #[.agg #[.bool (SQ X).f0,.slice aA (SQ X).f1.length aa,.slice aB (SQ X).f2.length ab],.agg #[.bool (SX X).f0,.slice bA (SX X).f1.length ba,.slice bB (SX X).f2.length bb]] ?_
   refine(HC.out V0 (zaa HW.out hb0.out)).mono ?_
   rintro e V1 ⟨rfl,hB⟩
   refine⟨_,rfl,?_⟩
   have hb1:=Aside0.mk (zaa hb0.out hB)
   clear hB hb0
   refine hK.out _ _ ((HS.out _ hb1.out)) (fun hHeld=>?_)
   clear hK K
   refine qn ?_
   refine qp 11 (some 39) ?_
   refine done_ (by kernel_rfl) ?_
   clear hHeld
   go_wp2
   go_roundw
   case rel=>exact⟨i+1,by go_num,by omega,⟨zaa HI.out hb1.out⟩⟩
   case measure=>simp [intOf]; omega
  ·
   go_wp2
   go_ret
   exact⟨rfl,HW.out⟩
end Go.Proofs.YtehghijlchpeaaaGreat.Nat1
end
section
namespace Go.Proofs.YtehghijlchpeaaaGreat.Nat1
open Go.RowKit YtehghijlchpeaaaGreatW.PrintWords YtehghijlchpeaaaGreatW.PrintLast YtehghijlchpeaaaGreatW.PrintMore L Nt Ev
theorem RT.rv {w:World} {b:Nat} {v:Value} {X:QN} (h:RT w b v X):RV w b v (SX X):=by
 obtain⟨A1,c1,A2,c2,rfl,R1,R2⟩:=h.args
 exact⟨A1,c1,A2,c2,rfl,Kd.R_mono R1 (fun _ _=>trivial),Kd.R_mono R2 (fun _ _=>trivial)⟩
def nE (x:M.S27):M.S27:=SX (eN x)
theorem norm_v {W:World} {v:Value} {x:M.S27} (h:EL W v x) (hk:eOk x):CallsV (.func (.func 85) #[] #[]) #[v] W fun e W'=>∃ u,e=.returned u∧RV W' W.heap.size u (nE x)∧Below W.heap.size W W' :=
 ⟨_,_,_,_,rfl,Tryz.func85,by kernel_rfl,rfl,by
  have:=norm_n (h.nr hk)
  refine Calls.mono (by simpa using this) ?_
  rintro e W' ⟨u,rfl,hR,hB⟩
  exact⟨u,rfl,hR.rv,hB⟩⟩
theorem back_t (W:World) (A:Option Addr) (n c:Nat) (B:Option Addr) (m d:Nat):Calls Tryz.prog 71 #[.agg #[.slice A n c,.slice B m d]] W fun e w'=>e=.returned (.agg #[.slice A n c,.slice B m d])∧Below W.heap.size W w':=by
 have hu:=Tryz.underlying91
 have hu67:=Tryz.underlying30
 go_enter Tryz.func71,Tryz.ntmps71
 go_wp2
 have hn:=zaw (W.alloc (.cells #[.slice A n c,.slice B m d] 91)) (.cells #[.slice A n c,.slice B m d] 30)
 rw [show (W.alloc (.cells #[.slice A n c,.slice B m d] 91)).heap.size=W.heap.size+1 by simp] at hn
 refine bodyPost_ret (results_cell_row rfl _ _ (W.heap.size+1) 30 _ (0,0) _ rfl hn hu67 rfl (by kernel_rfl)) rfl ?_
 exact⟨rfl,zab (zab (Below.refl _ _) _) _⟩
theorem empty_n (W:World):Calls Tryz.prog 25 #[.agg #[.slice none 0 0,.slice none 0 0]] W fun e w'=>e=.returned (.bool true)∧Below W.heap.size W w':=by
 have hu67:=Tryz.underlying30
 go_enter Tryz.func25,Tryz.ntmps25
 go_wp2
 go_ret
 exact⟨rfl,zab (Below.refl _ _) _⟩
theorem makeS_n (A:Option Addr) (c:Nat) (sh:List Int) (B:Option Addr) (d:Nat) (es:List M.S27) (w:World) (hr1:Kd.C (Kd.int .i64) w A sh.length sh) (hc1:sh.length≤c) (hr2:Kd.C M.k27 w B es.length es) (hc2:es.length≤d) (hlen:es.length≤1099511627776) (hok:∀ x∈es,eOk x) (he:fitV sh es.length=0) :
  Calls Tryz.prog 29 #[.slice A sh.length c,.slice B es.length d] w fun e w'=>∃ A' c' B' d',e=.returned (.tuple #[.agg #[.slice A' sh.length c',.slice B' es.length d'],.int .i64 0]) ∧
   Kd.R (Kd.int .i64) 3 w' w.heap.size (fun _=>True) (.slice A' sh.length c') sh∧Kd.R M.k27 27 w' w.heap.size (fun _=>True) (.slice B' es.length d') (es.map nE)∧Below w.heap.size w w':=by
 have hu67:=Tryz.underlying30
 have HFIT:=Aside0.mk (fun (W:World) (hb:Below w.heap.size w W)=>by
  obtain⟨k,hk⟩:=fits_ev sh es
  exact M.tensor_fits.calls k A c sh B d es _ W (Kd.C_below hr1 hb) hc1 (Kd.C_below hr2 hb) hc2 (hk k (Nat.le_refl _)))
 have hsl:sh.length≤4:=by
  unfold fitV at he
  split at he
  ·
   rename_i h
   exact(mayS_zero h).1
  ·
   rename_i h
   exact absurd he h
 rw [he] at HFIT
 have HT:=Aside0.mk (fun (W:World) (hb:Below w.heap.size w W)=>turned_n A c sh B d es (.func (.func 85) #[] #[]) nE W (Kd.C_below hr1 hb) (Kd.C_below hr2 hb) (by omega) hlen _ _ _ rfl
  (fun W' v i _ hi hv=>norm_v hv (rd_ok hok i)))
 clear hr1 hr2 hok he
 go_enter Tryz.func29,Tryz.ntmps29
 go_wp2_with fail
 have hx0:=zah (zaw w (.cells #[.slice none 0 0,.slice none 0 0] 30)) (.cells #[.slice A sh.length c,.slice B es.length d] 30)
 have hx1:=zaw (w.alloc (.cells #[.slice none 0 0,.slice none 0 0] 30)) (.cells #[.slice A sh.length c,.slice B es.length d] 30)
 rw [show (w.alloc (.cells #[.slice none 0 0,.slice none 0 0] 30)).heap.size=w.heap.size+1 by simp] at hx1
 have hbw:Below w.heap.size w ((w.alloc (.cells #[.slice none 0 0,.slice none 0 0] 30)).alloc (.cells #[.slice A sh.length c,.slice B es.length d] 30)):=zab (zab (Below.refl _ _) _) _
 generalize (w.alloc (.cells #[.slice none 0 0,.slice none 0 0] 30)).alloc (.cells #[.slice A sh.length c,.slice B es.length d] 30)=W0 at hx0 hx1 hbw ⊢
 refine(HFIT.out W0 hbw).mono ?_
 rintro e W1 ⟨rfl,hB⟩
 have HX:=Aside0.mk (And.intro (zae hx0 hB) (And.intro (zae hx1 hB) (zaa hbw hB)))
 have c0:W1.cell? ⟨w.heap.size+1,0,none⟩=some (.slice A sh.length c):=(zad HX.out.2.1 0).trans rfl
 have c1:W1.cell? ⟨w.heap.size+1,1,none⟩=some (.slice B es.length d):=(zad HX.out.2.1 1).trans rfl
 clear hx0 hx1 hbw hB HFIT
 go_wp2_with fail
 clear c0 c1
 refine(of_t W1 A sh.length c B es.length d).mono ?_
 rintro e W2 ⟨rfl,hB⟩
 have HX2:=Aside0.mk (And.intro (zae HX.out.1 hB) (zaa HX.out.2.2 hB))
 clear hB HX
 go_wp2_with fail
 refine(HT.out W2 HX2.out.2).mono ?_
 rintro e W3 ⟨A',c',B',d',rfl,R1,R2,hB⟩
 have HX3:=Aside0.mk (And.intro (zae HX2.out.1 hB) (zaa HX2.out.2 hB))
 have HS2:=Aside0.mk HX2.out.2.size
 have HZ:=Aside0.mk (zaz HX2.out.1)
 have HR:=Aside0.mk (And.intro R1 R2)
 clear hB HX2 HT R1 R2
 go_wp2_with fail
 refine(back_t W3 A' sh.length c' B' es.length d').mono ?_
 rintro e W4 ⟨rfl,hB⟩
 have HX4:=Aside0.mk (And.intro (zae HX3.out.1 hB) (zaa HX3.out.2 hB))
 have HR4:=Aside0.mk (And.intro (Kd.R_below HR.out.1 hB) (Kd.R_below HR.out.2 hB))
 have z0:W4.cell? ⟨w.heap.size,0,none⟩=some (.slice none 0 0):=(zad HX4.out.1 0).trans rfl
 have z1:W4.cell? ⟨w.heap.size,1,none⟩=some (.slice none 0 0):=(zad HX4.out.1 1).trans rfl
 have y0:=zap HX4.out.1 0
 have y1:=zap HX4.out.1 1
 clear hB HX3 HR
 go_wp2
 have hn1:=zar (cs':=#[.slice A' sh.length c',.slice B' es.length d']) (zar (cs':=#[.slice A' sh.length c',.slice none 0 0]) HX4.out.1 0 (.slice A' sh.length c') rfl) 1 (.slice B' es.length d') rfl
 refine bodyPost_ret (results_ct rfl _ _ w.heap.size 30 _ (0,0) _ rfl hn1 hu67 rfl (by kernel_rfl)) rfl ?_
 have hz:=HZ.out
 exact⟨A',c',B',d',rfl,Kd.R_lower (R_ne (R_ne HR4.out.1 hz _ _) hz _ _) HS2.out,Kd.R_lower (R_ne (R_ne HR4.out.2 hz _ _) hz _ _) HS2.out,zao (zao HX4.out.2 (Nat.le_refl _)) (Nat.le_refl _)⟩
theorem nE_may (es:List M.S27):∀ x∈es.map nE,eV x=0:=fun x hx=>by
 obtain⟨y,_,rfl⟩:=List.mem_map.1 hx
 exact SX_may (red_eN _)
theorem tmay_nE {sh:List Int} {es:List M.S27} (h:fitV sh es.length=0):tmayV sh (es.map nE)=0:=by
 rw [tmayV,List.length_map,if_pos h,if_pos (nE_may es)]
theorem okQ_eN {x:M.S27} (h:eOk x):okQ (eN x):=okQ_nrm h.1 h.2
theorem nE_ok {es:List M.S27} (h:∀ x∈es,eOk x):∀ x∈es.map nE,eOk x:=fun x hx=>by
 obtain⟨y,hy,rfl⟩:=List.mem_map.1 hx
 exact eOk_SX (okQ_eN (h y hy))
section
variable {sh:List Int} {es:List M.S27} {A2 B2 A3 B3:Option Addr} {c2 d2 c3 d3 b1 b2 b3 b4:Nat} {P1 P2 P3 P4:Nat→Prop} {W W3:World}
theorem tis_c (hq:Kd.R (Kd.int .i64) 3 W b1 P1 (.slice A3 sh.length c3) sh∧Kd.R kR 40 W b2 P2 (.slice B3 es.length d3) (es.map (fun x=>SQ (eN x)))) (hr:Kd.R (Kd.int .i64) 3 W3 b3 P3 (.slice A2 sh.length c2) sh∧Kd.R M.k27 27 W3 b4 P4 (.slice B2 es.length d2) (es.map nE)) (hb:Below W3.heap.size W3 W) (hk:∀ x∈es,eOk x) (h1:sh.length≤4611686018427387904) (h2:es.length≤1099511627776) :
  Calls Tryz.prog 21 #[.agg #[.slice A3 sh.length c3,.slice B3 es.length d3],.agg #[.slice A2 sh.length c2,.slice B2 es.length d2]] W fun e w'=>e=.returned (.bool true)∧Below W.heap.size W w':=by
 obtain⟨q1,q2,q3⟩:=Kd.R_reads' hq.1
 obtain⟨q4,q5,q6⟩:=Kd.R_reads' hq.2
 obtain⟨r1,r2,r3⟩:=Kd.R_reads' hr.1
 obtain⟨r4,r5,r6⟩:=Kd.R_reads' hr.2
 have e1:(es.map eN).length=es.length:=by rw [List.length_map]
 have e2:(es.map eN).map SQ=es.map (fun x=>SQ (eN x)):=by rw [List.map_map]; rfl
 have e3:(es.map eN).map SX=es.map nE:=by rw [List.map_map]; rfl
 have h:=tis_n (A:=A3) (c:=c3) (sh:=sh) (B:=B3) (d:=d3) (A':=A2) (c':=c2) (B':=B2) (d':=d2) (xs:=es.map eN) (w:=W) q3 q2 (by rw [e1,e2]; rwa [List.length_map] at q6) (by rw [e1]; exact q5) (Kd.C_below r3 hb) r2 (by rw [e1,e3]; rw [List.length_map] at r6; exact Kd.C_below r6 hb) (by rw [e1]; exact r5) h1 (by rw [e1]; exact h2)
  (fun X hX=>by obtain⟨x,hx,rfl⟩:=List.mem_map.1 hX; exact okQ_eN (hk x hx))
 rwa [e1] at h
theorem tmay_c (hfv:fitV sh es.length=0) (hr:Kd.R (Kd.int .i64) 3 W3 b3 P3 (.slice A2 sh.length c2) sh∧Kd.R M.k27 27 W3 b4 P4 (.slice B2 es.length d2) (es.map nE)) (hb:Below W3.heap.size W3 W) (hk:∀ x∈es,eOk x) (h2:es.length≤1099511627776) :
  Calls Tryz.prog 34 #[.agg #[.slice A2 sh.length c2,.slice B2 es.length d2]] W fun e w'=>e=.returned (.int .i64 0)∧Below W.heap.size W w':=by
 obtain⟨r1,r2,r3⟩:=Kd.R_reads' hr.1
 obtain⟨r4,r5,r6⟩:=Kd.R_reads' hr.2
 have h:=tmay_n A2 c2 sh B2 d2 (es.map nE) W (Kd.C_below r3 hb) r2 (Kd.C_below r6 hb) (by rw [List.length_map]; exact r5) (by rw [List.length_map]; omega) (nE_ok hk)
 rw [tmay_nE hfv,List.length_map] at h
 exact h
end
end Go.Proofs.YtehghijlchpeaaaGreat.Nat1
end
section
namespace Go.Proofs.YtehghijlchpeaaaGreat.Nat1
open Go.RowKit YtehghijlchpeaaaGreatW.PrintWords YtehghijlchpeaaaGreatW.PrintLast YtehghijlchpeaaaGreatW.PrintMore L Nt Ev
def iR (x:Int):SR:=⟨decide (x < 0),dg 10000 x.natAbs,dg 10000 1⟩
structure OW (w:World) (S:Value) (l:List Int) (i:Nat) (W:World):Prop where
 v:∃ (E:Option Addr) (cE:Nat),W.heap[w.heap.size+1]? = some (.cells #[S,.slice E (l.take i).length cE] 44 (0,0))∧Kd.R kR 40 W w.heap.size (fun k=>w.heap.size+1 < k) (.slice E (l.take i).length cE) ((l.take i).map iR)
 bz:W.heap[w.heap.size]? = some (.cells #[.slice none 0 0,.slice none 0 0] 30 (0,0))
 be:Below w.heap.size w W
theorem take_succ_i {l:List Int} {i:Nat} (h:i < l.length):l.take (i+1)=l.take i++[rd l (i:Int)]:=by
 rw [List.take_succ_eq_append_getElem h]
 congr 1
 simp [rd,List.getD_eq_getElem?_getD,List.getElem?_eq_getElem h]
theorem rd_mem_i {l:List Int} {i:Nat} (h:i < l.length):rd l (i:Int)∈l:=by
 unfold rd
 rw [Int.toNat_natCast,List.getD_eq_getElem?_getD,List.getElem?_eq_getElem h]
 exact List.getElem_mem h
theorem twhole_n (g:SR→M.S27) (A:Option Addr) (c:Nat) (sh:List Int) (B:Option Addr) (d:Nat) (l:List Int) (w:World) (hr1:Kd.C (Kd.int .i64) w A sh.length sh) (hc1:sh.length≤c) (hr2:Kd.C (Kd.int .i64) w B l.length l) (hc2:l.length≤d) (hl1:sh.length≤1099511627776) (hlen:l.length≤1099511627776) (hb:∀ x∈l,-9223372036854775808≤x∧x < 9223372036854775808) (hg:∀ x∈l.map iR,∃ k,M.fluxionref03_Back.f k x.f0 x.f1 x.f2=some ((g x).f0,(g x).f1,(g x).f2)) :
  Calls Tryz.prog 79 #[.slice A sh.length c,.slice B l.length d] w fun e w'=>∃ A' c' B' d',e=.returned (.agg #[.slice A' sh.length c',.slice B' l.length d']) ∧
   Kd.R (Kd.int .i64) 3 w' w.heap.size (fun _=>True) (.slice A' sh.length c') sh∧Kd.R M.k27 27 w' w.heap.size (fun _=>True) (.slice B' l.length d') (l.map (fun x=>g (iR x)))∧Below w.heap.size w w':=by
 have hu67:=Tryz.underlying30
 have huT:=Tryz.underlying44
 have huR:=Tryz.underlying40
 have HRC:=Aside0.mk (fun (W:World) (hb:Below w.heap.size w W)=>Kd.C_below hr1 hb)
 have HR2:=Aside0.mk hr2
 have HBD:=Aside0.mk hb
 have HG:=Aside0.mk hg
 clear hr1 hr2 hb hg
 go_enter Tryz.func79,Tryz.ntmps79
 go_wp2_with fail
 have hx0:=zah (zaw w (.cells #[.slice none 0 0,.slice none 0 0] 30)) (.cells #[.slice A sh.length c,.slice none 0 0] 44)
 have hx1:=zaw (w.alloc (.cells #[.slice none 0 0,.slice none 0 0] 30)) (.cells #[.slice A sh.length c,.slice none 0 0] 44)
 rw [show (w.alloc (.cells #[.slice none 0 0,.slice none 0 0] 30)).heap.size=w.heap.size+1 by simp] at hx1
 have hbw:Below w.heap.size w ((w.alloc (.cells #[.slice none 0 0,.slice none 0 0] 30)).alloc (.cells #[.slice A sh.length c,.slice none 0 0] 44)):=zab (zab (Below.refl _ _) _) _
 have HI0:=Aside0.mk (show OW w (.slice A sh.length c) l 0 ((w.alloc (.cells #[.slice none 0 0,.slice none 0 0] 30)).alloc (.cells #[.slice A sh.length c,.slice none 0 0] 44)) from ⟨⟨none,0,hx1,Kd.R_nil _ _ _ _ _⟩,hx0,hbw⟩)
 generalize ((w.alloc (.cells #[.slice none 0 0,.slice none 0 0] 30)).alloc (.cells #[.slice A sh.length c,.slice none 0 0] 44))=W2 at HI0 ⊢
 clear hx0 hx1 hbw
 go_loopw [6] (fun iv wr=>∃ i:Nat,iv=.int .i64 i∧i≤l.length∧Aside0 (OW w (.slice A sh.length c) l i wr)) (fun iv _=>l.length-(intOf iv).toNat)
 case atStart=>exact⟨0,rfl,by omega,HI0⟩
 case round =>
  obtain⟨i,rfl,hi,HI⟩:=hrel
  obtain⟨E,cE,hv1,hv2⟩:=HI.out.v
  by_cases hlt:i < l.length
  ·
   obtain⟨ad,e,q0⟩:=Kd.at_int HR2.out (i:Int) (by omega) (by omega)
   subst e
   rw [Int.toNat_natCast] at q0
   have hbd:=HBD.out _ (rd_mem_i hlt)
   have HCI:=Aside0.mk (fun (W:World)=>ref_int_n (x:=rd l (i:Int)) W hbd.1 hbd.2)
   have HV2:=Aside0.mk hv2
   obtain⟨n,hn⟩:∃ n,n=(l.take i).length:=⟨_,rfl⟩
   have HN:=Aside0.mk hn
   rw [← hn] at hv1
   clear hv2 hn hbd
   have HS:Aside0 (∀ w':World,Below w.heap.size w w'→w'.heap[w.heap.size+1]? = some (.cells #[.slice A sh.length c,.slice E n cE] 44 (0,0))→(w'.cell? ⟨w.heap.size+1,1,none⟩=some (.slice E n cE)∧w'.cell? (ad.add i)=some (.int .i64 (rd l (i:Int))))):=⟨fun w' h h1=>⟨(zad h1 1).trans rfl,(h.cell (World.block_lt_of_cell? w _ q0)).trans q0⟩⟩
   clear q0
   obtain⟨s1,s2⟩:=(HS.out wr HI.out.be hv1)
   go_wp2_with fail
   clear s1 s2
   refine zbg (n:=11) (S:=fun w'=>(w'.cell? ⟨w.heap.size+1,1,none⟩=some (.slice E n cE)∧w'.cell? (ad.add i)=some (.int .i64 (rd l (i:Int))))) (ds:=[10]) #[zf,zf,zf,zf,zf,zf,zf,zf,zf,zf,zf] (by kernel_rfl) rfl rfl ((HS.out _ (zaa HI.out.be (zag (Below.refl _ _))) (zai hv1))) (fun hHeld=>?_)
   have hb0:=Aside0.mk (show Below wr.heap.size wr wr.drew from zag (Below.refl _ _))
   generalize wr.drew=V0 at hb0 hHeld ⊢
   refine qp 0 (some 15) ?_
   refine qp 2 (some 17) ?_
   refine qp 3 (some 18) ?_
   refine qp 4 (some 19) ?_
   refine qt 1 (some 16) ?_
   refine qt 5 (some 20) ?_
   refine qo 6 (some 21) (fun K hK=>?_)
   refine qg Tryz.func81 #[.int .i64 (rd l (i:Int))] ?_
   refine(HCI.out V0).mono ?_
   rintro e V1 ⟨v,rfl,⟨u1,u2,rfl,R1,R2⟩,hB⟩
   refine⟨_,rfl,?_⟩
   obtain⟨F1,f1,rfl⟩:=Kd.R_slice R1
   obtain⟨F2,f2,rfl⟩:=Kd.R_slice R2
   have HP:=Aside0.mk (kR_mkM V1 w.heap.size (fun k=>V0.heap.size≤k) (iR (rd l (i:Int))) (Kd.R_mono (Kd.R_lower (Kd.R_bound R1) (zaa HI.out.be hb0.out).size) (fun k hk=>hk.2.1)) (Kd.R_mono (Kd.R_lower (Kd.R_bound R2) (zaa HI.out.be hb0.out).size) (fun k hk=>hk.2.1)))
   have hb1:=Aside0.mk (zaa hb0.out hB)
   clear hB R1 R2
   refine hK.out _ _ ((HS.out _ (zaa HI.out.be hb1.out) (zae hv1 hb1.out))) (fun hHeld=>?_)
   clear hK K
   refine qn ?_
   refine qo 7 (some 22) (fun K hK=>?_)
   refine qv ?_
   refine hK.out _ _ ((HS.out _ (zab (zaa HI.out.be hb1.out) _) (zah (zae hv1 hb1.out) _))) (fun hHeld=>?_)
   clear hK K
   refine qn ?_
   refine qo 8 (some 23) (fun K hK=>?_)
   have hO:=Kd.R_below HV2.out hb1.out
   rw [← HN.out] at hO
   refine Kd.R_append_step kR (w0:=w) (W:=V1) w.heap.size (by rfl) (.tmp 16) (.tmp 22) 42 40 (.agg #[.bool false,.slice none 0 0,.slice none 0 0]) 56 rfl Tryz.underlying42 infoR rfl (by decide) (by decide) (.slice E n cE) ((l.take i).map iR) (iR (rd l (i:Int))) [.bool (iR (rd l (i:Int))).f0,.slice F1 (iR (rd l (i:Int))).f1.length f1,.slice F2 (iR (rd l (i:Int))).f2.length f2] (fun k=>w.heap.size+1 < k) (fun k=>V0.heap.size≤k) rfl rfl HP.out (fun k hk=>⟨by have:=zaz (zae hv1 hb0.out); omega,fun e=>by have:=Kd.R_lt (Kd.R_below HV2.out hb0.out) k (by rw [← HN.out]; exact e.symm); omega⟩) (fun k hk=>by have:=zaz (zae hv1 hb1.out); omega) hO (zaa HI.out.be hb1.out) (zaa HI.out.be hb1.out).size (by rw [List.length_map,List.length_take]; omega) ?_
   intro v1 V2 hR hB hG hat
   have hne:∀ b o,wr.heap[b]? = some o→b≤w.heap.size+1→V2.heap[b]? = some o:=fun b o hbo hle=>blk_grown (zae hbo hb1.out) hG (fun e=>by have:=HV2.out.1 b (by rw [← HN.out]; exact e.symm); omega)
   obtain⟨E2,e2,rfl⟩:=Kd.R_slice hR
   have HQ:=Aside0.mk (And.intro hR (And.intro hB (And.intro (hne _ _ HI.out.bz (by omega)) (hne _ _ hv1 (Nat.le_refl _)))))
   clear hR hB hG hat hne hO
   refine hK.out _ _ ((HS.out _ HQ.out.2.1 HQ.out.2.2.2)) (fun hHeld=>?_)
   clear hK K
   refine qn ?_
   refine qp 9 (some 24) ?_
   refine ql 10 none (fun K hK=>?_)
   have hf3:=zap HQ.out.2.2.2 1
   have hc3:V2.cell? ⟨w.heap.size+1,1,none⟩=some (.slice E n cE):=(zad HQ.out.2.2.2 1).trans rfl
   refine qx ?_
   refine hK.out _ _ ?_
   clear hK K
   refine done_ (by kernel_rfl) ?_
   clear hHeld hf3 hc3
   go_wp2
   go_roundw
   case rel =>
    have he:(l.take (i+1)).map iR=(l.take i).map iR++[iR (rd l (i:Int))]:=by rw [take_succ_i hlt,List.map_append]; rfl
    have hln:(l.take (i+1)).length=((l.take i).map iR++[iR (rd l (i:Int))]).length:=by rw [← he,List.length_map]
    refine⟨i+1,by go_num,by omega,⟨⟨⟨E2,e2,?_,?_⟩,zax HQ.out.2.2.1 (by show w.heap.size≠w.heap.size+1; omega) _,zao HQ.out.2.1 (by show w.heap.size≤w.heap.size+1; omega)⟩⟩⟩
    ·
     have hl:(l.take (i+1)).length=i+1:=by rw [List.length_take]; omega
     rw [hl]
     exact zar (cs:=#[.slice A sh.length c,.slice E n cE]) HQ.out.2.2.2 1 _ rfl
    ·
     rw [hln,he]
     exact Kd.R_far (p:=⟨w.heap.size+1,1,none⟩) HQ.out.1 (fun k hk=>Nat.ne_of_gt hk) _
   case measure=>simp [intOf]; omega
  ·
   have hie:l.take i=l:=List.take_of_length_le (by omega)
   rw [hie] at hv1 hv2
   have o0:wr.cell? ⟨w.heap.size+1,0,none⟩=some (.slice A sh.length c):=(zad hv1 0).trans rfl
   have o1:wr.cell? ⟨w.heap.size+1,1,none⟩=some (.slice E l.length cE):=(zad hv1 1).trans rfl
   have hB2:=tback_n g A c sh E cE (l.map iR) wr (HRC.out _ HI.out.be) hc1 (by have:=(Kd.R_reads' hv2).2.2; exact this) (by rw [List.length_map]; exact(Kd.R_reads' hv2).2.1) hl1 (by rw [List.length_map]; exact hlen) HG.out
   rw [List.length_map] at hB2
   have HB2:=Aside0.mk hB2
   clear hv1 hv2 hie hB2
   go_wp2_with fail
   clear o0 o1
   refine HB2.out.mono ?_
   rintro e W3 ⟨A',c',B',d',rfl,R1,R2,hB⟩
   have hz:=zae HI.out.bz hB
   have z0:W3.cell? ⟨w.heap.size,0,none⟩=some (.slice none 0 0):=(zad hz 0).trans rfl
   have z1:W3.cell? ⟨w.heap.size,1,none⟩=some (.slice none 0 0):=(zad hz 1).trans rfl
   have y0:=zap hz 0
   have y1:=zap hz 1
   have HE:=Aside0.mk (And.intro R1 (And.intro R2 (And.intro hz (zaa HI.out.be hB))))
   have HSZ:=Aside0.mk HI.out.be.size
   have HLW:=Aside0.mk (zaz HI.out.bz)
   clear R1 R2 hz hB HB2
   go_wp2
   have hn1:=zar (cs':=#[.slice A' sh.length c',.slice B' l.length d']) (zar (cs':=#[.slice A' sh.length c',.slice none 0 0]) HE.out.2.2.1 0 (.slice A' sh.length c') rfl) 1 (.slice B' l.length d') rfl
   refine bodyPost_ret (results_cell_row rfl _ _ w.heap.size 30 _ (0,0) _ rfl hn1 hu67 rfl (by kernel_rfl)) rfl ?_
   have hlw:=HLW.out
   have h1:Kd.R (Kd.int .i64) 3 W3 w.heap.size (fun k=>k≠w.heap.size) (.slice A' sh.length c') sh:=Kd.R_mono (Kd.R_lower (Kd.R_bound HE.out.1) HSZ.out) (fun k hk=>by have:=hk.2.1; omega)
   have h2:Kd.R M.k27 27 W3 w.heap.size (fun k=>k≠w.heap.size) (.slice B' l.length d') ((l.map iR).map g):=Kd.R_mono (Kd.R_lower (Kd.R_bound HE.out.2.1) HSZ.out) (fun k hk=>by have:=hk.2.1; omega)
   rw [List.map_map] at h2
   exact⟨A',c',B',d',rfl,Kd.R_mono (Kd.R_far (p:=⟨w.heap.size,1,none⟩) (Kd.R_far (p:=⟨w.heap.size,0,none⟩) h1 (fun k hk=>hk) _) (fun k hk=>hk) _) (fun _ _=>trivial),
    Kd.R_mono (Kd.R_far (p:=⟨w.heap.size,1,none⟩) (Kd.R_far (p:=⟨w.heap.size,0,none⟩) h2 (fun k hk=>hk) _) (fun k hk=>hk) _) (fun _ _=>trivial),
    zao (zao HE.out.2.2.2 (Nat.le_refl _)) (Nat.le_refl _)⟩
end Go.Proofs.YtehghijlchpeaaaGreat.Nat1
end
section
namespace Go.Proofs.YtehghijlchpeaaaGreat.Nat1
open Go.RowKit YtehghijlchpeaaaGreatW.PrintWords YtehghijlchpeaaaGreatW.PrintLast YtehghijlchpeaaaGreatW.PrintMore L Nt Ev
def lS (x:Int):M.S27:=⟨false,[x],[1]⟩
def es4:List M.S27:=[lS 1,lS 2,lS 3,lS 4]
def gk (x:SR):M.S27:=⟨x.f0,x.f1,x.f2⟩
theorem dgk {n:Nat} (h0:0 < n) (h:n < 10000):dg 10000 n=[(n:Int)]:=by
 rw [dg_pos (by decide) h0,Nat.mod_eq_of_lt h,Nat.div_eq_of_lt h,zaG]
theorem iR_lit {x:Nat} (h0:0 < x) (h:x < 10000):iR (x:Int)=⟨false,[(x:Int)],[1]⟩:=by
 unfold iR
 rw [decide_eq_false (by omega),Int.natAbs_natCast,dgk h0 h,dgk (by decide) (by decide)]
 rfl
theorem es4_map:([1,2,3,4]:List Int).map (fun x=>gk (iR x))=es4:=by
 simp only [List.map_cons,List.map_nil]
 rw [show iR 1=_ from iR_lit (x:=1) (by decide) (by decide),show iR 2=_ from iR_lit (x:=2) (by decide) (by decide),show iR 3=_ from iR_lit (x:=3) (by decide) (by decide),show iR 4=_ from iR_lit (x:=4) (by decide) (by decide)]
 rfl
theorem back4:∀ x∈([1,2,3,4]:List Int).map iR,∃ k,M.fluxionref03_Back.f k x.f0 x.f1 x.f2=some ((gk x).f0,(gk x).f1,(gk x).f2):=by
 simp only [List.map_cons,List.map_nil]
 rw [show iR 1=_ from iR_lit (x:=1) (by decide) (by decide),show iR 2=_ from iR_lit (x:=2) (by decide) (by decide),show iR 3=_ from iR_lit (x:=3) (by decide) (by decide),show iR 4=_ from iR_lit (x:=4) (by decide) (by decide)]
 intro x hx
 simp only [List.mem_cons,List.not_mem_nil,or_false] at hx
 rcases hx with rfl | rfl | rfl | rfl
 ·
  exact⟨10,by kernel_rfl⟩
 ·
  exact⟨10,by kernel_rfl⟩
 ·
  exact⟨10,by kernel_rfl⟩
 ·
  exact⟨10,by kernel_rfl⟩
theorem es4_all {P:M.S27→Prop} (h:∀ x:Nat,0 < x→x < 5→P (lS x)):∀ x∈es4,P x:=by
 intro x hx
 simp only [es4,List.mem_cons,List.not_mem_nil,or_false] at hx
 rcases hx with rfl | rfl | rfl | rfl
 ·
  exact h 1 (by decide) (by decide)
 ·
  exact h 2 (by decide) (by decide)
 ·
  exact h 3 (by decide) (by decide)
 ·
  exact h 4 (by decide) (by decide)
theorem okS_one {x:Nat} (h:x < 5):okS [(x:Int)]:=⟨fun y hy=>by rw [List.mem_singleton.1 hy]; unfold B32; omega,by simp⟩
theorem es4_ok:∀ x∈es4,eOk x∧x.f1.length≤1∧x.f2.length≤1:=es4_all (fun x h0 h=>⟨⟨okS_one h,okS_one (x:=1) (by decide)⟩,Nat.le_refl _,Nat.le_refl _⟩)
theorem val_lit (x:Nat):val B32 [(x:Int)]=x:=by simp [val]
theorem val_1:val B32 [1]=1:=by decide
theorem nrm_one (x:Nat):nrm false x 1=(false,x,1)∨x=0:=by
 rcases Nat.eq_zero_or_pos x with h | h
 ·
  exact Or.inr h
 ·
  left
  unfold nrm
  rw [if_neg (by omega),Nat.gcd_one_right,Nat.div_one]
theorem eN_lS {x:Nat} (h0:0 < x):eN (lS x)=(false,x,1):=by
 unfold eN lS
 simp only [val_lit,val_1]
 rcases nrm_one x with h | h
 ·
  exact h
 ·
  omega
theorem tmay4:tmayV [2,2] es4=0:=by
 have h:fitV [2,2] es4.length=0:=by decide
 unfold tmayV
 rw [if_pos h,if_pos]
 refine es4_all (fun x h0 h=>?_)
 unfold eV mayV lS
 simp only [val_lit,val_1]
 rw [show nrm false x 1=(false,x,1) from (nrm_one x).resolve_right (by omega),if_pos]
 refine⟨rfl,?_,?_⟩
 ·
  show [(x:Int)]=dg B32 x
  rw [dg_lit h0 (by unfold B32; omega)]
 ·
  show [(1:Int)]=dg B32 1
  rw [dg_lit (by decide) (by decide)]
  rfl
theorem bits_4:bitsL 0 es4=3:=by decide
theorem dot_4:dotP es4 es4 es4.length=(false,30,1):=by decide
theorem C_lits {W:World} {b t:Nat} {l:List Int} (h:W.heap[b]? = some (.cells (l.map (Value.int .i64)).toArray t (0,0))) (hl:l.length≤9223372036854775807):Kd.C (Kd.int .i64) W (some ⟨b,0,none⟩) l.length l :=
 ⟨rfl,hl,fun _=>⟨_,rfl,fun j p hp=>⟨[.int .i64 p],rfl,rfl,fun i u hu=>by
  rcases i with _ | i
  ·
   have hu:Value.int .i64 p=u:=Option.some.inj hu
   subst hu
   have hj:=zad h j
   have e:(⟨b,0,none⟩:Addr).add (j*1+0)=⟨b,j,none⟩:=by simp [Addr.add]; intro h; omega
   show W.cell? ((⟨b,0,none⟩:Addr).add (j*1+0))=_
   rw [e,hj]
   simp [hp]
  ·
   simp at hu⟩⟩⟩
theorem C_rat3 {W:World} {b t:Nat} {x y z:M.S27} {a1 a2 a3 b1 b2 b3 c1 c2 c3:Value} (h:W.heap[b]? = some (.cells #[a1,a2,a3,b1,b2,b3,c1,c2,c3] t (0,0))) (h1:M.k27.K W x [a1,a2,a3]) (h2:M.k27.K W y [b1,b2,b3]) (h3:M.k27.K W z [c1,c2,c3]):Kd.C M.k27 W (some ⟨b,0,none⟩) 3 [x,y,z]:=by
 have key:∀ (j i:Nat) (u:Value),(#[a1,a2,a3,b1,b2,b3,c1,c2,c3]:Array Value)[j*3+i]? = some u→W.cell? ((⟨b,0,none⟩:Addr).add (j*3+i))=some u:=by
  intro j i u hu
  have:=zad h (j*3+i)
  have e:(⟨b,0,none⟩:Addr).add (j*3+i)=⟨b,j*3+i,none⟩:=by simp [Addr.add]; intro h; omega
  rw [e]
  exact this.trans hu
 refine⟨rfl,by decide,fun _=>⟨_,rfl,fun j p hp=>?_⟩⟩
 rcases j with _ | _ | _ | j
 ·
  cases hp
  exact⟨_,rfl,h1,fun i u hu=>key 0 i u (by rcases i with _ | _ | _ | i<;>simp_all)⟩
 ·
  cases hp
  exact⟨_,rfl,h2,fun i u hu=>key 1 i u (by rcases i with _ | _ | _ | i<;>simp_all)⟩
 ·
  cases hp
  exact⟨_,rfl,h3,fun i u hu=>key 2 i u (by rcases i with _ | _ | _ | i<;>simp_all)⟩
 ·
  simp at hp
structure KT (w:World) (gt:Nat) (A:Option Addr) (c:Nat) (B:Option Addr) (d:Nat) (W:World):Prop where
 t:W.heap[gt]? = some (.cells #[.slice A 2 c,.slice B 4 d] 30 (0,0))
 s:Kd.C (Kd.int .i64) W A 2 [2,2]
 sc:2≤c
 e:Kd.C M.k27 W B 4 es4
 ec:4≤d
 be:Below w.heap.size w W
theorem KT.below {w W W':World} {gt:Nat} {A:Option Addr} {c:Nat} {B:Option Addr} {d:Nat} (h:KT w gt A c B d W) (hb:Below W.heap.size W W'):KT w gt A c B d W' :=
 ⟨zae h.t hb,Kd.C_below h.s hb,h.sc,Kd.C_below h.e hb,h.ec,zaa h.be hb⟩
def XB (w:World) (g:Nat) (X:QN) (A1:Option Addr) (c1:Nat) (A2:Option Addr) (c2:Nat) (W:World):Prop :=
 W.heap[g]? = some (.cells #[.bool X.1,.slice A1 (dg B32 X.2.1).length c1,.slice A2 (dg B32 X.2.2).length c2] 27 (0,0))∧RT W w.heap.size (.agg #[.bool X.1,.slice A1 (dg B32 X.2.1).length c1,.slice A2 (dg B32 X.2.2).length c2]) X
theorem XB.below {w W W':World} {g:Nat} {X:QN} {A1:Option Addr} {c1:Nat} {A2:Option Addr} {c2:Nat} (h:XB w g X A1 c1 A2 c2 W) (hb:Below W.heap.size W W'):XB w g X A1 c1 A2 c2 W':=⟨zae h.1 hb,h.2.below hb⟩
theorem tknown_n (w:World):Calls Tryz.prog 26 #[] w fun e w'=>e=.returned (.bool true)∧Below w.heap.size w w':=by
 have hu67:=Tryz.underlying30
 have hu25:=Tryz.underlying27
 obtain⟨X,hX⟩:∃ X:QN,X=(false,3,1):=⟨_,rfl⟩
 obtain⟨Y,hY⟩:∃ Y:QN,Y=(false,30,1):=⟨_,rfl⟩
 have KX:=Aside0.mk (show red X∧okQ X from by rw [hX]; exact⟨⟨by decide,by decide,by decide⟩,okQ_small (by decide) (by decide)⟩)
 have KY:=Aside0.mk (show red Y∧okQ Y from by rw [hY]; exact⟨⟨by decide,by decide,by decide⟩,okQ_small (by decide) (by decide)⟩)
 have EX:=Aside0.mk hX
 have EY:=Aside0.mk hY
 clear hX hY
 go_enter Tryz.func26,Tryz.ntmps26
 go_wp2_with fail
 have hbw:Below w.heap.size w ((w.alloc (.cells #[.int .i64 2,.int .i64 2] 3)).alloc (.cells #[.int .i64 1,.int .i64 2,.int .i64 3,.int .i64 4] 3)):=zab (zab (Below.refl _ _) _) _
 have hC1:=C_lits (l:=[2,2]) (zah (zaw w (.cells #[.int .i64 2,.int .i64 2] 3)) (.cells #[.int .i64 1,.int .i64 2,.int .i64 3,.int .i64 4] 3)) (by decide)
 have hC2:=C_lits (l:=[1,2,3,4]) (zaw (w.alloc (.cells #[.int .i64 2,.int .i64 2] 3)) (.cells #[.int .i64 1,.int .i64 2,.int .i64 3,.int .i64 4] 3)) (by decide)
 rw [show (w.alloc (.cells #[.int .i64 2,.int .i64 2] 3)).heap.size=w.heap.size+1 by simp] at hC2
 generalize ((w.alloc (.cells #[.int .i64 2,.int .i64 2] 3)).alloc (.cells #[.int .i64 1,.int .i64 2,.int .i64 3,.int .i64 4] 3))=W1 at hbw hC1 hC2 ⊢
 refine(twhole_n gk (some ⟨w.heap.size,0,none⟩) 2 [2,2] (some ⟨w.heap.size+1,0,none⟩) 4 [1,2,3,4] W1 hC1 (by decide) hC2 (by decide) (by decide) (by decide) (by decide) back4).mono ?_
 rintro e W2 ⟨A,c,B,d,he,R1,R2,hB⟩
 have he:e=.returned (.agg #[.slice A 2 c,.slice B 4 d]):=he
 subst he
 rw [es4_map] at R2
 have hA:=zab (Below.refl W2.heap.size W2) (.cells #[.slice A 2 c,.slice B 4 d] 30)
 have HT:=Aside0.mk (show KT w W2.heap.size A c B d (W2.alloc (.cells #[.slice A 2 c,.slice B 4 d] 30)) from ⟨zaw W2 _,Kd.C_below (Kd.R_reads' R1).2.2 hA,(Kd.R_reads' R1).2.1,Kd.C_below (Kd.R_reads' R2).2.2 hA,(Kd.R_reads' R2).2.1,zab (zaa hbw hB) _⟩)
 have c0:(W2.alloc (.cells #[.slice A 2 c,.slice B 4 d] 30)).cell? ⟨W2.heap.size,0,none⟩=some (.slice A 2 c):=(zad HT.out.t 0).trans rfl
 have c1:(W2.alloc (.cells #[.slice A 2 c,.slice B 4 d] 30)).cell? ⟨W2.heap.size,1,none⟩=some (.slice B 4 d):=(zad HT.out.t 1).trans rfl
 clear hA R1 R2 hB hbw hC1 hC2
 go_wp2_with fail
 clear c0 c1
 have hC1:=C_lits (l:=[1,0]) (zaw (W2.alloc (.cells #[.slice A 2 c,.slice B 4 d] 30)) (.cells #[.int .i64 1,.int .i64 0] 3)) (by decide)
 rw [show (W2.alloc (.cells #[.slice A 2 c,.slice B 4 d] 30)).heap.size=W2.heap.size+1 by simp] at hC1
 have hA:=zab (Below.refl (W2.alloc (.cells #[.slice A 2 c,.slice B 4 d] 30)).heap.size (W2.alloc (.cells #[.slice A 2 c,.slice B 4 d] 30))) (.cells #[.int .i64 1,.int .i64 0] 3)
 replace HT:=Aside0.mk (HT.out.below hA)
 clear hA
 generalize ((W2.alloc (.cells #[.slice A 2 c,.slice B 4 d] 30)).alloc (.cells #[.int .i64 1,.int .i64 0] 3))=W3 at HT hC1 ⊢
 generalize W2.heap.size=gt at HT hC1 ⊢
 have hat:=at_n (sh:=[2,2]) (es:=es4) (ci:=2) (idx:=[1,0]) (k:=10) (o:=2) HT.out.s HT.out.sc HT.out.e HT.out.ec (by decide) (fun x hx=>(es4_ok x hx).1) hC1 (by decide) tmay4 (by kernel_rfl) (by decide)
 rw [show eN (M.rd_T27 es4 ((2:Nat):Int))=X from (eN_lS (x:=3) (by decide)).trans EX.out.symm] at hat
 refine hat.mono ?_
 clear hat hC1
 rintro e W4 ⟨A1,c1,A2,c2,rfl,hR,hB⟩
 have hA:=zab (Below.refl W4.heap.size W4) (.cells #[.bool X.1,.slice A1 (dg B32 X.2.1).length c1,.slice A2 (dg B32 X.2.2).length c2] 27)
 have HX:=Aside0.mk (show XB w W4.heap.size X A1 c1 A2 c2 (W4.alloc (.cells #[.bool X.1,.slice A1 (dg B32 X.2.1).length c1,.slice A2 (dg B32 X.2.2).length c2] 27)) from ⟨zaw W4 _,(hR.lower HT.out.be.size).below hA⟩)
 replace HT:=Aside0.mk (HT.out.below (zaa hB hA))
 have d0:(W4.alloc (.cells #[.bool X.1,.slice A1 (dg B32 X.2.1).length c1,.slice A2 (dg B32 X.2.2).length c2] 27)).cell? ⟨gt,0,none⟩=some (.slice A 2 c):=(zad HT.out.t 0).trans rfl
 have d1:(W4.alloc (.cells #[.bool X.1,.slice A1 (dg B32 X.2.1).length c1,.slice A2 (dg B32 X.2.2).length c2] 27)).cell? ⟨gt,1,none⟩=some (.slice B 4 d):=(zad HT.out.t 1).trans rfl
 clear hA hR hB
 go_wp2_with fail
 clear d0 d1
 generalize W4.alloc (.cells #[.bool X.1,.slice A1 (dg B32 X.2.1).length c1,.slice A2 (dg B32 X.2.2).length c2] 27)=W5 at HX HT ⊢
 generalize W4.heap.size=gx at HX ⊢
 have hdot:=dot_n A c [2,2] B d es4 A c B d es4 1 W5 HT.out.s HT.out.sc HT.out.e HT.out.ec HT.out.s HT.out.sc HT.out.e HT.out.ec (by decide) rfl (by decide) (by decide) es4_ok es4_ok tmay4 tmay4 (by decide)
 rw [show dotP es4 es4 es4.length=Y from dot_4.trans EY.out.symm] at hdot
 refine hdot.mono ?_
 clear hdot
 rintro e W6 ⟨B1,b1,B2,b2,rfl,hR,hB⟩
 have hA:=zab (Below.refl W6.heap.size W6) (.cells #[.bool Y.1,.slice B1 (dg B32 Y.2.1).length b1,.slice B2 (dg B32 Y.2.2).length b2] 27)
 have HY:=Aside0.mk (show XB w W6.heap.size Y B1 b1 B2 b2 (W6.alloc (.cells #[.bool Y.1,.slice B1 (dg B32 Y.2.1).length b1,.slice B2 (dg B32 Y.2.2).length b2] 27)) from ⟨zaw W6 _,(hR.lower HT.out.be.size).below hA⟩)
 replace HX:=Aside0.mk (HX.out.below (zaa hB hA))
 replace HT:=Aside0.mk (HT.out.below (zaa hB hA))
 clear hA hR hB
 go_wp2_with fail
 have hC1:=C_lits (l:=[2,2]) (zaw (W6.alloc (.cells #[.bool Y.1,.slice B1 (dg B32 Y.2.1).length b1,.slice B2 (dg B32 Y.2.2).length b2] 27)) (.cells #[.int .i64 2,.int .i64 2] 3)) (by decide)
 rw [show (W6.alloc (.cells #[.bool Y.1,.slice B1 (dg B32 Y.2.1).length b1,.slice B2 (dg B32 Y.2.2).length b2] 27)).heap.size=W6.heap.size+1 by simp] at hC1
 have hA:=zab (Below.refl (W6.alloc (.cells #[.bool Y.1,.slice B1 (dg B32 Y.2.1).length b1,.slice B2 (dg B32 Y.2.2).length b2] 27)).heap.size (W6.alloc (.cells #[.bool Y.1,.slice B1 (dg B32 Y.2.1).length b1,.slice B2 (dg B32 Y.2.2).length b2] 27))) (.cells #[.int .i64 2,.int .i64 2] 3)
 replace HT:=Aside0.mk (HT.out.below hA)
 replace HX:=Aside0.mk (HX.out.below hA)
 replace HY:=Aside0.mk (HY.out.below hA)
 clear hA
 generalize ((W6.alloc (.cells #[.bool Y.1,.slice B1 (dg B32 Y.2.1).length b1,.slice B2 (dg B32 Y.2.2).length b2] 27)).alloc (.cells #[.int .i64 2,.int .i64 2] 3))=W7 at HT HX HY hC1 ⊢
 generalize W6.heap.size=gd at HY hC1 ⊢
 have HC:=Aside0.mk hC1
 clear hC1
 refine(int_n W7 (by decide) (by decide)).mono ?_
 rintro e W8 ⟨v,rfl,hR,hB⟩
 rw [show ((decide ((1:Int) < 0),(1:Int).natAbs,1):QN)=(false,1,1) from rfl] at hR
 obtain⟨P1,p1,Q1,q1,hv,-,-⟩:=hR.args
 have hv:v=.agg #[.bool false,.slice P1 (dg B32 1).length p1,.slice Q1 (dg B32 1).length q1]:=hv
 subst hv
 have hb:=Aside0.mk hB
 have HR1:=Aside0.mk hR
 replace HT:=Aside0.mk (HT.out.below hB)
 replace HX:=Aside0.mk (HX.out.below hB)
 replace HY:=Aside0.mk (HY.out.below hB)
 replace HC:=Aside0.mk (Kd.C_below HC.out hB)
 clear hb hB hR
 go_wp2_with fail
 refine(int_n W8 (by decide) (by decide)).mono ?_
 rintro e W9 ⟨v,rfl,hR,hB⟩
 rw [show ((decide ((2:Int) < 0),(2:Int).natAbs,1):QN)=(false,2,1) from rfl] at hR
 obtain⟨P2,p2,Q2,q2,hv,-,-⟩:=hR.args
 have hv:v=.agg #[.bool false,.slice P2 (dg B32 2).length p2,.slice Q2 (dg B32 1).length q2]:=hv
 subst hv
 have hb:=Aside0.mk hB
 replace HR1:=Aside0.mk (HR1.out.below hB)
 have HR2:=Aside0.mk hR
 replace HT:=Aside0.mk (HT.out.below hB)
 replace HX:=Aside0.mk (HX.out.below hB)
 replace HY:=Aside0.mk (HY.out.below hB)
 replace HC:=Aside0.mk (Kd.C_below HC.out hB)
 clear hb hB hR
 go_wp2_with fail
 refine(int_n W9 (by decide) (by decide)).mono ?_
 rintro e W10 ⟨v,rfl,hR,hB⟩
 rw [show ((decide ((3:Int) < 0),(3:Int).natAbs,1):QN)=(false,3,1) from rfl] at hR
 obtain⟨P3,p3,Q3,q3,hv,-,-⟩:=hR.args
 have hv:v=.agg #[.bool false,.slice P3 (dg B32 3).length p3,.slice Q3 (dg B32 1).length q3]:=hv
 subst hv
 have hb:=Aside0.mk hB
 replace HR1:=Aside0.mk (HR1.out.below hB)
 replace HR2:=Aside0.mk (HR2.out.below hB)
 have HR3:=Aside0.mk hR
 replace HT:=Aside0.mk (HT.out.below hB)
 replace HX:=Aside0.mk (HX.out.below hB)
 replace HY:=Aside0.mk (HY.out.below hB)
 replace HC:=Aside0.mk (Kd.C_below HC.out hB)
 clear hb hB hR
 go_wp2_with fail
 have hA:=zab (Below.refl W10.heap.size W10) (.cells #[.bool false,.slice P1 (dg B32 1).length p1,.slice Q1 (dg B32 1).length q1,.bool false,.slice P2 (dg B32 2).length p2,.slice Q2 (dg B32 1).length q2,.bool false,.slice P3 (dg B32 3).length p3,.slice Q3 (dg B32 1).length q3] 27)
 have hK:∀ (n:Nat) (b:Nat) (P:Option Addr) (p:Nat) (Q:Option Addr) (q:Nat),RT W10 b (.agg #[.bool false,.slice P (dg B32 n).length p,.slice Q (dg B32 1).length q]) (false,n,1)→M.k27.K (W10.alloc (.cells #[.bool false,.slice P1 (dg B32 1).length p1,.slice Q1 (dg B32 1).length q1,.bool false,.slice P2 (dg B32 2).length p2,.slice Q2 (dg B32 1).length q2,.bool false,.slice P3 (dg B32 3).length p3,.slice Q3 (dg B32 1).length q3] 27)) ⟨false,dg B32 n,dg B32 1⟩ [.bool false,.slice P (dg B32 n).length p,.slice Q (dg B32 1).length q]:=by
  rintro n b P p Q q ⟨v1,v2,e,R1,R2⟩
  simp only [Value.agg.injEq,Array.mk.injEq,List.cons.injEq,and_true,true_and] at e
  obtain⟨rfl,rfl⟩:=e
  exact M.k27_mk _ ⟨false,dg B32 n,dg B32 1⟩ (Kd.R_reads' R1).2.1 (Kd.C_below (Kd.R_reads' R1).2.2 hA) (Kd.R_reads' R2).2.1 (Kd.C_below (Kd.R_reads' R2).2.2 hA)
 have hC3:=C_rat3 (zaw W10 (.cells #[.bool false,.slice P1 (dg B32 1).length p1,.slice Q1 (dg B32 1).length q1,.bool false,.slice P2 (dg B32 2).length p2,.slice Q2 (dg B32 1).length q2,.bool false,.slice P3 (dg B32 3).length p3,.slice Q3 (dg B32 1).length q3] 27)) (hK _ _ _ _ _ _ HR1.out) (hK _ _ _ _ _ _ HR2.out) (hK _ _ _ _ _ _ HR3.out)
 have hmk:=makeF_n (some ⟨gd+1,0,none⟩) 2 [2,2] (some ⟨W10.heap.size,0,none⟩) 3 [⟨false,dg B32 1,dg B32 1⟩,⟨false,dg B32 2,dg B32 1⟩,⟨false,dg B32 3,dg B32 1⟩] _ (Kd.C_below HC.out hA) (by decide) hC3 (by decide) (show fitV [2,2] 3≠0 by decide)
 rw [show fitV [2,2] ([⟨false,dg B32 1,dg B32 1⟩,⟨false,dg B32 2,dg B32 1⟩,⟨false,dg B32 3,dg B32 1⟩]:List M.S27).length=13 from (show fitV [2,2] 3=13 by decide)] at hmk
 refine hmk.mono ?_
 rintro e W11 ⟨rfl,hB⟩
 have hA2:=zab (Below.refl W11.heap.size W11) (.cells #[.slice none 0 0,.slice none 0 0] 30)
 have hbb:=zaa (zaa hA hB) hA2
 replace HT:=Aside0.mk (HT.out.below hbb)
 replace HX:=Aside0.mk (HX.out.below hbb)
 replace HY:=Aside0.mk (HY.out.below hbb)
 clear hmk hC3 hK HR1 HR2 HR3 HC hA hA2 hB hbb
 go_wp2_with fail
 generalize W11.alloc (.cells #[.slice none 0 0,.slice none 0 0] 30)=W12 at HT HX HY ⊢
 generalize W11.heap.size=gm
 generalize W10.heap.size=gb

 have HF:Aside0 (∀ w':World,Below W12.heap.size W12 w'→(w'.cell? ⟨gx,0,none⟩=some (.bool X.1)∧w'.cell? ⟨gx,1,none⟩=some (.slice A1 (dg B32 X.2.1).length c1)∧w'.cell? ⟨gx,2,none⟩=some (.slice A2 (dg B32 X.2.2).length c2)∧w'.cell? ⟨gd,0,none⟩=some (.bool Y.1)∧w'.cell? ⟨gd,1,none⟩=some (.slice B1 (dg B32 Y.2.1).length b1)∧w'.cell? ⟨gd,2,none⟩=some (.slice B2 (dg B32 Y.2.2).length b2)∧w'.cell? ⟨gt,0,none⟩=some (.slice A 2 c)∧w'.cell? ⟨gt,1,none⟩=some (.slice B 4 d))∧XB w gx X A1 c1 A2 c2 w'∧XB w gd Y B1 b1 B2 b2 w'∧KT w gt A c B d w'):=⟨fun w' h=>⟨⟨(zad (HX.out.below h).1 0).trans rfl,(zad (HX.out.below h).1 1).trans rfl,(zad (HX.out.below h).1 2).trans rfl,(zad (HY.out.below h).1 0).trans rfl,(zad (HY.out.below h).1 1).trans rfl,(zad (HY.out.below h).1 2).trans rfl,(zad (HT.out.below h).t 0).trans rfl,(zad (HT.out.below h).t 1).trans rfl⟩,HX.out.below h,HY.out.below h,HT.out.below h⟩⟩
 have HBE:=Aside0.mk HT.out.be
 clear HX HY HT
 refine zbg (n:=26) (S:=fun w'=>(w'.cell? ⟨gx,0,none⟩=some (.bool X.1)∧w'.cell? ⟨gx,1,none⟩=some (.slice A1 (dg B32 X.2.1).length c1)∧w'.cell? ⟨gx,2,none⟩=some (.slice A2 (dg B32 X.2.2).length c2)∧w'.cell? ⟨gd,0,none⟩=some (.bool Y.1)∧w'.cell? ⟨gd,1,none⟩=some (.slice B1 (dg B32 Y.2.1).length b1)∧w'.cell? ⟨gd,2,none⟩=some (.slice B2 (dg B32 Y.2.2).length b2)∧w'.cell? ⟨gt,0,none⟩=some (.slice A 2 c)∧w'.cell? ⟨gt,1,none⟩=some (.slice B 4 d))) (ds:=[]) #[zf,zf,zf,zf,zf,zf,zf,zf,zf,zf,zf,zf,zf,zf,zf,zf,zf,zf,zf,zf,zf,zf,zf,zf,zf,zf] (by kernel_rfl) rfl rfl ((HF.out _ (zag (Below.refl _ _))).1) (fun hHeld=>?_)
 have hb0:=Aside0.mk (show Below W12.heap.size W12 W12.drew from zag (Below.refl _ _))
 generalize W12.drew=V0 at hb0 hHeld ⊢
 refine qp 0 (some 32) ?_
 refine qp 1 (some 33) ?_
 refine qp 2 (some 34) ?_
 refine qt 4 (some 36) ?_
 refine qo 3 (some 35) (fun K hK=>?_)
 refine qg Tryz.func81 #[.int .i64 3] ?_
 refine(ref_int_n (x:=3) V0 (by decide) (by decide)).mono ?_
 rintro e V1 ⟨f3,rfl,hQ,hB⟩
 refine⟨_,rfl,?_⟩
 have hb1:=Aside0.mk (zaa hb0.out hB)
 have HQ3:=Aside0.mk hQ
 clear hQ
 clear hB hb0
 refine hK.out _ _ ((HF.out _ hb1.out).1) (fun hHeld=>?_)
 clear hK K
 refine qn ?_
 refine qo 5 (some 37) (fun K hK=>?_)
 refine qg Tryz.func36 #[f3,.agg #[.bool X.1,.slice A1 (dg B32 X.2.1).length c1,.slice A2 (dg B32 X.2.2).length c2]] ?_
 refine(ref_is_same HQ3.out (HF.out _ hb1.out).2.1.2 KX.out.2 (by rw [EX.out]; decide)).mono ?_
 rintro e V2 ⟨rfl,hB⟩
 refine⟨_,rfl,?_⟩
 have hb2:=Aside0.mk (zaa hb1.out hB)
 clear HQ3
 clear hB hb1
 refine hK.out _ _ ((HF.out _ hb2.out).1) (fun hHeld=>?_)
 clear hK K
 refine qn ?_
 refine qp 6 (some 38) ?_
 refine qp 7 (some 39) ?_
 refine qp 8 (some 40) ?_
 refine qp 9 (some 41) ?_
 refine qp 10 (some 42) ?_
 refine qp 11 (some 43) ?_
 refine qt 13 (some 45) ?_
 refine qo 12 (some 44) (fun K hK=>?_)
 refine qg Tryz.func81 #[.int .i64 30] ?_
 refine(ref_int_n (x:=30) V2 (by decide) (by decide)).mono ?_
 rintro e V3 ⟨f12,rfl,hQ,hB⟩
 refine⟨_,rfl,?_⟩
 have hb3:=Aside0.mk (zaa hb2.out hB)
 have HQ12:=Aside0.mk hQ
 clear hQ
 clear hB hb2
 refine hK.out _ _ ((HF.out _ hb3.out).1) (fun hHeld=>?_)
 clear hK K
 refine qn ?_
 refine qo 14 (some 46) (fun K hK=>?_)
 refine qg Tryz.func36 #[f12,.agg #[.bool Y.1,.slice B1 (dg B32 Y.2.1).length b1,.slice B2 (dg B32 Y.2.2).length b2]] ?_
 refine(ref_is_same HQ12.out (HF.out _ hb3.out).2.2.1.2 KY.out.2 (by rw [EY.out]; decide)).mono ?_
 rintro e V4 ⟨rfl,hB⟩
 refine⟨_,rfl,?_⟩
 have hb4:=Aside0.mk (zaa hb3.out hB)
 clear HQ12
 clear hB hb3
 refine hK.out _ _ ((HF.out _ hb4.out).1) (fun hHeld=>?_)
 clear hK K
 refine qn ?_
 refine qp 15 (some 47) ?_
 refine qp 16 (some 48) ?_
 refine qt 17 (some 49) ?_
 refine qo 18 (some 50) (fun K hK=>?_)
 refine qg Tryz.func82 #[.agg #[.slice A 2 c,.slice B 4 d]] ?_
 have hbt:=tbits_n A 2 c B d es4 V4 (HF.out _ hb4.out).2.2.2.e (HF.out _ hb4.out).2.2.2.ec (by decide) (fun x hx=>(es4_ok x hx).1)
 rw [bits_4] at hbt
 refine hbt.mono ?_
 clear hbt
 rintro e V5 ⟨rfl,hB⟩
 refine⟨_,rfl,?_⟩
 have hb5:=Aside0.mk (zaa hb4.out hB)
 clear hB hb4
 refine hK.out _ _ ((HF.out _ hb5.out).1) (fun hHeld=>?_)
 clear hK K
 refine qn ?_
 refine qp 19 (some 51) ?_
 refine qp 20 (some 52) ?_
 refine qp 21 (some 53) ?_
 refine qp 22 (some 54) ?_
 refine qp 23 (some 55) ?_
 refine qp 24 (some 56) ?_
 refine qp 25 (some 0) ?_
 refine done_ (by kernel_rfl) ?_
 clear hHeld
 go_wp2
 go_ret
 exact⟨rfl,zaa HBE.out hb5.out⟩
end Go.Proofs.YtehghijlchpeaaaGreat.Nat1
end
section
namespace Go.Proofs.YtehghijlchpeaaaGreat.Nat1
open Go.RowKit YtehghijlchpeaaaGreatW.PrintWords YtehghijlchpeaaaGreatW.PrintLast YtehghijlchpeaaaGreatW.PrintMore L Nt Ev
def tensorMakes.T4:Bool×List (List Nat×List Nat):=(true,[([],[]),([0],[0]),([1],[1]),([2],[2]),([3,2],[2,3]),([4,2],[2,4]),([2],[2]),([6,2],[2,6]),([7,2,2],[2,7]),([5,8,2],[2,5,8]),([2,9],[2,9])])
def tensorMakes.B4:List Nat:=[0,1,3,7,15,31,7,71,199,511,1023]
theorem tensorMakes.tab4:rtab .any (opsOf Tryz.f5 4)=tensorMakes.T4:=by kernel_rfl
theorem tensorMakes.bits4:waitsOk tensorMakes.T4.2 tensorMakes.B4=true:=by kernel_rfl
def tensorMakes.T8:Bool×List (List Nat×List Nat):=(true,[([],[]),([0],[0]),([1],[1]),([2],[2]),([3,2,2],[2,3]),([2],[2]),([4,5,4,2],[2,4,5]),([2,6],[2,6]),([7,6],[7]),([8],[8]),([9,8,8],[8,9]),([10,8],[8,10]),([8,11],[8,11]),([12,10],[12]),([13,13],[13]),([13,14],[13,14]),([15,14,0,1,2,3,4,5,6,7,8,9,10,11,12,13,14,15],[15])])
def tensorMakes.B8:List Nat:=[0,1,3,7,15,7,63,127,255,511,1023,2047,4095,8191,16383,32767,65535]
theorem tensorMakes.tab8:rtab .any (opsOf Tryz.f5 8)=tensorMakes.T8:=by kernel_rfl
theorem tensorMakes.bits8:waitsOk tensorMakes.T8.2 tensorMakes.B8=true:=by kernel_rfl
theorem refmay6_n {A:Option Addr} {c:Nat} {sh:List Int} {w:World} (h:Kd.C (Kd.int .i64) w A sh.length sh) (hc:sh.length≤c):Calls Tryz.prog 24 #[.slice A sh.length c] w fun e w'=>e=.returned (.int .i64 (mayS sh))∧Below w.heap.size w w':=by
 obtain⟨k,hk⟩:=refMay6_ev sh
 refine(M.fluxionref06_May.calls k A c sh _ w h hc (hk k (Nat.le_refl _))).mono ?_
 rintro e w' ⟨rfl,hD⟩
 exact⟨rfl,by first | exact hD | (obtain⟨m,rfl⟩:=hD.out; exact zac (Below.refl _ _) m)⟩
theorem refcount6_n {A:Option Addr} {c:Nat} {sh:List Int} {w:World} (h:Kd.C (Kd.int .i64) w A sh.length sh) (hc:sh.length≤c):Calls Tryz.prog 32 #[.slice A sh.length c] w fun e w'=>e=.returned (.int .i64 (cntS sh))∧Below w.heap.size w w':=by
 obtain⟨k,hk⟩:=refCount6_ev sh
 refine(M.fluxionref06_Count.calls k A c sh _ w h hc (hk k (Nat.le_refl _))).mono ?_
 rintro e w' ⟨rfl,hD⟩
 exact⟨rfl,by first | exact hD | (obtain⟨m,rfl⟩:=hD.out; exact zac (Below.refl _ _) m)⟩
theorem makeA_n (A:Option Addr) (c:Nat) (sh:List Int) (B:Option Addr) (d:Nat) (es:List M.S27) (w:World) (hr1:Kd.C (Kd.int .i64) w A sh.length sh) (hc1:sh.length≤c) (hr2:Kd.C M.k27 w B es.length es) (hc2:es.length≤d) (hlen:es.length≤1099511627776) (hok:∀ x∈es,eOk x) :
  Calls Tryz.prog 29 #[.slice A sh.length c,.slice B es.length d] w fun e w'=>∃ A' n c' B' m d',e=.returned (.tuple #[.agg #[.slice A' n c',.slice B' m d'],.int .i64 (fitV sh es.length)]) ∧
   (fitV sh es.length=0→n=sh.length∧m=es.length∧Kd.R (Kd.int .i64) 3 w' w.heap.size (fun _=>True) (.slice A' sh.length c') sh∧Kd.R M.k27 27 w' w.heap.size (fun _=>True) (.slice B' es.length d') (es.map nE)) ∧
   (fitV sh es.length≠0→A'=none∧n=0∧c'=0∧B'=none∧m=0∧d'=0)∧Below w.heap.size w w':=by
 by_cases h:fitV sh es.length=0
 ·
  refine(makeS_n A c sh B d es w hr1 hc1 hr2 hc2 hlen hok h).mono ?_
  rintro e w' ⟨A',c',B',d',rfl,R1,R2,hB⟩
  exact⟨A',_,c',B',_,d',by rw [h],fun _=>⟨rfl,rfl,R1,R2⟩,fun k=>absurd h k,hB⟩
 ·
  refine(makeF_n A c sh B d es w hr1 hc1 hr2 hc2 h).mono ?_
  rintro e w' ⟨rfl,hB⟩
  exact⟨none,0,0,none,0,0,rfl,fun k=>absurd k h,fun _=>⟨rfl,rfl,rfl,rfl,rfl,rfl⟩,hB⟩
theorem fit_may {sh:List Int} {n:Nat} (h:mayS sh≠0):fitV sh n=mayS sh:=by rw [fitV,if_neg h]
theorem fit_cnt {sh:List Int} {n:Nat} (h:mayS sh=0):fitV sh n=if (n:Int)=cntS sh then 0 else 13:=by rw [fitV,if_pos h]
theorem tensorMakes_q (A:Option Addr) (c:Nat) (sh:List Int) (B:Option Addr) (d:Nat) (es:List M.S27) (w:World) (hr1:Kd.C (Kd.int .i64) w A sh.length sh) (hc1:sh.length≤c) (hl1:sh.length≤1048576) (hr2:Kd.C M.k27 w B es.length es) (hc2:es.length≤d) (hl2:es.length≤1048576) (hok:∀ x∈es,eOk x∧x.f1.length≤1048576∧x.f2.length≤1048576) :
  Calls Tryz.prog 5 #[.agg #[.slice A sh.length c,.slice B es.length d]] w fun e w'=>e=.returned (.bool true)∧Below w.heap.size w w':=by
 have hu67:=Tryz.underlying30
 have hk:=fun x hx=>(hok x hx).1
 have HO:=Aside0.mk (fun (W:World) (hb:Below w.heap.size w W)=>town_n A c sh B d es W (Kd.C_below hr1 hb) hc1 (Kd.C_below hr2 hb) hc2 (by omega) (by omega) hk)
 have HM:=Aside0.mk (fun (W:World) (hb:Below w.heap.size w W)=>refmay6_n (Kd.C_below hr1 hb) hc1)
 have HC:=Aside0.mk (fun (W:World) (hb:Below w.heap.size w W)=>refcount6_n (Kd.C_below hr1 hb) hc1)
 have HOF:=Aside0.mk (fun (W:World) (hb:Below w.heap.size w W)=>tof_n A c sh B d es W (Kd.C_below hr1 hb) (Kd.C_below hr2 hb) (by omega) (by omega) hk)
 have HMK:=Aside0.mk (fun (W:World) (A':Option Addr) (c':Nat) (B':Option Addr) (d':Nat) (g1:Kd.C (Kd.int .i64) W A' sh.length sh) (g2:sh.length≤c') (g3:Kd.C M.k27 W B' es.length es) (g4:es.length≤d')=>makeA_n A' c' sh B' d' es W g1 g2 g3 g4 (by omega) hk)
 have HK:=Aside0.mk hk
 clear hr1 hr2 hok hk
 go_enter Tryz.func5,Tryz.ntmps5
 go_wp2_with fail
 have hx0:=zaw w (.cells #[.slice A sh.length c,.slice B es.length d] 30)
 have hbw:Below w.heap.size w (w.alloc (.cells #[.slice A sh.length c,.slice B es.length d] 30)):=zab (Below.refl _ _) _
 generalize (w.alloc (.cells #[.slice A sh.length c,.slice B es.length d] 30))=W0 at hx0 hbw ⊢
 refine(HO.out W0 hbw).mono ?_
 rintro e W1 ⟨A1,c1,B1,d1,rfl,R1,R2,hB⟩
 have hy:=zaw W1 (.cells #[.slice A1 sh.length c1,.slice B1 es.length d1] 30)
 have hx:=zah (zae hx0 hB) (.cells #[.slice A1 sh.length c1,.slice B1 es.length d1] 30)
 have hb2:=zab (zaa hbw hB) (.cells #[.slice A1 sh.length c1,.slice B1 es.length d1] 30)
 have R1':=Kd.R_alloc R1 (.cells #[.slice A1 sh.length c1,.slice B1 es.length d1] 30)
 have R2':=Kd.R_alloc R2 (.cells #[.slice A1 sh.length c1,.slice B1 es.length d1] 30)
 clear hx0 hbw hB R1 R2
 obtain⟨y0,y1⟩:(W1.alloc (.cells #[.slice A1 sh.length c1,.slice B1 es.length d1] 30)).cell? ⟨W1.heap.size,0,none⟩=some (.slice A1 sh.length c1)∧(W1.alloc (.cells #[.slice A1 sh.length c1,.slice B1 es.length d1] 30)).cell? ⟨W1.heap.size,1,none⟩=some (.slice B1 es.length d1):=⟨(zad hy 0).trans rfl,(zad hy 1).trans rfl⟩
 go_wp2_with fail
 clear y0 y1
 generalize W1.alloc (.cells #[.slice A1 sh.length c1,.slice B1 es.length d1] 30)=W2 at hx hy hb2 R1' R2' ⊢
 generalize W1.heap.size=g1 at hy ⊢
 refine(HMK.out W2 A1 c1 B1 d1 (Kd.R_reads' R1').2.2 (Kd.R_reads' R1').2.1 (Kd.R_reads' R2').2.2 (Kd.R_reads' R2').2.1).mono ?_
 rintro e W3 ⟨A2,n2,c2,B2,m2,d2,rfl,hs,hf,hB⟩
 have HS:=Aside0.mk hs
 have HF:=Aside0.mk hf
 have hz:=zaw W3 (.cells #[.slice A2 n2 c2,.slice B2 m2 d2] 30)
 have hx3:=zah (zae hx hB) (.cells #[.slice A2 n2 c2,.slice B2 m2 d2] 30)
 have hb3:=zab (zaa hb2 hB) (.cells #[.slice A2 n2 c2,.slice B2 m2 d2] 30)
 have hbz:=zab (Below.refl W3.heap.size W3) (.cells #[.slice A2 n2 c2,.slice B2 m2 d2] 30)
 clear hx hy hb2 R1' R2' hB hs hf HMK
 obtain⟨y0,y1⟩:(W3.alloc (.cells #[.slice A2 n2 c2,.slice B2 m2 d2] 30)).cell? ⟨w.heap.size,0,none⟩=some (.slice A sh.length c)∧(W3.alloc (.cells #[.slice A2 n2 c2,.slice B2 m2 d2] 30)).cell? ⟨w.heap.size,1,none⟩=some (.slice B es.length d):=⟨(zad hx3 0).trans rfl,(zad hx3 1).trans rfl⟩
 go_wp2_with fail
 clear y0 y1
 generalize W3.alloc (.cells #[.slice A2 n2 c2,.slice B2 m2 d2] 30)=W4 at hz hx3 hb3 hbz ⊢
 generalize W3.heap.size=g2 at hz ⊢
 have HG:Aside0 (∀ w':World,Below W4.heap.size W4 w'→(w'.cell? ⟨w.heap.size,0,none⟩=some (.slice A sh.length c)∧w'.cell? ⟨w.heap.size,1,none⟩=some (.slice B es.length d)∧w'.cell? ⟨g2,0,none⟩=some (.slice A2 n2 c2)∧w'.cell? ⟨g2,1,none⟩=some (.slice B2 m2 d2))∧Below w.heap.size w w'∧Below W3.heap.size W3 w'):=⟨fun w' h=>⟨⟨(zad (zae hx3 h) 0).trans rfl,(zad (zae hx3 h) 1).trans rfl,(zad (zae hz h) 0).trans rfl,(zad (zae hz h) 1).trans rfl⟩,zaa hb3 h,zaa hbz h⟩⟩
 clear hz hx3 hb3 hbz
 refine(HM.out W4 (HG.out _ (Below.refl _ _)).2.1).mono ?_
 rintro e W5 ⟨rfl,hB⟩
 have hb5:=Aside0.mk hB
 clear hB
 by_cases hm:mayS sh=0
 case neg =>
  have hfv:=fit_may (n:=es.length) hm
  have hne:=hm
  generalize mayS sh=f at hm hfv hne ⊢
  have hf1:(f == 0)=false:=by rw [beq_eq_false_iff_ne]; exact hne
  have hf2:(f != 0)=true:=by rw [bne_iff_ne]; exact hne
  go_wp2_with fail
  refine zbg (n:=11) (S:=fun w'=>(w'.cell? ⟨w.heap.size,0,none⟩=some (.slice A sh.length c)∧w'.cell? ⟨w.heap.size,1,none⟩=some (.slice B es.length d)∧w'.cell? ⟨g2,0,none⟩=some (.slice A2 n2 c2)∧w'.cell? ⟨g2,1,none⟩=some (.slice B2 m2 d2))) (ds:=[]) #[zf,zf,zf,zf,zf,zf,zf,zf,zf,zf,zf] (by kernel_rfl) rfl rfl ((HG.out _ (zaa hb5.out (zag (Below.refl _ _)))).1) (fun hHeld=>?_)
  refine with_tabW tensorMakes.tab4 tensorMakes.bits4 (fun HT_ HW_=>?_)
  have hbv0:=Aside0.mk (zaa hb5.out (show Below W5.heap.size W5 W5.drew from zag (Below.refl _ _)))
  generalize W5.drew=V0 at hbv0 hHeld ⊢
  refine qpT 0 (some 20) ?_
  refine qpT 1 (some 21) ?_
  refine qpT 2 (some 22) ?_
  refine pure_ (i:=3) (N:=some 23) (v:=undef) (a':=?_) #[zt,zt,zt,zt,zf,zf,zf,zf,zf,zf,zf] rfl rfl (any_of HT_.out (by kernel_rfl)) (fun _ _ _ h=>h) (Or.inr ⟨by rfl,rfl⟩) ?_ ?_
  rotate_left
  ·
   simp only [Act.put,zA1,zA2,zA3,zaS,za0]
   rfl
  refine pure_ (i:=4) (N:=some 24) (v:=undef) (a':=?_) #[zt,zt,zt,zt,zt,zf,zf,zf,zf,zf,zf] rfl rfl (any_of HT_.out (by kernel_rfl)) (fun _ _ _ h=>h) (Or.inr ⟨by rfl,rfl⟩) ?_ ?_
  rotate_left
  ·
   simp only [Act.put,zA1,zA2,zA3,zaS,za0]
   rfl
  refine pure_ (i:=5) (N:=some 25) (v:=undef) (a':=?_) #[zt,zt,zt,zt,zt,zt,zf,zf,zf,zf,zf] rfl rfl (any_of HT_.out (by kernel_rfl)) (fun _ _ _ h=>h) (Or.inr ⟨by rfl,rfl⟩) ?_ ?_
  rotate_left
  ·
   simp only [Act.put,zA1,zA2,zA3,zaS,za0]
   rfl
  refine pure_ (i:=6) (N:=some 26) (v:=undef) (a':=?_) #[zt,zt,zt,zt,zt,zt,zt,zf,zf,zf,zf] rfl rfl (any_of HT_.out (by kernel_rfl)) (fun _ _ _ h=>h) (Or.inr ⟨by rfl,rfl⟩) ?_ ?_
  rotate_left
  ·
   simp only [Act.put,zA1,zA2,zA3,zaS,za0]
   rfl
  refine pure_ (i:=7) (N:=some 27) (v:=undef) (a':=?_) #[zt,zt,zt,zt,zt,zt,zt,zt,zf,zf,zf] rfl rfl (any_of HT_.out (by kernel_rfl)) (fun _ _ _ h=>h) (Or.inr ⟨by rfl,rfl⟩) ?_ ?_
  rotate_left
  ·
   simp only [Act.put,zA1,zA2,zA3,zaS,za0]
   rfl
  refine pure_ (i:=8) (N:=some 28) (v:=undef) (a':=?_) #[zt,zt,zt,zt,zt,zt,zt,zt,zt,zf,zf] rfl rfl (any_of HT_.out (by kernel_rfl)) (fun _ _ _ h=>h) (Or.inr ⟨by rfl,rfl⟩) ?_ ?_
  rotate_left
  ·
   simp only [Act.put,zA1,zA2,zA3,zaS,za0]
   rfl
  refine pure_ (i:=9) (N:=some 29) (v:=undef) (a':=?_) #[zt,zt,zt,zt,zt,zt,zt,zt,zt,zt,zf] rfl rfl (any_of HT_.out (by kernel_rfl)) (fun _ _ _ h=>h) (Or.inr ⟨by rfl,rfl⟩) ?_ ?_
  rotate_left
  ·
   simp only [Act.put,zA1,zA2,zA3,zaS,za0]
   rfl
  refine qpT 10 (some 30) ?_
  refine done_ (done_of HT_.out (by kernel_rfl)) ?_
  clear hHeld
  obtain⟨rfl,rfl,rfl,rfl,rfl,rfl⟩:=HF.out (by rw [hfv]; exact hne)
  (try rw [hfv])
  clear hfv
  obtain⟨y0,y1,y2,y3⟩:=(HG.out _ hbv0.out).1
  go_wp2_with fail
  clear y0 y1 y2 y3
  refine(empty_n _).mono ?_
  rintro e WE ⟨rfl,hB⟩
  have hbE:=Aside0.mk (zaa hbv0.out hB)
  clear hB
  go_wp2_with fail
  refine(tknown_n _).mono ?_
  rintro e WK ⟨rfl,hB⟩
  have hbK:=Aside0.mk (zaa hbE.out hB)
  clear hB
  go_wp2
  go_ret
  exact⟨rfl,(HG.out _ hbK.out).2.1⟩
 rw [hm]
 have HFV:=Aside0.mk (fit_cnt (n:=es.length) hm)
 go_wp2_with fail
 refine zbg (n:=11) (S:=fun w'=>(w'.cell? ⟨w.heap.size,0,none⟩=some (.slice A sh.length c)∧w'.cell? ⟨w.heap.size,1,none⟩=some (.slice B es.length d)∧w'.cell? ⟨g2,0,none⟩=some (.slice A2 n2 c2)∧w'.cell? ⟨g2,1,none⟩=some (.slice B2 m2 d2))) (ds:=[]) #[zf,zf,zf,zf,zf,zf,zf,zf,zf,zf,zf] (by kernel_rfl) rfl rfl ((HG.out _ (zaa hb5.out (zag (Below.refl _ _)))).1) (fun hHeld=>?_)
 refine with_tabW tensorMakes.tab4 tensorMakes.bits4 (fun HT_ HW_=>?_)
 have hbv0:=Aside0.mk (zaa hb5.out (show Below W5.heap.size W5 W5.drew from zag (Below.refl _ _)))
 generalize W5.drew=V0 at hbv0 hHeld ⊢
 refine qpT 0 (some 20) ?_
 refine qpT 1 (some 21) ?_
 refine qpT 2 (some 22) ?_
 refine qpT 3 (some 23) ?_
 refine qpT 6 (some 26) ?_
 refine qtT 4 (some 24) ?_
 refine qpT 5 (some 25) ?_
 refine qtT 7 (some 27) ?_
 refine qoT 8 (some 28) (fun K hK=>?_)
 refine qg Tryz.func32 #[.slice A sh.length c] ?_
 refine(HC.out V0 (HG.out _ hbv0.out).2.1).mono ?_
 rintro e V1 ⟨rfl,hB⟩
 refine⟨_,rfl,?_⟩
 have hbv1:=Aside0.mk (zaa hbv0.out hB)
 clear hB hbv0 
 refine hK.out _ _ ((HG.out _ hbv1.out).1) (fun hHeld=>?_)
 clear hK K
 refine qn ?_
 refine qpT 9 (some 29) ?_
 refine qpT 10 (some 30) ?_
 refine done_ (done_of HT_.out (by kernel_rfl)) ?_
 clear hHeld
 by_cases hcn:(es.length:Int)=cntS sh
 case neg =>
  have hfv:=HFV.out
  rw [if_neg hcn] at hfv
  have hc1':((es.length:Int) != cntS sh)=true:=by rw [bne_iff_ne]; exact hcn
  have hc2':((es.length:Int) == cntS sh)=false:=by rw [beq_eq_false_iff_ne]; exact hcn
  clear hcn
  obtain⟨rfl,rfl,rfl,rfl,rfl,rfl⟩:=HF.out (by rw [hfv]; decide)
  (try rw [hfv])
  clear hfv
  obtain⟨y0,y1,y2,y3⟩:=(HG.out _ hbv1.out).1
  go_wp2_with fail
  clear y0 y1 y2 y3
  refine(empty_n _).mono ?_
  rintro e WE ⟨rfl,hB⟩
  have hbE:=Aside0.mk (zaa hbv1.out hB)
  clear hB
  go_wp2_with fail
  refine(tknown_n _).mono ?_
  rintro e WK ⟨rfl,hB⟩
  have hbK:=Aside0.mk (zaa hbE.out hB)
  clear hB
  go_wp2
  go_ret
  exact⟨rfl,(HG.out _ hbK.out).2.1⟩
 have hfv:=HFV.out
 rw [if_pos hcn] at hfv
 have hc1':((es.length:Int) != cntS sh)=false:=by rw [hcn]; simp
 obtain⟨rfl,rfl,R1,R2⟩:=HS.out hfv
 have HR:=Aside0.mk (And.intro R1 R2)
 clear R1 R2
 (try rw [hfv])
 go_wp2_with fail
 have hb6:=hbv1
 clear hbv1
 refine zbg (n:=17) (S:=fun w'=>(w'.cell? ⟨w.heap.size,0,none⟩=some (.slice A sh.length c)∧w'.cell? ⟨w.heap.size,1,none⟩=some (.slice B es.length d)∧w'.cell? ⟨g2,0,none⟩=some (.slice A2 sh.length c2)∧w'.cell? ⟨g2,1,none⟩=some (.slice B2 es.length d2))) (ds:=[]) #[zf,zf,zf,zf,zf,zf,zf,zf,zf,zf,zf,zf,zf,zf,zf,zf,zf] (by kernel_rfl) rfl rfl ((HG.out _ (zaa hb6.out (zag (Below.refl _ _)))).1) (fun hHeld=>?_)
 refine with_tabW tensorMakes.tab8 tensorMakes.bits8 (fun HT_ HW_=>?_)
 have hbv0:=Aside0.mk (zaa hb6.out (show Below V1.heap.size V1 V1.drew from zag (Below.refl _ _)))
 generalize V1.drew=V0 at hbv0 hHeld ⊢
 refine qpT 0 (some 43) ?_
 refine qpT 1 (some 44) ?_
 refine qpT 2 (some 45) ?_
 refine qtT 3 (some 46) ?_
 refine qtT 5 (some 48) ?_
 refine qoT 4 (some 47) (fun K hK=>?_)
 refine qg Tryz.func33 #[.agg #[.slice A sh.length c,.slice B es.length d]] ?_
 refine(HOF.out V0 (HG.out _ hbv0.out).2.1).mono ?_
 rintro e V1 ⟨A3,c3,B3,d3,rfl,R1,R2,hB⟩
 refine⟨_,rfl,?_⟩
 have hbv1:=Aside0.mk (zaa hbv0.out hB)
 have HQ:=Aside0.mk (And.intro R1 R2)
 clear hB hbv0 R1 R2
 refine hK.out _ _ ((HG.out _ hbv1.out).1) (fun hHeld=>?_)
 clear hK K
 refine qn ?_
 refine qoT 6 (some 49) (fun K hK=>?_)
 refine qg Tryz.func21 #[.agg #[.slice A3 sh.length c3,.slice B3 es.length d3],.agg #[.slice A2 sh.length c2,.slice B2 es.length d2]] ?_
 refine(tis_c HQ.out HR.out (HG.out _ hbv1.out).2.2 HK.out (by omega) (by omega)).mono ?_
 rintro e V2 ⟨rfl,hB⟩
 refine⟨_,rfl,?_⟩
 have hbv2:=Aside0.mk (zaa hbv1.out hB)
 clear hB hbv1 HQ
 refine hK.out _ _ ((HG.out _ hbv2.out).1) (fun hHeld=>?_)
 clear hK K
 refine qn ?_
 refine qpT 7 (some 50) ?_
 refine qpT 8 (some 51) ?_
 refine qtT 9 (some 52) ?_
 refine qoT 10 (some 53) (fun K hK=>?_)
 refine qg Tryz.func34 #[.agg #[.slice A2 sh.length c2,.slice B2 es.length d2]] ?_
 refine(tmay_c hfv HR.out (HG.out _ hbv2.out).2.2 HK.out (by omega)).mono ?_
 rintro e V3 ⟨rfl,hB⟩
 refine⟨_,rfl,?_⟩
 have hbv3:=Aside0.mk (zaa hbv2.out hB)
 clear hB hbv2 
 refine hK.out _ _ ((HG.out _ hbv3.out).1) (fun hHeld=>?_)
 clear hK K
 refine qn ?_
 refine qpT 11 (some 54) ?_
 refine qpT 12 (some 55) ?_
 refine qpT 13 (some 56) ?_
 refine qoT 14 (some 57) (fun K hK=>?_)
 refine qg Tryz.func26 #[] ?_
 refine(tknown_n V3).mono ?_
 rintro e V4 ⟨rfl,hB⟩
 refine⟨_,rfl,?_⟩
 have hbv4:=Aside0.mk (zaa hbv3.out hB)
 clear hB hbv3 
 refine hK.out _ _ ((HG.out _ hbv4.out).1) (fun hHeld=>?_)
 clear hK K
 refine qn ?_
 refine qpT 15 (some 58) ?_
 refine qpT 16 (some 2) ?_
 refine done_ (done_of HT_.out (by kernel_rfl)) ?_
 clear hHeld
 go_wp2
 go_ret
 exact⟨rfl,(HG.out _ hbv4.out).2.1⟩
end Go.Proofs.YtehghijlchpeaaaGreat.Nat1
end
