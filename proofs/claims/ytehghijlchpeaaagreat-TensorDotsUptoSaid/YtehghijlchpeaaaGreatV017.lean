/- Part 18 of the proof of tensorDotsUpto_holds: what it uses, in build order. -/
import Derived.Test.YtehghijlchpeaaaGreatV016
import Derived.Deep.Slices
set_option maxHeartbeats 8000000
set_option maxRecDepth 100000
set_option linter.unusedVariables false
set_option linter.unusedSimpArgs false
set_option linter.unusedSectionVars false
section
namespace Go.Proofs.YtehghijlchpeaaaGreat.Nat1
open Go.ChangeShapes Go.WideShapes Go.ChangeAt Go.RowKit Go.Joins Go.Deep YtehghijlchpeaaaGreatW.PrintWords YtehghijlchpeaaaGreatW.PrintLast YtehghijlchpeaaaGreatW.PrintMore L Nt
theorem bulk_one {H:Type} (d:DataW H):1≤Rows.uptoBulk d:=by
 cases d with
 | lit l=>cases l<;>simp [Rows.uptoBulk]
 | nil=>simp [Rows.uptoBulk]
 | ptr d=>simp [Rows.uptoBulk]
 | slice elems spare=>simp [Rows.uptoBulk]
 | agg parts=>simp [Rows.uptoBulk]
 | iface t d=>simp [Rows.uptoBulk]
 | map entries=>simp [Rows.uptoBulk]
 | held h=>simp [Rows.uptoBulk]
theorem bulk_part {H:Type} {d:DataW H} {l:List (DataW H)} (h:d∈l):Rows.uptoBulk d≤Rows.uptoBulkAll l:=by
 induction l with
 | nil=>cases h
 | cons x r ih =>
  simp only [Rows.uptoBulkAll]
  cases List.mem_cons.1 h with
  | inl e=>subst e; omega
  | inr e=>have:=ih e; omega
theorem bulk_len {H:Type} (l:List (DataW H)):l.length≤Rows.uptoBulkAll l:=by
 induction l with
 | nil=>simp [Rows.uptoBulkAll]
 | cons x r ih=>have:=bulk_one x; simp only [Rows.uptoBulkAll,List.length_cons]; omega
theorem bulk_slice {H:Type} (elems spare:List (DataW H)):elems.length+1≤Rows.uptoBulk (.slice elems spare):=by
 have h1:=bulk_len elems
 simp only [Rows.uptoBulk]
 omega
theorem bulk_elem {H:Type} {d:DataW H} {elems spare:List (DataW H)} (h:d∈elems):Rows.uptoBulk d≤Rows.uptoBulk (.slice elems spare):=by
 have:=bulk_part h
 simp only [Rows.uptoBulk]
 omega
theorem bulk_agg {H:Type} {d:DataW H} {parts:List (DataW H)} (h:d∈parts):Rows.uptoBulk d≤Rows.uptoBulk (.agg parts):=by
 have:=bulk_part h
 simp only [Rows.uptoBulk]
 omega
theorem row_len {H:Type} {enc:TypeId×Value→H} {W:World} {m:Nat} {v:Value} {y:DataW H×List MemPlace} {t e:TypeId} {k:IntKind} (ht:Tryz.prog.underlying t=some (.slice e)) (he:Tryz.prog.underlying e=some (.int k)) (hc:Tryz.prog.cellsOf e=1) (h:DataW.trod enc Tryz.prog W 0 (fun _=>true) true m t [v]=some y) {A:Option Addr} {n c:Nat} (ev:v=.slice A n c):n≤Rows.uptoBulk y.1:=by
 rcases open_ints ht he hc h with ⟨hcs,_⟩ | ⟨x,l,cap,zs,hcs,_,hl,hm,hz,rfl,hcell,hwz⟩
 ·
  injection hcs with hcs _
  rw [ev] at hcs
  injection hcs with _ h2 _
  omega
 ·
  injection hcs with hcs _
  rw [ev] at hcs
  injection hcs with _ h2 _
  have hb:=bulk_slice (H:=H) (lits k (zs.take l)) (lits k (zs.drop l))
  have hll:(lits (H:=H) k (zs.take l)).length=l:=by
   simp at hz
   simp [lits,hz]
   omega
  simp only at hb ⊢
  omega
theorem shape_arg {H:Type} {enc:TypeId×Value→H} {W:World} {m:Nat} {v:Value} {y:DataW H×List MemPlace} (h:DataW.trod enc Tryz.prog W 0 (fun _=>true) true m 23 [v]=some y) :
  ∃ (A:Option Addr) (c:Nat) (l:List Int),v=.slice A l.length c∧Kd.C (Kd.int .i64) W A l.length l∧l.length≤c:=by
 obtain⟨a,len,cap,zs,rfl,hz⟩:∃ a len cap zs,v=.slice a len cap∧((a=none∧len=0∧cap=0∧zs=[])∨∃ x,a=some x∧len≤cap∧cap≤maxLen∧zs.length=cap∧(∀ i,i < zs.length→W.cell? (x.add i)=some (.int .i64 (zs.getD i 0)))∧∀ n∈zs,(Lit.int .i64 n).wf=true):=by
  rcases open_ints Tryz.underlying23 Tryz.underlying3 (by kernel_rfl) h with ⟨hcs,_⟩ | ⟨x,l,c,zs,hcs,_,hl,hm,hz,_,hcell,hwz⟩
  ·
   injection hcs with hcs _
   exact⟨none,0,0,[],hcs,.inl ⟨rfl,rfl,rfl,rfl⟩⟩
  ·
   injection hcs with hcs _
   exact⟨some x,l,c,zs,hcs,.inr ⟨_,rfl,hl,hm,by simpa using hz,hcell,hwz⟩⟩
 obtain⟨l,rfl,hr,hm,hw,hc⟩:=zca.ofRowC hz
 exact⟨a,cap,l,rfl,Kd.C_of_reads (d:=(0:Int)) (h1:=fun _=>rfl) hr,hc⟩
theorem elems_arg {H:Type} {enc:TypeId×Value→H} {W:World} {m:Nat} {v:Value} {y:DataW H×List MemPlace} (h:DataW.trod enc Tryz.prog W 0 (fun _=>true) true m 28 [v]=some y) :
  ∃ (B:Option Addr) (c:Nat) (es:List M.S27),v=.slice B es.length c∧Kd.C M.k27 W B es.length es∧es.length≤c∧es.length≤Rows.uptoBulk y.1∧∀ x∈es,ok B32 x.f1∧ok B32 x.f2∧x.f1.length≤Rows.uptoBulk y.1∧x.f2.length≤Rows.uptoBulk y.1:=by
 rcases open_slice Tryz.underlying28 h with ⟨hcs,rfl⟩ | ⟨a,len,cap,mm,n,D,Pl,hcs,hb,hl,hm,hmm,rfl,hx⟩
 ·
  injection hcs with hcs _
  exact⟨none,0,[],hcs,⟨rfl,by decide,fun h=>absurd h (by decide)⟩,Nat.le_refl _,Nat.zero_le _,fun x hx=>by cases hx⟩
 ·
  injection hcs with hcs _
  subst hcs
  have hlm:len≤mm:=by rw [hmm]; simp; exact hl
  have hsz:Tryz.prog.cellsOf 27=3:=by kernel_rfl
  have each:∀ i,i < len→∃ x:M.S27,(∃ cs,cs.length=3∧M.k27.K W x cs∧∀ j u,cs[j]? = some u→W.cell? (a.add (i*3+j))=some u)∧ok B32 x.f1∧ok B32 x.f2∧x.f1.length≤Rows.uptoBulk (D i)∧x.f2.length≤Rows.uptoBulk (D i):=by
   intro i hi
   obtain⟨cs,h1,h2⟩:=hx i (by omega)
   rw [hsz] at h1
   obtain⟨_,hlen,hcell⟩:=World.cells?_some h1
   obtain⟨y0,y1,y2,k,hxy,_,g0,g1,g2⟩:=trod_struct3 Tryz.underlying27 h2
   match cs,hlen with
   | [v0,v1,v2],_ =>
    obtain⟨nn,e0,_⟩:=DataW.trod_bool Tryz.underlying4 (by simpa [show Tryz.prog.cellsOf 4=1 by kernel_rfl] using g0)
    have g1':DataW.trod enc Tryz.prog W 0 (fun _=>true) true k 25 [v1]=some y1:=by simpa [show Tryz.prog.cellsOf 25=1 by kernel_rfl] using g1
    have g2':DataW.trod enc Tryz.prog W 0 (fun _=>true) true k 25 [v2]=some y2:=by simpa [show Tryz.prog.cellsOf 25=1 by kernel_rfl] using g2
    obtain⟨A1,c1,p,hp,hp1,hp2,hp3⟩:=nat_arg g1'
    obtain⟨A2,c2,q,hq,hq1,hq2,hq3⟩:=nat_arg g2'
    have b1:=row_len Tryz.underlying25 Tryz.underlying81 (by kernel_rfl) g1' hp
    have b2:=row_len Tryz.underlying25 Tryz.underlying81 (by kernel_rfl) g2' hq
    simp only [Prod.mk.injEq] at hxy
    have d1:Rows.uptoBulk y1.1≤Rows.uptoBulk (D i):=by rw [hxy.1]; exact bulk_agg (by simp)
    have d2:Rows.uptoBulk y2.1≤Rows.uptoBulk (D i):=by rw [hxy.1]; exact bulk_agg (by simp)
    simp at e0
    subst e0 hp hq
    refine⟨⟨nn,p,q⟩,⟨[.bool nn,.slice A1 p.length c1,.slice A2 q.length c2],rfl,M.k27_mk W ⟨nn,p,q⟩ hp2 hp1 hq2 hq1,?_⟩,hp3,hq3,by show p.length≤_; omega,by show q.length≤_; omega⟩
    intro j u hu
    have hj:j < 3:=by
     have:=(List.getElem?_eq_some_iff.1 hu).1
     simpa using this
    have:=hcell j hj
    rw [Go.Deep.add_add] at this
    rw [this]
    exact hu
  have:Inhabited M.S27:=⟨M.z27⟩
  obtain⟨X,hX⟩:=choose_lt each
  have hDl:∀ i,i < len→Rows.uptoBulk (D i)≤Rows.uptoBulk (DataW.slice ((List.range len).map D) ((List.range (mm-len)).map fun j=>D (len+j))):=fun i hi=>bulk_elem (List.mem_map.2 ⟨i,List.mem_range.2 hi,rfl⟩)
  have hlen:((List.range len).map X).length=len:=by simp
  have hmem:∀ x∈(List.range len).map X,∃ i,i < len∧x=X i:=fun x hx=>by
   obtain⟨i,hi,rfl⟩:=List.mem_map.1 hx
   exact⟨i,List.mem_range.1 hi,rfl⟩
  refine⟨some a,cap,(List.range len).map X,by rw [hlen],?_,by rw [hlen]; exact hl,?_,?_⟩
  ·
   rw [hlen]
   refine⟨by simp,Nat.le_trans hl (Nat.le_trans hm (by decide)),fun _=>⟨a,rfl,fun j p hp=>?_⟩⟩
   obtain⟨hj,rfl⟩:j < len∧X j=p:=by
    have h1:=List.getElem?_eq_some_iff.1 hp
    obtain⟨h1,h2⟩:=h1
    simp at h1 h2
    exact⟨h1,h2⟩
   exact(hX j hj).1
  ·
   rw [hlen]
   have:=bulk_slice (H:=H) ((List.range len).map D) ((List.range (mm-len)).map fun j=>D (len+j))
   simp at this ⊢
   omega
  ·
   intro x hx
   obtain⟨i,hi,rfl⟩:=hmem x hx
   have:=hDl i hi
   obtain⟨_,h1,h2,h3,h4⟩:=hX i hi
   exact⟨h1,h2,Nat.le_trans h3 this,Nat.le_trans h4 this⟩
theorem tensor_arg {H:Type} {enc:TypeId×Value→H} {W:World} {r:Reach} {b0:Nat} {v:Value} {d:DataW H} {p:List MemPlace} (hv:Value.okWide Tryz.prog W r b0 30 v) (h:DataW.Trod enc Tryz.prog W 0 (fun _=>true) true 30 v d p) (hk:Rows.uptoBulk d≤1048576) :
  ∃ (A:Option Addr) (c:Nat) (sh:List Int) (B:Option Addr) (cc:Nat) (es:List M.S27),v=.agg #[.slice A sh.length c,.slice B es.length cc]∧(Kd.C (Kd.int .i64) W A sh.length sh∧sh.length≤c∧sh.length≤1048576)∧(Kd.C M.k27 W B es.length es∧es.length≤cc∧es.length≤1048576)∧∀ x∈es,eOk x∧x.f1.length≤1048576∧x.f2.length≤1048576:=by
 obtain⟨v0,v1,y0,y1,m,rfl,rfl,rfl,hy0,hy1⟩:=open_agg2 Tryz.underlying30 (by kernel_rfl) (by kernel_rfl) hv h
 obtain⟨A,c,sh,e1,h1,h2⟩:=shape_arg hy0
 have b1:=row_len Tryz.underlying23 Tryz.underlying3 (by kernel_rfl) hy0 e1
 obtain⟨B,cc,es,e2,g1,g2,g3,g4⟩:=elems_arg hy1
 have d1:Rows.uptoBulk y0.1≤1048576:=Nat.le_trans (bulk_agg (by simp)) hk
 have d2:Rows.uptoBulk y1.1≤1048576:=Nat.le_trans (bulk_agg (by simp)) hk
 subst e1 e2
 refine⟨A,c,sh,B,cc,es,rfl,⟨h1,h2,by omega⟩,⟨g1,g2,by omega⟩,fun x hx=>?_⟩
 obtain⟨k1,k2,k3,k4⟩:=g4 x hx
 exact⟨⟨⟨k1,by omega⟩,⟨k2,by omega⟩⟩,by omega,by omega⟩
end Go.Proofs.YtehghijlchpeaaaGreat.Nat1
end
section
namespace Go.Proofs.YtehghijlchpeaaaGreat.Ev
open Go.RowKit YtehghijlchpeaaaGreatW.PrintWords YtehghijlchpeaaaGreatW.PrintLast YtehghijlchpeaaaGreatW.PrintMore L Nt Nat1
theorem eMay_ev {x:M.S27} (h:eOk x):Ev (fun k=>fluxionref03_May.f k x.f0 x.f1 x.f2) (eV x):=mayR_ev h.1 h.2
theorem refTMay_loop {sh:List Int} {es:List M.S27} (hk:∀ x∈es,eOk x) (hl:es.length≤4611686018427387904) (j:Nat):∀ i:Nat,i+j=es.length→(∀ i':Nat,i' < i→eV (M.rd_T27 es (i':Int))=0) →
  ∃ r:Int,(r=0∨r=6)∧(r=0 ↔ ∀ x∈es,eV x=0)∧Ev (fun k=>M.fluxionref07_May.l0 k (i:Int) sh es) r:=by
 induction j with
 | zero =>
  intro i hi ha
  refine⟨0,Or.inl rfl,⟨fun _=>all_of_rd (fun i' hi'=>ha i' (by omega)),fun _=>rfl⟩,Ev.succ (Ev.congr (Ev.some _) (fun k=>?_))⟩
  rw [M.fluxionref07_May.l0,if_neg (by omega)]
 | succ j ih =>
  intro i hi ha
  have h0:=eMay_ev (rd_ok hk i)
  by_cases h:eV (M.rd_T27 es (i:Int))=0
  ·
   obtain⟨r,h1,h2,h3⟩:=ih (i+1) (by omega) (fun i' hi'=>by
    rcases Nat.lt_or_ge i' i with h4 | h4
    ·
     exact ha i' h4
    ·
     have:i'=i:=by omega
     rw [this]; exact h)
   refine⟨r,h1,h2,Ev.succ (Ev.congr (Ev.bind h0 (G:=fun k t=>if t=0 then M.fluxionref07_May.l0 k (wrap64 ((i:Int)+1)) sh es else some 6) (b:=r) (Ev.congr h3 (fun k=>?_))) (fun k=>?_))⟩
   ·
    rw [if_pos h,w_succ (by omega)]
   ·
    rw [M.fluxionref07_May.l0,if_pos (by omega),if_pos (by omega)]
  ·
   refine⟨6,Or.inr rfl,⟨fun e=>absurd e (by decide),fun e=>absurd (e _ (rd_mem (by omega))) h⟩,Ev.succ (Ev.congr (Ev.bind h0 (G:=fun k t=>if t=0 then M.fluxionref07_May.l0 k (wrap64 ((i:Int)+1)) sh es else some 6) (b:=6) (Ev.congr (Ev.some _) (fun k=>?_))) (fun k=>?_))⟩
   ·
    rw [if_neg h]
   ·
    rw [M.fluxionref07_May.l0,if_pos (by omega),if_pos (by omega)]
theorem refTMay_ev {sh:List Int} {es:List M.S27} (hk:∀ x∈es,eOk x) (hl:es.length≤4611686018427387904):Ev (fun k=>M.fluxionref07_May.f k sh es) (tmayV sh es):=by
 have h0:=refMay6_ev sh
 have h1:=refCount6_ev sh
 obtain⟨r,hr,hr2,h2⟩:=refTMay_loop (sh:=sh) hk hl es.length 0 (by omega) (fun i hi=>absurd hi (by omega))
 have hG:Ev (fun k=>(M.fluxionref06_May.f k sh).bind fun t=>if t=0 then ((M.fluxionref06_Count.f k sh).bind fun u=>if (es.length:Int)=u then M.fluxionref07_May.l0 k 0 sh es else some 13) else some t) (tmayV sh es):=by
  refine Ev.bind h0 (G:=fun k t=>if t=0 then ((M.fluxionref06_Count.f k sh).bind fun u=>if (es.length:Int)=u then M.fluxionref07_May.l0 k 0 sh es else some 13) else some t) ?_
  unfold tmayV fitV
  by_cases h:mayS sh=0
  ·
   rw [if_pos h]
   refine Ev.congr (Ev.bind h1 (G:=fun k u=>if (es.length:Int)=u then M.fluxionref07_May.l0 k 0 sh es else some 13) (b:=_) ?_) (fun k=>by rw [if_pos h])
   by_cases hc:(es.length:Int)=cntS sh
   ·
    rw [if_pos hc,if_pos rfl]
    have er:(if ∀ x∈es,eV x=0 then (0:Int) else 6)=r:=by
     by_cases h4:∀ x∈es,eV x=0
     ·
      rw [if_pos h4,hr2.2 h4]
     ·
      rw [if_neg h4]
      rcases hr with h5 | h5
      ·
       exact absurd (hr2.1 h5) h4
      ·
       exact h5.symm
    rw [er]
    exact Ev.congr h2 (fun k=>by rw [if_pos hc]; rfl)
   ·
    rw [if_neg hc,if_neg (by decide)]
    exact Ev.congr (Ev.some _) (fun k=>by rw [if_neg hc])
  ·
   rw [if_neg h,if_neg h]
   exact Ev.congr (Ev.some _) (fun k=>by rw [if_neg h])
 refine Ev.congr hG (fun k=>?_)
 rw [M.fluxionref07_May.f]
end Go.Proofs.YtehghijlchpeaaaGreat.Ev
namespace Go.Proofs.YtehghijlchpeaaaGreat.Nat1
open Go.RowKit YtehghijlchpeaaaGreatW.PrintWords YtehghijlchpeaaaGreatW.PrintLast YtehghijlchpeaaaGreatW.PrintMore L Nt Ev
theorem reftmay_n {A:Option Addr} {c:Nat} {sh:List Int} {B:Option Addr} {d:Nat} {es:List M.S27} {w:World} (hr1:Kd.C (Kd.int .i64) w A sh.length sh) (hc1:sh.length≤c) (hr2:Kd.C M.k27 w B es.length es) (hc2:es.length≤d) (hlen:es.length≤4398046511104) (hok:∀ x∈es,eOk x) :
  Calls Tryz.prog 28 #[.agg #[.slice A sh.length c,.slice B es.length d]] w fun e w'=>e=.returned (.int .i64 (tmayV sh es))∧Below w.heap.size w w':=by
 obtain⟨k,hk⟩:=refTMay_ev (sh:=sh) hok (Nat.le_trans hlen (by decide))
 exact M.fluxionref07_May.calls k A c sh B d es _ w hr1 hc1 hr2 hc2 (hk k (Nat.le_refl _))
end Go.Proofs.YtehghijlchpeaaaGreat.Nat1
end
section
namespace Go.Proofs.YtehghijlchpeaaaGreat.Nat1
open Go.RowKit YtehghijlchpeaaaGreatW.PrintWords YtehghijlchpeaaaGreatW.PrintLast YtehghijlchpeaaaGreatW.PrintMore L Nt Ev
def eN (x:M.S27):QN:=nrm x.f0 (val B32 x.f1) (val B32 x.f2)
theorem EL.nr {w:World} {v:Value} {x:M.S27} (h:EL w v x) (hk:eOk x):NR w v (eN x):=by
 obtain⟨A1,c1,A2,c2,rfl,h1,h2⟩:=h
 exact⟨x.f0,A1,c1,x.f1,A2,c2,x.f2,rfl,⟨h1.1,h1.2,hk.1⟩,⟨h2.1,h2.2,hk.2⟩,rfl⟩
theorem at_n {A:Option Addr} {c:Nat} {sh:List Int} {B:Option Addr} {d:Nat} {es:List M.S27} {I:Option Addr} {ci:Nat} {idx:List Int} {k o:Nat} {w:World} (hr1:Kd.C (Kd.int .i64) w A sh.length sh) (hc1:sh.length≤c) (hr2:Kd.C M.k27 w B es.length es) (hc2:es.length≤d) (hlen:es.length≤4398046511104) (hok:∀ x∈es,eOk x)
  (hr3:Kd.C (Kd.int .i64) w I idx.length idx) (hc3:idx.length≤ci) (hm:tmayV sh es=0) (ho:M.shape_Offset.f k sh idx=some ((o:Int),0)) (hoe:o < es.length) :
  Calls Tryz.prog 31 #[.agg #[.slice A sh.length c,.slice B es.length d],.slice I idx.length ci] w (RTE w (eN (M.rd_T27 es (o:Int))) 0):=by
 have hu67:=Tryz.underlying30
 have hu25:=Tryz.underlying27
 have HM:=Aside0.mk (fun (W:World) (hb:Below w.heap.size w W)=>tmay_n A c sh B d es W (Kd.C_below hr1 hb) hc1 (Kd.C_below hr2 hb) hc2 hlen hok)
 have HO:=Aside0.mk (fun (W:World) (hb:Below w.heap.size w W)=>M.shape_Offset.calls k A c sh I ci idx _ _ W (Kd.C_below hr1 hb) hc1 (Kd.C_below hr3 hb) hc3 ho)
 have HC:=Aside0.mk hr2
 have HK:=Aside0.mk (rd_ok hok o)
 rw [hm] at HM
 clear hr1 hr2 hr3 hok hm ho
 go_enter Tryz.func31,Tryz.ntmps31
 go_wp2_with fail
 have hx0:=zbt (zbI w (.cells #[.slice A sh.length c,.slice B es.length d] 30)) (.cells #[.bool false,.slice none 0 0,.slice none 0 0] 27)
 have hx1:=zbI (w.alloc (.cells #[.slice A sh.length c,.slice B es.length d] 30)) (.cells #[.bool false,.slice none 0 0,.slice none 0 0] 27)
 rw [show (w.alloc (.cells #[.slice A sh.length c,.slice B es.length d] 30)).heap.size=w.heap.size+1 by simp] at hx1
 have hbw:Below w.heap.size w ((w.alloc (.cells #[.slice A sh.length c,.slice B es.length d] 30)).alloc (.cells #[.bool false,.slice none 0 0,.slice none 0 0] 27)):=zbn (zbn (Below.refl _ _) _) _
 generalize (w.alloc (.cells #[.slice A sh.length c,.slice B es.length d] 30)).alloc (.cells #[.bool false,.slice none 0 0,.slice none 0 0] 27)=W0 at hx0 hx1 hbw ⊢
 refine(HM.out W0 hbw).mono ?_
 rintro e W1 ⟨rfl,hB⟩
 replace hx0:=zbr hx0 hB
 replace hx1:=zbr hx1 hB
 replace hbw:=zbm hbw hB
 have c0:W1.cell? ⟨w.heap.size,0,none⟩=some (.slice A sh.length c):=(zbq hx0 0).trans rfl
 have HX:=Aside0.mk (And.intro hx0 (And.intro hx1 hbw))
 clear hx0 hx1 hbw hB HM
 go_wp2_with fail
 clear c0
 refine(HO.out W1 HX.out.2.2).mono ?_
 rintro e W2 ⟨rfl,hB⟩
 have hB2:Below W1.heap.size W1 W2:=by first | exact hB | (obtain⟨m,rfl⟩:=hB.out; exact zbo (Below.refl _ _) m)
 replace HX:=Aside0.mk (And.intro (zbr HX.out.1 hB2) (And.intro (zbr HX.out.2.1 hB2) (zbm HX.out.2.2 hB2)))
 clear hB hB2 HO
 obtain⟨ad,A1,c1,A2,c2,e1,q0,q1,q2,l1,g1,l2,g2⟩:=M.at_T27 (Kd.C_below HC.out HX.out.2.2) (o:Int) (by omega) (by omega)
 subst e1
 rw [Int.toNat_natCast] at q0 q1 q2
 have HE:=Aside0.mk (norm_n (EL.nr (w:=W2) (x:=M.rd_T27 es (o:Int)) ⟨A1,c1,A2,c2,rfl,⟨g1,l1⟩,⟨g2,l2⟩⟩ HK.out))
 have d1:W2.cell? ⟨w.heap.size,1,none⟩=some (.slice (some ad) es.length d):=(zbq HX.out.1 1).trans rfl
 clear g1 g2 l1 l2
 go_wp2_with fail
 clear d1 q0 q1 q2
 refine HE.out.mono ?_
 rintro e W3 ⟨v,rfl,hR,hB⟩
 obtain⟨D1,m1,D2,m2,rfl,-,-⟩:=hR.args
 have hz:=zbr HX.out.2.1 hB
 have HR:=Aside0.mk (And.intro hR (And.intro hz (zbm HX.out.2.2 hB)))
 obtain⟨⟨z0,z1,z2⟩,z3,z4,z5⟩:=zbH hz
 have hsz:=HX.out.2.2.size
 have HSZ:=Aside0.mk hsz
 clear hR hB hz hsz
 go_wp2
 refine bodyPost_ret (zcm rfl _ _ (w.heap.size+1) 27 _ (0,0) _ rfl (zbM HR.out.2.1 _ _ _) Tryz.underlying27 rfl (by kernel_rfl)) rfl ?_
 exact⟨_,_,_,_,rfl,(HR.out.1.store3 HR.out.2.1 _ _ _).lower HSZ.out,zbN HR.out.2.2 (by omega) _ _ _⟩
end Go.Proofs.YtehghijlchpeaaaGreat.Nat1
end
section
namespace Go.Proofs.YtehghijlchpeaaaGreat.Nat1
open Go.RowKit Go.Shelf YtehghijlchpeaaaGreatW.PrintWords YtehghijlchpeaaaGreatW.PrintLast YtehghijlchpeaaaGreatW.PrintMore L Nt Ev Rd
attribute [local go_sem] Oper.semAt_some
def eB (x:M.S27):Int:=mx (nb (eN x).2.1:Int) (nb (eN x).2.2:Int)
def bitsL (n:Int) (es:List M.S27):Int:=es.foldl (fun n x=>max n (eB x)) n
theorem rd_range (es:List M.S27):(List.range es.length).map (fun i:Nat=>M.rd_T27 es (i:Int))=es:=by
 apply List.ext_getElem
 ·
  simp
 ·
  intro i h1 h2
  simp [M.rd_T27,List.getD_eq_getElem?_getD,List.getElem?_eq_getElem h2]
theorem tbits_n (A:Option Addr) (n c:Nat) (B:Option Addr) (d:Nat) (es:List M.S27) (w:World) (hr2:Kd.C M.k27 w B es.length es) (hc2:es.length≤d) (hlen:es.length≤4398046511104) (hok:∀ x∈es,eOk x) :
  Calls Tryz.prog 82 #[.agg #[.slice A n c,.slice B es.length d]] w fun e w'=>e=.returned (.int .i64 (bitsL 0 es))∧Below w.heap.size w w':=by
 have hu67:=Tryz.underlying30
 have hu25:=Tryz.underlying27
 obtain⟨ev,hev,hec⟩:=evs hr2
 have HEV:=Aside0.mk hev
 have HEC:=Aside0.mk hec
 have HOK:=Aside0.mk (fun i:Nat=>rd_ok hok i)
 clear hr2 hok hev hec
 refine(callsIn_wide (n:=3)).1 ?_
 refine callsIn_of_wp_marks Tryz.func82 rfl trivial ?_ rfl
 simp only [Tryz.ntmps82,List.size_toArray,List.length_cons,List.length_nil,Nat.reduceAdd,Nat.reduceSub,Array.replicate_succ,Array.replicate_zero,List.push_toArray,List.append_toArray,List.nil_append,List.cons_append]
 gi_wp2_with fail
 have hx1:=zbI (w.alloc (.cells #[.slice A n c,.slice B es.length d] 30)) (.cells #[.int .i64 0] 3 (0,0))
 rw [show (w.alloc (.cells #[.slice A n c,.slice B es.length d] 30)).heap.size=w.heap.size+1 by simp] at hx1
 have hbw:Below w.heap.size w ((w.alloc (.cells #[.slice A n c,.slice B es.length d] 30)).alloc (.cells #[.int .i64 0] 3 (0,0))):=zbn (zbn (Below.refl _ _) _) _
 generalize (w.alloc (.cells #[.slice A n c,.slice B es.length d] 30)).alloc (.cells #[.int .i64 0] 3 (0,0))=W0 at hx1 hbw ⊢
 have HX:=Aside0.mk (And.intro hx1 hbw)
 clear hx1 hbw
 refine⟨trivial,(callsIn_wide.2 (of_t W0 A n c B es.length d)).mono ?_⟩
 rintro e W2 ⟨rfl,hB⟩
 replace HX:=Aside0.mk (And.intro (zbr HX.out.1 hB) (zbm HX.out.2 hB))
 clear hB
 gi_wp2_with fail
 refine⟨trivial,(callsIn_wide.2 (all_calls (.slice A n c) (.slice B es.length d) W2)).mono ?_⟩
 rintro e W3 ⟨rfl,hG,hB⟩
 replace HX:=Aside0.mk (And.intro (zbr HX.out.1 hB) (zbm HX.out.2 hB))
 have HG:=Aside0.mk hG
 clear hG hB
 gi_wp2_with fail
 refine wpIn_rangeFunc_ownH rfl (by omega) (gf:=134) (lb:=#[.pointer (some ⟨W2.heap.size,0,none⟩)]) rfl trivial (zcr Tryz.func134 (by kernel_rfl) rfl)
  (all_stops Fence.wide _ trivial rfl (by omega) W2.heap.size w.heap.size es.length hlen (.slice A n c) B d ev w W3 HX.out.2 (Nat.le_refl _) HX.out.2.size HEC.out HG.out) belowK_t (belowK_b HX.out.2.size) (Below.refl _ _) (fun _=>rfl)
  (fun (pre:List Nat) W=>Below w.heap.size w W∧W.heap[w.heap.size+1]? = some (.cells #[.int .i64 (bitsL 0 (pre.map (fun i:Nat=>M.rd_T27 es (i:Int))))] 3 (0,0)))
  (fun _ _ _=>False)
  ?hI ?hIx ?h0
  (fun (x:Nat) a' W=>∃ (b:Nat) (p q r:Value),a'={ tmps:=#[.agg #[.slice A n c,.slice B es.length d],.pointer (some ⟨w.heap.size,0,none⟩),.pointer (some ⟨w.heap.size+1,0,none⟩),undef,.pointer (some ⟨b,0,none⟩),.agg #[.slice A n c,.slice B es.length d],.agg #[.slice A n c,.slice B es.length d],.func (.func 134) #[] #[.pointer (some ⟨W2.heap.size,0,none⟩)],.int .i64 (x:Int),ev x,undef,undef,undef,undef,undef],defers:=[] }∧ev x=.agg #[p,q,r]∧w.heap.size≤b∧b≠w.heap.size+1∧W.heap[b]? = some (.cells #[p,q,r] 27 (0,0)))
  ?hAx ?assign ?body ?done ?stop
 case hI =>
  rintro pre X Y row ⟨hs1,hs2⟩ hg hr
  exact⟨ownFrom_below (β:=List Nat) (Nat.le_refl _) HX.out.2.size pre X Y row hs1 hg hr,(hg.block _ (lt_of_block hs2) (fun e=>by have h1:=(hr _ e.symm).1; have h2:=lt_of_block HX.out.1; omega)).trans hs2⟩
 case hIx=>exact fun c s W W' row hs hg hr=>hs
 case h0=>exact⟨HX.out.2,HX.out.1⟩
 case hAx =>
  rintro x a' s X Y row ⟨b,p,q,r,h1,h2,h3,h5,h4⟩ hg hr
  refine⟨b,p,q,r,h1,h2,h3,h5,(hg.block b (lt_of_block h4) (fun e=>?_)).trans h4⟩
  obtain⟨_,o,ho,hc⟩:=hr b e.symm
  rw [h4] at ho
  cases ho
  cases hc
 case assign =>
  rintro l pre x W K ⟨hB,hc⟩ hK
  obtain⟨A1,c1,A2,c2,hex,-,-⟩:=HEV.out x
  rw [hex]
  have HK2:=Aside0.mk hK
  clear hK
  gi_wp2_with fail
  have hA:=zbn (Below.refl W.heap.size W) (.cells #[.bool (M.rd_T27 es (x:Int)).f0,.slice A1 (M.rd_T27 es (x:Int)).f1.length c1,.slice A2 (M.rd_T27 es (x:Int)).f2.length c2] 27)
  exact HK2.out _ _ ((keepsO hA).from _) (hA.mono hB.size) ⟨zbn hB _,zbt hc _⟩ ⟨W.heap.size,_,_,_,by rw [hex],hex,hB.size,Nat.ne_of_gt (zbL hc),zbI W _⟩
 case body =>
  rintro l pre x a' W hl hr ⟨hB,hc⟩ ⟨b,p,q,r,rfl,hex,hb,hbne,hbk⟩ hlen2
  generalize hacc:bitsL 0 (pre.map (fun i:Nat=>M.rd_T27 es (i:Int)))=acc at hc
  have HAC:=Aside0.mk hacc
  have HM:=Aside0.mk (fun (W':World) (h:Below W.heap.size W W')=>bits_n (EL.nr ((HEV.out x).below (zbm hB h)) (HOK.out x)))
  rw [hex] at HM
  have HY:=Aside0.mk (And.intro hB (And.intro hc (And.intro hbk hbne)))
  clear hB hc hr hacc hbk hbne
  gi_wp2_with fail
  have HF:Aside0 (∀ w':World,Below W.heap.size W w'→(w'.cell? ⟨w.heap.size+1,0,none⟩=some (.int .i64 acc)∧w'.cell? ⟨b,0,none⟩=some p∧w'.cell? ⟨b,1,none⟩=some q∧w'.cell? ⟨b,2,none⟩=some r)∧w'.heap[w.heap.size+1]? = some (.cells #[.int .i64 acc] 3 (0,0))):=⟨fun w' h=>⟨⟨(zbq (zbr HY.out.2.1 h) 0).trans rfl,(zbq (zbr HY.out.2.2.1 h) 0).trans rfl,(zbq (zbr HY.out.2.2.1 h) 1).trans rfl,(zbq (zbr HY.out.2.2.1 h) 2).trans rfl⟩,zbr HY.out.2.1 h⟩⟩
  refine start_round (m:=5) (S:=fun w'=>(w'.cell? ⟨w.heap.size+1,0,none⟩=some (.int .i64 acc)∧w'.cell? ⟨b,0,none⟩=some p∧w'.cell? ⟨b,1,none⟩=some q∧w'.cell? ⟨b,2,none⟩=some r)) (ds:=[4]) #[zf,zf,zf,zf,zf] (by kernel_rfl) (by kernel_rfl) (by rintro⟨a,w,h⟩; exact h) rfl rfl ((HF.out _ (zbs (Below.refl _ _))).1) (fun hHeld=>?_)
  have hb0:=Aside0.mk (show Below W.heap.size W W.drew from zbs (Below.refl _ _))
  generalize W.drew=V0 at hb0 hHeld ⊢
  refine qt 0 (some 10) ?_
  refine qt 1 (some 11) ?_
  refine qo 2 (some 12) (fun K hK=>?_)
  refine qg Tryz.func132 #[.agg #[p,q,r]] ?_
  refine(HM.out V0 hb0.out).mono ?_
  rintro e V1 ⟨rfl,hB⟩
  refine⟨_,rfl,?_⟩
  have hb1:=Aside0.mk (zbm hb0.out hB)
  clear hB hb0
  refine hK.out _ _ ((HF.out _ hb1.out).1) (fun hHeld=>?_)
  clear hK K
  refine qn ?_
  refine qp 3 (some 13) ?_
  refine ql 4 none (fun K hK=>?_)
  have hf3:=zbA (HF.out _ hb1.out).2 0
  have hc3:=(HF.out _ hb1.out).1.1
  refine qx ?_
  refine hK.out _ _ ?_
  clear hK K
  refine done_ (by kernel_rfl) ?_
  have hE:bitsL 0 ((pre++[x]).map (fun i:Nat=>M.rd_T27 es (i:Int)))=max acc (eB (M.rd_T27 es (x:Int))):=by
   rw [List.map_append,bitsL,List.foldl_append]
   show max (bitsL 0 _) _=_
   rw [HAC.out]
  refine⟨((keepsO hb1.out).trans (KeepsOthers.setCell _ _ _)).from _,(hb1.out.mono HY.out.1.size).trans ((Below.refl w.heap.size V1).setCell (p:=⟨w.heap.size+1,0,none⟩) (by simp) _),⟨(zbm HY.out.1 hb1.out).setCell (p:=⟨w.heap.size+1,0,none⟩) (by simp) _,?_⟩⟩
  rw [hE]
  exact one_setCell (HF.out _ hb1.out).2
 case done =>
  rintro D ys W hD rfl ⟨hB,y2⟩ hK
  rw [rd_range] at y2
  have q2:=cell_of_one y2
  have f2:=free_of_one y2
  gi_wp2
  have hK':=(KeepsOthers.setCell W ⟨w.heap.size+1,0,none⟩ (.int .i64 (bitsL 0 es))).same D _ hK rfl
  refine⟨by simp,.inl ⟨_,_,rfl,run_takeDeferred hK',?_⟩⟩
  have hc5:=cell_kept (cell_of_one (one_setCell y2 (u:=.int .i64 (bitsL 0 es)))) (grownBy_putObj' _ D (.deferred none)) (fun r e=>by cases e; exact⟨_,hK',rfl⟩)
  refine⟨.int .i64 (bitsL 0 es),?_,rfl,(hB.setCell (p:=⟨w.heap.size+1,0,none⟩) (by simp) _).trans (belowK_b (w:=w) (Nat.le_refl _) _ D _ _ (Nat.le_trans HX.out.2.size hD) hK' rfl rfl)⟩
  simp [results,Tryz.f82,go_sem,hc5]
 case stop =>
  rintro D cd pre W hD hpre hF hK
  exact hF.elim
end Go.Proofs.YtehghijlchpeaaaGreat.Nat1
end
section
namespace Go.Proofs.YtehghijlchpeaaaGreat.Nat1
open Go.RowKit YtehghijlchpeaaaGreatW.PrintWords YtehghijlchpeaaaGreatW.PrintLast YtehghijlchpeaaaGreatW.PrintMore L Nt Ev
structure OI (w:World) (gO:Nat) (S BT1 BT2:Value) (sh:List Int) (es:List M.S27) (i:Nat) (W:World):Prop where
 v:∃ (E:Option Addr) (cE:Nat),W.heap[gO]? = some (.cells #[S,.slice E (es.take i).length cE] 30 (0,0))∧Kd.R M.k27 27 W w.heap.size (fun k=>gO < k) (.slice E (es.take i).length cE) (es.take i)
 sh:Kd.R (Kd.int .i64) 3 W w.heap.size (fun k=>k < gO) S sh
 bt:W.heap[w.heap.size]? = some (.cells #[BT1,BT2] 30 (0,0))
 bz:W.heap[w.heap.size+1]? = some (.cells #[.slice none 0 0,.slice none 0 0] 30 (0,0))
 be:Below w.heap.size w W
theorem take_succ_rd {es:List M.S27} {i:Nat} (h:i < es.length):es.take (i+1)=es.take i++[M.rd_T27 es (i:Int)]:=by
 rw [List.take_succ_eq_append_getElem h]
 congr 1
 simp [M.rd_T27,List.getD_eq_getElem?_getD,List.getElem?_eq_getElem h]
theorem town_n (A:Option Addr) (c:Nat) (sh:List Int) (B:Option Addr) (d:Nat) (es:List M.S27) (w:World) (hr1:Kd.C (Kd.int .i64) w A sh.length sh) (hc1:sh.length≤c) (hr2:Kd.C M.k27 w B es.length es) (hc2:es.length≤d) (hl1:sh.length≤1099511627776) (hlen:es.length≤1099511627776) (hok:∀ x∈es,eOk x) :
  Calls Tryz.prog 20 #[.agg #[.slice A sh.length c,.slice B es.length d]] w fun e w'=>∃ A' c' B' d',e=.returned (.agg #[.slice A' sh.length c',.slice B' es.length d']) ∧
   Kd.R (Kd.int .i64) 3 w' w.heap.size (fun _=>True) (.slice A' sh.length c') sh∧Kd.R M.k27 27 w' w.heap.size (fun _=>True) (.slice B' es.length d') es∧Below w.heap.size w w':=by
 have hu67:=Tryz.underlying30
 have hu25:=Tryz.underlying27
 have HRC:=Aside0.mk (fun (W:World) (hb:Below w.heap.size w W)=>Kd.C_below hr1 hb)
 have HR2:=Aside0.mk hr2
 have HOK:=Aside0.mk (fun i:Nat=>rd_ok hok i)
 clear hr1 hr2 hok
 go_enter Tryz.func20,Tryz.ntmps20
 go_wp2_with ((with_reducible refine zbO (b:=.append) rfl ?_); go_must (refine Kd.R_append_row (Value.int .i64) (0:Int) _ rfl _ _ 23 3 (.int .i64 0) 8 rfl Tryz.underlying23 M.info3 rfl (by omega) (.slice none 0 0) [] sh A sh.length c (fun _=>True) rfl rfl (fun _ _=>trivial) (Kd.R_nil _ _ _ _ _) (HRC.out _ (zbn (zbn (Below.refl _ _) _) _)) (Below.refl _ _) (Nat.le_refl _) (by simp only [List.length_nil]; omega) ?_); intro v1 W1 hR hB hx1 hx2; clear hx1 hx2; obtain⟨S1,k1,rfl⟩:=Kd.R_slice hR; have HS1:=Aside0.mk hR; have HB1:=Aside0.mk hB; clear hR hB)
 obtain⟨gO,hgO⟩:∃ g,g=W1.heap.size:=⟨_,rfl⟩
 have hsz0:((w.alloc (.cells #[.slice A sh.length c,.slice B es.length d] 30)).alloc (.cells #[.slice none 0 0,.slice none 0 0] 30)).heap.size=w.heap.size+1+1:=by simp
 have hx0:=zbt (zbr (zbt (zbI w (.cells #[.slice A sh.length c,.slice B es.length d] 30)) (.cells #[.slice none 0 0,.slice none 0 0] 30)) HB1.out) (.cells #[.slice S1 sh.length k1,.slice none 0 0] 30)
 have hx1:=zbI (w.alloc (.cells #[.slice A sh.length c,.slice B es.length d] 30)) (.cells #[.slice none 0 0,.slice none 0 0] 30)
 rw [show (w.alloc (.cells #[.slice A sh.length c,.slice B es.length d] 30)).heap.size=w.heap.size+1 by simp] at hx1
 replace hx1:=zbt (zbr hx1 HB1.out) (.cells #[.slice S1 sh.length k1,.slice none 0 0] 30)
 have hx2:=zbI W1 (.cells #[.slice S1 sh.length k1,.slice none 0 0] 30)
 have hbw:Below w.heap.size w (W1.alloc (.cells #[.slice S1 sh.length k1,.slice none 0 0] 30)):=zbn (zbm (zbn (zbn (Below.refl _ _) _) _) HB1.out) _
 have hsz1:=HB1.out.size
 rw [hsz0] at hsz1
 have hS1:Kd.R (Kd.int .i64) 3 W1 (w.heap.size+1+1) (fun _=>True) (.slice S1 sh.length k1) sh:=by
  have h:=HS1.out
  rw [hsz0] at h
  exact h
 have HI0:=Aside0.mk (show OI w gO (.slice S1 sh.length k1) (.slice A sh.length c) (.slice B es.length d) sh es 0 (W1.alloc (.cells #[.slice S1 sh.length k1,.slice none 0 0] 30)) from
  ⟨⟨none,0,by rw [hgO]; exact hx2,Kd.R_nil _ _ _ _ _⟩,Kd.R_alloc (Kd.R_mono (Kd.R_lower (Kd.R_bound hS1) (by omega)) (fun k hk=>by rw [hgO]; exact hk.2.2.1)) _,hx0,hx1,hbw⟩)
 have HGO:=Aside0.mk (show w.heap.size+1 < gO by omega)
 rw [← hgO]
 generalize W1.alloc (.cells #[.slice S1 sh.length k1,.slice none 0 0] 30)=W2 at HI0 ⊢
 clear hx0 hx1 hx2 hbw hsz0 hsz1 hS1 HS1 HB1 hgO
 go_loopw [4] (fun iv wr=>∃ i:Nat,iv=.int .i64 i∧i≤es.length∧Aside0 (OI w gO (.slice S1 sh.length k1) (.slice A sh.length c) (.slice B es.length d) sh es i wr)) (fun iv _=>es.length-(intOf iv).toNat)
 case atStart=>exact⟨0,rfl,by omega,HI0⟩
 case round =>
  obtain⟨i,rfl,hi,HI⟩:=hrel
  obtain⟨E,cE,hv1,hv2⟩:=HI.out.v
  by_cases hlt:i < es.length
  ·
   obtain⟨ad,A1,c1,A2,c2,e,q0,q1,q2,l1,g1,l2,g2⟩:=M.at_T27 HR2.out (i:Int) (by omega) (by omega)
   subst e
   rw [Int.toNat_natCast] at q0 q1 q2
   have HCO:=Aside0.mk (fun (W:World) (hb:Below w.heap.size w W)=>ownR_q (M.rd_T27 es (i:Int)).f0 A1 c1 (M.rd_T27 es (i:Int)).f1 A2 c2 (M.rd_T27 es (i:Int)).f2 W (Kd.C_below g1 hb) l1 (Kd.C_below g2 hb) l2 (Nat.le_trans (HOK.out i).1.2 (by decide)) (Nat.le_trans (HOK.out i).2.2 (by decide)))
   have HV2:=Aside0.mk hv2
   obtain⟨n,hn⟩:∃ n,n=(es.take i).length:=⟨_,rfl⟩
   have HN:=Aside0.mk hn
   rw [← hn] at hv1
   clear hv2 g1 g2 l1 l2 hn
   have HS:Aside0 (∀ w':World,Below w.heap.size w w'→w'.heap[gO]? = some (.cells #[.slice S1 sh.length k1,.slice E n cE] 30 (0,0))→w'.heap[w.heap.size]? = some (.cells #[.slice A sh.length c,.slice (some ad) es.length d] 30 (0,0))→(w'.cell? ⟨gO,1,none⟩=some (.slice E n cE)∧w'.cell? ⟨w.heap.size,1,none⟩=some (.slice (some ad) es.length d)∧w'.cell? (ad.add (i*3))=some (.bool (M.rd_T27 es (i:Int)).f0)∧w'.cell? ⟨(ad.add (i*3)).block,(ad.add (i*3)).off+1,none⟩=some (.slice A1 (M.rd_T27 es (i:Int)).f1.length c1)∧w'.cell? ⟨(ad.add (i*3)).block,(ad.add (i*3)).off+2,none⟩=some (.slice A2 (M.rd_T27 es (i:Int)).f2.length c2))):=⟨fun w' h h1 h2=>⟨(zbq h1 1).trans rfl,(zbq h2 1).trans rfl,(h.cell (World.block_lt_of_cell? w _ q0)).trans q0,(h.cell (World.block_lt_of_cell? w _ q1)).trans q1,(h.cell (World.block_lt_of_cell? w _ q2)).trans q2⟩⟩
   clear q0 q1 q2
   have s0:=(HS.out wr HI.out.be hv1 HI.out.bt)
   obtain⟨s1,s2,s3,s4,s5⟩:=s0
   go_wp2_with fail
   clear s1 s2 s3 s4 s5
   refine zco (n:=12) (S:=fun w'=>(w'.cell? ⟨gO,1,none⟩=some (.slice E n cE)∧w'.cell? ⟨w.heap.size,1,none⟩=some (.slice (some ad) es.length d)∧w'.cell? (ad.add (i*3))=some (.bool (M.rd_T27 es (i:Int)).f0)∧w'.cell? ⟨(ad.add (i*3)).block,(ad.add (i*3)).off+1,none⟩=some (.slice A1 (M.rd_T27 es (i:Int)).f1.length c1)∧w'.cell? ⟨(ad.add (i*3)).block,(ad.add (i*3)).off+2,none⟩=some (.slice A2 (M.rd_T27 es (i:Int)).f2.length c2))) (ds:=[11]) #[zf,zf,zf,zf,zf,zf,zf,zf,zf,zf,zf,zf] (by kernel_rfl) rfl rfl ((HS.out _ (zbm HI.out.be (zbs (Below.refl _ _))) (zbu hv1) (zbu HI.out.bt))) (fun hHeld=>?_)
   have hb0:=Aside0.mk (show Below wr.heap.size wr wr.drew from zbs (Below.refl _ _))
   generalize wr.drew=V0 at hb0 hHeld ⊢
   refine qp 0 (some 16) ?_
   refine qp 2 (some 18) ?_
   refine qp 4 (some 20) ?_
   refine qt 1 (some 17) ?_
   refine qt 3 (some 19) ?_
   refine qp 5 (some 21) ?_
   refine qt 6 (some 22) ?_
   refine qo 7 (some 23) (fun K hK=>?_)
   refine qg Tryz.func17 #[.agg #[.bool (M.rd_T27 es (i:Int)).f0,.slice A1 (M.rd_T27 es (i:Int)).f1.length c1,.slice A2 (M.rd_T27 es (i:Int)).f2.length c2]] ?_
   refine(HCO.out V0 (zbm HI.out.be hb0.out)).mono ?_
   rintro e V1 ⟨u1,u2,rfl,R1,R2,hB⟩
   refine⟨_,rfl,?_⟩
   obtain⟨F1,f1,rfl⟩:=Kd.R_slice R1
   obtain⟨F2,f2,rfl⟩:=Kd.R_slice R2
   have HP:=Aside0.mk (M.k27_mkM V1 w.heap.size (fun k=>V0.heap.size≤k) (M.rd_T27 es (i:Int)) (Kd.R_mono (Kd.R_lower (Kd.R_bound R1) (zbm HI.out.be hb0.out).size) (fun k hk=>hk.2.1)) (Kd.R_mono (Kd.R_lower (Kd.R_bound R2) (zbm HI.out.be hb0.out).size) (fun k hk=>hk.2.1)))
   have hb1:=Aside0.mk (zbm hb0.out hB)
   clear hB R1 R2
   refine hK.out _ _ ((HS.out _ (zbm HI.out.be hb1.out) (zbr hv1 hb1.out) (zbr HI.out.bt hb1.out))) (fun hHeld=>?_)
   clear hK K
   refine qn ?_
   refine qo 8 (some 24) (fun K hK=>?_)
   refine qv ?_
   refine hK.out _ _ ((HS.out _ (zbn (zbm HI.out.be hb1.out) _) (zbt (zbr hv1 hb1.out) _) (zbt (zbr HI.out.bt hb1.out) _))) (fun hHeld=>?_)
   clear hK K
   refine qn ?_
   refine qo 9 (some 25) (fun K hK=>?_)
   have hO:=Kd.R_below HV2.out hb1.out
   rw [← HN.out] at hO
   refine Kd.R_append_step M.k27 (w0:=w) (W:=V1) w.heap.size (by rfl) (.tmp 17) (.tmp 24) 28 27 (.agg #[.bool false,.slice none 0 0,.slice none 0 0]) 56 rfl Tryz.underlying28 J.info27 rfl (by decide) (by decide) (.slice E n cE) (es.take i) (M.rd_T27 es (i:Int)) [.bool (M.rd_T27 es (i:Int)).f0,.slice F1 (M.rd_T27 es (i:Int)).f1.length f1,.slice F2 (M.rd_T27 es (i:Int)).f2.length f2] (fun k=>gO < k) (fun k=>V0.heap.size≤k) rfl rfl HP.out (fun k hk=>⟨by have:=zbL (zbr hv1 hb0.out); omega,fun e=>by have:=Kd.R_lt (Kd.R_below HV2.out hb0.out) k (by rw [← HN.out]; exact e.symm); omega⟩) (fun k hk=>by have:=zbL (zbr hv1 hb1.out); omega) hO (zbm HI.out.be hb1.out) (zbm HI.out.be hb1.out).size (by rw [List.length_take]; omega) ?_
   intro v1 V2 hR hB hG hat
   have hne:∀ b o,wr.heap[b]? = some o→b≤gO→V2.heap[b]? = some o:=fun b o hbo hle=>blk_grown (zbr hbo hb1.out) hG (fun e=>by have:=HV2.out.1 b (by rw [← HN.out]; exact e.symm); omega)
   have hsh:=Kd.R_grown (Kd.R_below HI.out.sh hb1.out) hG (fun k hk e=>by have:=HV2.out.1 k (by rw [← HN.out]; exact e.symm); omega)
   obtain⟨E2,e2,rfl⟩:=Kd.R_slice hR
   have HQ:=Aside0.mk (And.intro hR (And.intro hB (And.intro hsh (And.intro (hne _ _ HI.out.bt (by have:=HGO.out; omega)) (And.intro (hne _ _ HI.out.bz (by have:=HGO.out; omega)) (hne _ _ hv1 (Nat.le_refl _)))))))
   clear hR hB hG hat hne hsh hO
   refine hK.out _ _ ((HS.out _ HQ.out.2.1 HQ.out.2.2.2.2.2 HQ.out.2.2.2.1)) (fun hHeld=>?_)
   clear hK K
   refine qn ?_
   refine qp 10 (some 26) ?_
   refine ql 11 none (fun K hK=>?_)
   have hf3:=zbA HQ.out.2.2.2.2.2 1
   have hc3:V2.cell? ⟨gO,1,none⟩=some (.slice E n cE):=(zbq HQ.out.2.2.2.2.2 1).trans rfl
   refine qx ?_
   refine hK.out _ _ ?_
   clear hK K
   refine done_ (by kernel_rfl) ?_
   clear hHeld hf3 hc3
   go_wp2
   go_roundw
   case rel =>
    refine⟨i+1,by go_num,by omega,⟨⟨⟨E2,e2,?_,?_⟩,Kd.R_far (p:=⟨gO,1,none⟩) HQ.out.2.2.1 (fun k hk=>Nat.ne_of_lt hk) _,zbJ HQ.out.2.2.2.1 (by have:=HGO.out; show w.heap.size≠gO; omega) _,zbJ HQ.out.2.2.2.2.1 (by have:=HGO.out; show w.heap.size+1≠gO; omega) _,zbB HQ.out.2.1 (by have:=HGO.out; show w.heap.size≤gO; omega)⟩⟩⟩
    ·
     have hl:(es.take (i+1)).length=i+1:=by rw [List.length_take]; omega
     rw [hl]
     exact zbF (cs:=#[.slice S1 sh.length k1,.slice E n cE]) HQ.out.2.2.2.2.2 1 _ rfl
    ·
     rw [take_succ_rd hlt]
     exact Kd.R_far (p:=⟨gO,1,none⟩) HQ.out.1 (fun k hk=>Nat.ne_of_gt hk) _
   case measure=>simp [intOf]; omega
  ·
   have hie:es.take i=es:=List.take_of_length_le (by omega)
   rw [hie] at hv1 hv2
   have c1:wr.cell? ⟨w.heap.size,1,none⟩=some (.slice B es.length d):=(zbq HI.out.bt 1).trans rfl
   have o0:wr.cell? ⟨gO,0,none⟩=some (.slice S1 sh.length k1):=(zbq hv1 0).trans rfl
   have o1:wr.cell? ⟨gO,1,none⟩=some (.slice E es.length cE):=(zbq hv1 1).trans rfl
   have z0:wr.cell? ⟨w.heap.size+1,0,none⟩=some (.slice none 0 0):=(zbq HI.out.bz 0).trans rfl
   have z1:wr.cell? ⟨w.heap.size+1,1,none⟩=some (.slice none 0 0):=(zbq HI.out.bz 1).trans rfl
   have y0:=zbA HI.out.bz 0
   have y1:=zbA HI.out.bz 1
   have HV2:=Aside0.mk hv2
   clear hv1 hv2 hie
   go_wp2
   have hn1:=zbF (cs':=#[.slice S1 sh.length k1,.slice E es.length cE]) (zbF (cs':=#[.slice S1 sh.length k1,.slice none 0 0]) HI.out.bz 0 (.slice S1 sh.length k1) rfl) 1 (.slice E es.length cE) rfl
   refine bodyPost_ret (results_cell_row rfl _ _ (w.heap.size+1) 30 _ (0,0) _ rfl hn1 hu67 rfl (by kernel_rfl)) rfl ?_
   have hgo:=HGO.out
   have hsh:Kd.R (Kd.int .i64) 3 wr w.heap.size (fun k=>k≠w.heap.size+1) (.slice S1 sh.length k1) sh:=Kd.R_mono (Kd.R_types HI.out.sh HI.out.bz (by decide)) (fun k hk=>hk.2)
   exact⟨S1,k1,E,cE,rfl,Kd.R_mono (Kd.R_far (p:=⟨w.heap.size+1,1,none⟩) (Kd.R_far (p:=⟨w.heap.size+1,0,none⟩) hsh (fun k hk=>hk) _) (fun k hk=>hk) _) (fun _ _=>trivial),
    Kd.R_mono (Kd.R_far (p:=⟨w.heap.size+1,1,none⟩) (Kd.R_far (p:=⟨w.heap.size+1,0,none⟩) HV2.out (fun k hk=>by show k≠w.heap.size+1; omega) _) (fun k hk=>by show k≠w.heap.size+1; omega) _) (fun _ _=>trivial),
    zbB (zbB HI.out.be (by show w.heap.size≤w.heap.size+1; omega)) (by show w.heap.size≤w.heap.size+1; omega)⟩
end Go.Proofs.YtehghijlchpeaaaGreat.Nat1
end
section
namespace Go.Proofs.YtehghijlchpeaaaGreat.Nat1
open Go.RowKit YtehghijlchpeaaaGreatW.PrintWords YtehghijlchpeaaaGreatW.PrintLast YtehghijlchpeaaaGreatW.PrintMore L Nt Ev
theorem makeF_n (A:Option Addr) (c:Nat) (sh:List Int) (B:Option Addr) (d:Nat) (es:List M.S27) (w:World) (hr1:Kd.C (Kd.int .i64) w A sh.length sh) (hc1:sh.length≤c) (hr2:Kd.C M.k27 w B es.length es) (hc2:es.length≤d) (hne:fitV sh es.length≠0) :
  Calls Tryz.prog 29 #[.slice A sh.length c,.slice B es.length d] w fun e w'=>e=.returned (.tuple #[.agg #[.slice none 0 0,.slice none 0 0],.int .i64 (fitV sh es.length)])∧Below w.heap.size w w':=by
 have hu67:=Tryz.underlying30
 have HFIT:=Aside0.mk (fun (W:World) (hb:Below w.heap.size w W)=>by
  obtain⟨k,hk⟩:=fits_ev sh es
  exact M.tensor_fits.calls k A c sh B d es _ W (Kd.C_below hr1 hb) hc1 (Kd.C_below hr2 hb) hc2 (hk k (Nat.le_refl _)))
 generalize fitV sh es.length=f at HFIT hne ⊢
 clear hr1 hr2
 go_enter Tryz.func29,Tryz.ntmps29
 go_wp2_with fail
 have hx0:=zbt (zbI w (.cells #[.slice none 0 0,.slice none 0 0] 30)) (.cells #[.slice A sh.length c,.slice B es.length d] 30)
 have hbw:Below w.heap.size w ((w.alloc (.cells #[.slice none 0 0,.slice none 0 0] 30)).alloc (.cells #[.slice A sh.length c,.slice B es.length d] 30)):=zbn (zbn (Below.refl _ _) _) _
 generalize (w.alloc (.cells #[.slice none 0 0,.slice none 0 0] 30)).alloc (.cells #[.slice A sh.length c,.slice B es.length d] 30)=W0 at hx0 hbw ⊢
 refine(HFIT.out W0 hbw).mono ?_
 rintro e W1 ⟨rfl,hB⟩
 replace hx0:=zbr hx0 hB
 replace hbw:=zbm hbw hB
 have z0:W1.cell? ⟨w.heap.size,0,none⟩=some (.slice none 0 0):=(zbq hx0 0).trans rfl
 have z1:W1.cell? ⟨w.heap.size,1,none⟩=some (.slice none 0 0):=(zbq hx0 1).trans rfl
 have y0:=zbA hx0 0
 have y1:=zbA hx0 1
 have HX:=Aside0.mk (And.intro hx0 hbw)
 have hf1:(f == 0)=false:=by rw [beq_eq_false_iff_ne]; exact hne
 have hf2:(f != 0)=true:=by rw [bne_iff_ne]; exact hne
 clear hx0 hbw hB HFIT
 go_wp2
 have hn1:=zbF (cs':=#[.slice none 0 0,.slice none 0 0]) (zbF (cs':=#[.slice none 0 0,.slice none 0 0]) HX.out.1 0 (.slice none 0 0) rfl) 1 (.slice none 0 0) rfl
 refine bodyPost_ret (zcm rfl _ _ w.heap.size 30 _ (0,0) _ rfl hn1 hu67 rfl (by kernel_rfl)) rfl ?_
 exact⟨rfl,zbB (zbB HX.out.2 (Nat.le_refl _)) (Nat.le_refl _)⟩
end Go.Proofs.YtehghijlchpeaaaGreat.Nat1
end
section
namespace Go.Proofs.YtehghijlchpeaaaGreat.Ev
open Go.RowKit YtehghijlchpeaaaGreatW.PrintWords YtehghijlchpeaaaGreatW.PrintLast YtehghijlchpeaaaGreatW.PrintMore L Nt Nat1
theorem eqS_loop {l:List Int} (hl:l.length≤4611686018427387904) (n:Nat):∀ i,i+n=l.length→Ev (fun k=>M.api_Shape_int.l0 k l l (l.length:Int) (i:Int)) true:=by
 induction n with
 | zero =>
  intro i hi
  refine Ev.succ (Ev.congr (Ev.some _) (fun k=>?_))
  rw [M.api_Shape_int.l0,if_neg (by omega)]
 | succ n ih =>
  intro i hi
  refine Ev.succ (Ev.congr (ih (i+1) (by omega)) (fun k=>?_))
  rw [M.api_Shape_int.l0,if_pos (by omega),if_pos (by omega),if_pos (by omega),if_pos (by omega),if_pos rfl,w_succ (by omega)]
theorem eqS_ev {l:List Int} (hl:l.length≤4611686018427387904):Ev (fun k=>M.api_Shape_int.f k l l) true:=by
 refine Ev.congr (eqS_loop hl l.length 0 (by omega)) (fun k=>?_)
 rw [M.api_Shape_int.f,if_pos rfl]
 rfl
end Go.Proofs.YtehghijlchpeaaaGreat.Ev
namespace Go.Proofs.YtehghijlchpeaaaGreat.Nat1
open Go.RowKit YtehghijlchpeaaaGreatW.PrintWords YtehghijlchpeaaaGreatW.PrintLast YtehghijlchpeaaaGreatW.PrintMore L Nt Ev
def dotP (es fs:List M.S27):Nat→QN
 | 0=>(false,0,1)
 | i+1=>addQ (dotP es fs i) (mulQ (eN (M.rd_T27 es (i:Int))) (eN (M.rd_T27 fs (i:Int))))
theorem lim_dotP {es fs:List M.S27} {L:Nat} (h1:∀ i:Nat,lim L (eN (M.rd_T27 es (i:Int)))) (h2:∀ i:Nat,lim L (eN (M.rd_T27 fs (i:Int)))) (hL:0 < L):∀ i,lim (1+i*(L+L+1)) (dotP es fs i)
 | 0=>⟨show 0 < B32 ^ _ from Nat.pow_pos (by decide),show 1 < B32 ^ (1+0*(L+L+1)) by rw [Nat.zero_mul]; decide⟩
 | i+1=>by
  have h:=lim_add (lim_dotP h1 h2 hL i) (lim_mul (h1 i) (h2 i) (by omega))
  have e:1+i*(L+L+1)+(L+L)+1=1+(i+1)*(L+L+1):=by rw [Nat.succ_mul]; omega
  rw [e] at h
  exact h
end Go.Proofs.YtehghijlchpeaaaGreat.Nat1
end
section
namespace Go.Proofs.YtehghijlchpeaaaGreat.Nat1
open Go.RowKit Go.Shelf YtehghijlchpeaaaGreatW.PrintWords YtehghijlchpeaaaGreatW.PrintLast YtehghijlchpeaaaGreatW.PrintMore L Nt Ev Rd
attribute [local go_sem] Oper.semAt_some
def dotF (es fs:List M.S27) (a:QN) (i:Nat):QN:=addQ a (mulQ (eN (M.rd_T27 es (i:Int))) (eN (M.rd_T27 fs (i:Int))))
def dotI (es fs:List M.S27) (l:List Nat):QN:=l.foldl (dotF es fs) (false,0,1)
theorem dotI_range (es fs:List M.S27):∀ n,dotI es fs (List.range n)=dotP es fs n
 | 0=>rfl
 | n+1=>by
  rw [List.range_succ,dotI,List.foldl_append]
  show dotF es fs (dotI es fs (List.range n)) n=_
  rw [dotI_range es fs n]
  rfl
theorem dotI_snoc (es fs:List M.S27) (l:List Nat) (i:Nat):dotI es fs (l++[i])=addQ (dotI es fs l) (mulQ (eN (M.rd_T27 es (i:Int))) (eN (M.rd_T27 fs (i:Int)))):=by
 rw [dotI,List.foldl_append]
 rfl
theorem red_foldl (es fs:List M.S27):∀ (l:List Nat) (a:QN),red a→red (l.foldl (dotF es fs) a)
 | [],_,h=>h
 | _ :: l,_,_=>red_foldl es fs l _ (red_add _ _)
theorem red_dotI (es fs:List M.S27) (l:List Nat):red (dotI es fs l):=red_foldl es fs l _ (show red ((false,0,1):QN) from ⟨by decide,by decide,by decide⟩)
theorem lim_foldl {es fs:List M.S27} {L:Nat} (h1:∀ i:Nat,lim L (eN (M.rd_T27 es (i:Int)))) (h2:∀ i:Nat,lim L (eN (M.rd_T27 fs (i:Int)))) (hL:0 < L):∀ (l:List Nat) (a:QN) (k:Nat),lim k a→lim (k+l.length*(L+L+1)) (l.foldl (dotF es fs) a)
 | [],a,k,h=>by rw [List.length_nil,Nat.zero_mul]; exact h
 | x :: l,a,k,h=>by
  have h3:=lim_foldl h1 h2 hL l _ _ (lim_add h (lim_mul (h1 x) (h2 x) (by omega)))
  have e:k+(L+L)+1+l.length*(L+L+1)=k+(x :: l).length*(L+L+1):=by rw [List.length_cons,Nat.succ_mul]; omega
  rw [e] at h3
  exact h3
theorem lim_dotI {es fs:List M.S27} {L:Nat} (h1:∀ i:Nat,lim L (eN (M.rd_T27 es (i:Int)))) (h2:∀ i:Nat,lim L (eN (M.rd_T27 fs (i:Int)))) (hL:0 < L) (l:List Nat):lim (1+l.length*(L+L+1)) (dotI es fs l) :=
 lim_foldl h1 h2 hL l _ 1 ⟨by decide,by decide⟩
theorem lim_eN {es:List M.S27} {L:Nat} (hL:0 < L) (h:∀ x∈es,eOk x∧x.f1.length≤L∧x.f2.length≤L) (i:Nat):lim L (eN (M.rd_T27 es (i:Int))):=by
 have key:eOk (M.rd_T27 es (i:Int))∧(M.rd_T27 es (i:Int)).f1.length≤L∧(M.rd_T27 es (i:Int)).f2.length≤L:=by
  unfold M.rd_T27
  rw [Int.toNat_natCast,List.getD_eq_getElem?_getD]
  rcases Nat.lt_or_ge i es.length with hi | hi
  ·
   rw [List.getElem?_eq_getElem hi]
   exact h _ (List.getElem_mem hi)
  ·
   rw [List.getElem?_eq_none hi]
   exact⟨⟨okS_nil,okS_nil⟩,Nat.zero_le _,Nat.zero_le _⟩
 exact lim_nrm (Nat.lt_of_lt_of_le (val_lt key.1.1.1) (Nat.pow_le_pow_right (by decide) key.2.1)) (Nat.lt_of_lt_of_le (val_lt key.1.2.1) (Nat.pow_le_pow_right (by decide) key.2.2)) hL
theorem RT.grown {w w':World} {b:Nat} {v:Value} {r:QN} {row:Option Nat} (h:RT w b v r) (hg:w.grownBy w' row) (hr:∀ k,row=some k→∃ o:Obj,w.heap[k]? = some o∧o.isCells=false):RT w' b v r:=by
 obtain⟨v1,v2,rfl,h1,h2⟩:=h
 have key:∀ (v:Value) (l:List Int),Kd.R (Kd.int .u32) 81 w b (fun _=>True) v l→∀ k,row=some k→some k≠v.ownBlock:=by
  intro v l h k e e2
  obtain⟨cells,hc⟩:=Kd.R_typed h k e2.symm
  obtain⟨o,ho,hn⟩:=hr k e
  rw [hc] at ho
  cases ho
  cases hn
 exact⟨v1,v2,rfl,Kd.R_grown2 h1 rfl hg (key _ _ h1),Kd.R_grown2 h2 rfl hg (key _ _ h2)⟩
structure DBx (w:World) (A B A' B':Value) (W:World):Prop where
 b0:W.heap[w.heap.size]? = some (.cells #[A,B] 30 (0,0))
 b1:W.heap[w.heap.size+1]? = some (.cells #[A',B'] 30 (0,0))
 b2:W.heap[w.heap.size+1+1]? = some (.cells #[.bool false,.slice none 0 0,.slice none 0 0] 27 (0,0))
 b3:W.heap[w.heap.size+1+1+1]? = some (.cells #[A,B,A',B'] 30 (0,0))
 be:Below w.heap.size w W
theorem DBx.below {w W W':World} {A B A' B':Value} (h:DBx w A B A' B' W) (hb:Below W.heap.size W W'):DBx w A B A' B' W' :=
 ⟨zbr h.b0 hb,zbr h.b1 hb,zbr h.b2 hb,zbr h.b3 hb,zbm h.be hb⟩
theorem DBx.alloc {w W:World} {A B A' B':Value} (h:DBx w A B A' B' W) (o:Obj):DBx w A B A' B' (W.alloc o):=h.below (zbn (Below.refl _ _) _)
theorem keeps3 (W:World) (g:Nat) (a b c:Value):KeepsOthers W (store3 W g a b c):=((KeepsOthers.setCell _ _ _).trans (KeepsOthers.setCell _ _ _)).trans (KeepsOthers.setCell _ _ _)
theorem below3 {n:Nat} {W V:World} (h:Below n W V) {g:Nat} (hg:n≤g) (a b c:Value):Below n W (store3 V g a b c):=((h.setCell (p:=⟨g,0,none⟩) hg a).setCell (p:=⟨g,1,none⟩) hg b).setCell (p:=⟨g,2,none⟩) hg c
theorem DBx.store3 {w W:World} {A B A' B':Value} (h:DBx w A B A' B' W) {g:Nat} (hg:w.heap.size+1+1+1 < g) (a b c:Value):DBx w A B A' B' (store3 W g a b c) :=
 ⟨(zb8 (by omega) a b c).trans h.b0,(zb8 (by omega) a b c).trans h.b1,(zb8 (by omega) a b c).trans h.b2,(zb8 (by omega) a b c).trans h.b3,zbN h.be (by omega) a b c⟩
theorem blk_own {W W':World} {b:Nat} {cs:Array Value} {t:Nat} {row:Option Nat} (h:W.heap[b]? = some (.cells cs t (0,0))) (hg:W.grownBy W' row) (hr:∀ k,row=some k→∃ o:Obj,W.heap[k]? = some o∧o.isCells=false):W'.heap[b]? = some (.cells cs t (0,0)) :=
 (hg.block _ (lt_of_block h) (fun e=>by
  obtain⟨o,ho,hc⟩:=hr b e.symm
  rw [h] at ho
  cases ho
  cases hc)).trans h
def SUM (w:World) (gs:Nat) (X:QN) (W:World):Prop:=∃ F1 f1 F2 f2,W.heap[gs]? = some (.cells #[.bool X.1,.slice F1 (dg B32 X.2.1).length f1,.slice F2 (dg B32 X.2.2).length f2] 27 (0,0))∧RT W w.heap.size (.agg #[.bool X.1,.slice F1 (dg B32 X.2.1).length f1,.slice F2 (dg B32 X.2.2).length f2]) X
theorem dot_n (A:Option Addr) (c:Nat) (sh:List Int) (B:Option Addr) (d:Nat) (es:List M.S27) (A':Option Addr) (c':Nat) (B':Option Addr) (d':Nat) (fs:List M.S27) (L:Nat) (w:World) (hr1:Kd.C (Kd.int .i64) w A sh.length sh) (hc1:sh.length≤c) (hr2:Kd.C M.k27 w B es.length es) (hc2:es.length≤d) (hr3:Kd.C (Kd.int .i64) w A' sh.length sh) (hc3:sh.length≤c') (hr4:Kd.C M.k27 w B' fs.length fs) (hc4:fs.length≤d')
  (hlen:es.length≤1024) (hle:fs.length=es.length) (hL0:0 < L) (hL1:L≤33554432) (hok:∀ x∈es,eOk x∧x.f1.length≤L∧x.f2.length≤L) (hok':∀ x∈fs,eOk x∧x.f1.length≤L∧x.f2.length≤L) (hm1:tmayV sh es=0) (hm2:tmayV sh fs=0) (hls:sh.length≤4611686018427387904) :
  Calls Tryz.prog 37 #[.agg #[.slice A sh.length c,.slice B es.length d],.agg #[.slice A' sh.length c',.slice B' fs.length d']] w (RTE w (dotP es fs es.length) 0):=by
 have hu67:=Tryz.underlying30
 have hu25:=Tryz.underlying27
 have HMA:=Aside0.mk (fun (W:World) (hb:Below w.heap.size w W)=>tmay_n A c sh B d es W (Kd.C_below hr1 hb) hc1 (Kd.C_below hr2 hb) hc2 (Nat.le_trans hlen (by decide)) (fun x hx=>(hok x hx).1))
 have HMB:=Aside0.mk (fun (W:World) (hb:Below w.heap.size w W)=>tmay_n A' c' sh B' d' fs W (Kd.C_below hr3 hb) hc3 (Kd.C_below hr4 hb) hc4 (by rw [hle]; exact Nat.le_trans hlen (by decide)) (fun x hx=>(hok' x hx).1))
 have HEQ:=Aside0.mk (fun (W:World) (hb:Below w.heap.size w W)=>by
  obtain⟨k,hk⟩:=eqS_ev (l:=sh) hls
  exact M.api_Shape_int.calls k A c sh A' c' sh _ W (Kd.C_below hr1 hb) hc1 (Kd.C_below hr3 hb) hc3 (hk k (Nat.le_refl _)))
 rw [hm1] at HMA
 rw [hm2] at HMB
 have HQ:Aside0 (∀ pre:List Nat,pre.length≤es.length→okQ (dotI es fs pre)):=⟨fun pre hp=>lim_ok (lim_dotI (lim_eN hL0 hok) (lim_eN hL0 hok') hL0 pre) (by
  have h1:pre.length*(L+L+1)≤1024*(33554432+33554432+1):=Nat.mul_le_mul (by omega) (by omega)
  omega)⟩
 have HQM:Aside0 (∀ i:Nat,okQ (mulQ (eN (M.rd_T27 es (i:Int))) (eN (M.rd_T27 fs (i:Int))))):=⟨fun i=>lim_ok (lim_mul (lim_eN hL0 hok i) (lim_eN hL0 hok' i) (by omega)) (by omega)⟩
 obtain⟨ev,hev,hec⟩:=evs hr2
 have HEV:=Aside0.mk hev
 have HEC:=Aside0.mk hec
 have HR4:=Aside0.mk hr4
 have HOK:=Aside0.mk (fun i:Nat=>rd_ok (fun x hx=>(hok x hx).1) i)
 have HOK':=Aside0.mk (fun i:Nat=>rd_ok (fun x hx=>(hok' x hx).1) i)
 have HLE:=Aside0.mk hle
 clear hr1 hr2 hr3 hr4 hok hok' hev hec hL0 hL1 hm1 hm2 hls hle
 refine(callsIn_wide (n:=3)).1 ?_
 refine callsIn_of_wp_marks Tryz.func37 rfl trivial ?_ rfl
 simp only [Tryz.ntmps37,List.size_toArray,List.length_cons,List.length_nil,Nat.reduceAdd,Nat.reduceSub,Array.replicate_succ,Array.replicate_zero,List.push_toArray,List.append_toArray,List.nil_append,List.cons_append]
 gi_wp2_with fail
 have hx0:=zbt (zbt (zbt (zbI w (.cells #[.slice A sh.length c,.slice B es.length d] 30)) (.cells #[.slice A' sh.length c',.slice B' fs.length d'] 30)) (.cells #[.bool false,.slice none 0 0,.slice none 0 0] 27)) (.cells #[.slice A sh.length c,.slice B es.length d,.slice A' sh.length c',.slice B' fs.length d'] 30)
 have hx1:=zbt (zbt (zbI (w.alloc (.cells #[.slice A sh.length c,.slice B es.length d] 30)) (.cells #[.slice A' sh.length c',.slice B' fs.length d'] 30)) (.cells #[.bool false,.slice none 0 0,.slice none 0 0] 27)) (.cells #[.slice A sh.length c,.slice B es.length d,.slice A' sh.length c',.slice B' fs.length d'] 30)
 have hx2:=zbt (zbI ((w.alloc (.cells #[.slice A sh.length c,.slice B es.length d] 30)).alloc (.cells #[.slice A' sh.length c',.slice B' fs.length d'] 30)) (.cells #[.bool false,.slice none 0 0,.slice none 0 0] 27)) (.cells #[.slice A sh.length c,.slice B es.length d,.slice A' sh.length c',.slice B' fs.length d'] 30)
 have hx3:=zbI (((w.alloc (.cells #[.slice A sh.length c,.slice B es.length d] 30)).alloc (.cells #[.slice A' sh.length c',.slice B' fs.length d'] 30)).alloc (.cells #[.bool false,.slice none 0 0,.slice none 0 0] 27)) (.cells #[.slice A sh.length c,.slice B es.length d,.slice A' sh.length c',.slice B' fs.length d'] 30)
 have hbw:Below w.heap.size w ((((w.alloc (.cells #[.slice A sh.length c,.slice B es.length d] 30)).alloc (.cells #[.slice A' sh.length c',.slice B' fs.length d'] 30)).alloc (.cells #[.bool false,.slice none 0 0,.slice none 0 0] 27)).alloc (.cells #[.slice A sh.length c,.slice B es.length d,.slice A' sh.length c',.slice B' fs.length d'] 30)):=zbn (zbn (zbn (zbn (Below.refl _ _) _) _) _) _
 rw [show (w.alloc (.cells #[.slice A sh.length c,.slice B es.length d] 30)).heap.size=w.heap.size+1 by simp] at hx1
 rw [show ((w.alloc (.cells #[.slice A sh.length c,.slice B es.length d] 30)).alloc (.cells #[.slice A' sh.length c',.slice B' fs.length d'] 30)).heap.size=w.heap.size+1+1 by simp] at hx2
 rw [show (((w.alloc (.cells #[.slice A sh.length c,.slice B es.length d] 30)).alloc (.cells #[.slice A' sh.length c',.slice B' fs.length d'] 30)).alloc (.cells #[.bool false,.slice none 0 0,.slice none 0 0] 27)).heap.size=w.heap.size+1+1+1 by simp] at hx3
 generalize ((((w.alloc (.cells #[.slice A sh.length c,.slice B es.length d] 30)).alloc (.cells #[.slice A' sh.length c',.slice B' fs.length d'] 30)).alloc (.cells #[.bool false,.slice none 0 0,.slice none 0 0] 27)).alloc (.cells #[.slice A sh.length c,.slice B es.length d,.slice A' sh.length c',.slice B' fs.length d'] 30))=W0 at hx0 hx1 hx2 hx3 hbw ⊢
 have HX0:=Aside0.mk (show DBx w (.slice A sh.length c) (.slice B es.length d) (.slice A' sh.length c') (.slice B' fs.length d') W0 from ⟨hx0,hx1,hx2,hx3,hbw⟩)
 clear hx0 hx1 hx2 hx3 hbw
 gi_loopw [16] (fun iv wr=>∃ k:Nat,k≤2∧iv=.int .i64 k∧Aside0 (DBx w (.slice A sh.length c) (.slice B es.length d) (.slice A' sh.length c') (.slice B' fs.length d') wr)) (fun iv _=>2-(intOf iv).toNat)
 case atStart=>exact⟨0,by omega,rfl,HX0⟩
 case round =>
  obtain⟨k,hk,rfl,HI⟩:=hrel
  obtain rfl | rfl | rfl:k=0∨k=1∨k=2:=by omega
  ·
   have c0:wr.cell? ⟨w.heap.size+1+1+1,0,none⟩=some (.slice A sh.length c):=(zbq HI.out.b3 0).trans rfl
   have c1:wr.cell? ⟨w.heap.size+1+1+1,1,none⟩=some (.slice B es.length d):=(zbq HI.out.b3 1).trans rfl
   gi_wp2_with fail
   clear c0 c1
   refine⟨trivial,(callsIn_wide.2 (HMA.out _ (zbn HI.out.be _))).mono ?_⟩
   rintro e W1 ⟨rfl,hB⟩
   have HI1:=Aside0.mk ((HI.out.alloc (.cells #[.slice A sh.length c,.slice B es.length d] 30)).below hB)
   clear hB
   gi_wp2
   go_roundw
   case rel=>exact⟨1,by omega,rfl,HI1⟩
   case measure=>simp [intOf]
  ·
   have c0:wr.cell? ⟨w.heap.size+1+1+1,2,none⟩=some (.slice A' sh.length c'):=(zbq HI.out.b3 2).trans rfl
   have c1:wr.cell? ⟨w.heap.size+1+1+1,3,none⟩=some (.slice B' fs.length d'):=(zbq HI.out.b3 3).trans rfl
   gi_wp2_with fail
   clear c0 c1
   refine⟨trivial,(callsIn_wide.2 (HMB.out _ (zbn HI.out.be _))).mono ?_⟩
   rintro e W1 ⟨rfl,hB⟩
   have HI1:=Aside0.mk ((HI.out.alloc (.cells #[.slice A' sh.length c',.slice B' fs.length d'] 30)).below hB)
   clear hB
   gi_wp2
   go_roundw
   case rel=>exact⟨2,by omega,rfl,HI1⟩
   case measure=>simp [intOf]
  ·
   have c0:wr.cell? ⟨w.heap.size,0,none⟩=some (.slice A sh.length c):=(zbq HI.out.b0 0).trans rfl
   have c1:wr.cell? ⟨w.heap.size+1,0,none⟩=some (.slice A' sh.length c'):=(zbq HI.out.b1 0).trans rfl
   gi_wp2_with fail
   clear c0 c1
   refine⟨trivial,(callsIn_wide.2 (HEQ.out _ HI.out.be)).mono ?_⟩
   rintro e W1 ⟨rfl,hB⟩
   have hB2:Below wr.heap.size wr W1:=by obtain⟨m,rfl⟩:=hB.out; exact zbo (Below.refl _ _) m
   have HI1:=Aside0.mk (HI.out.below hB2)
   clear hB hB2 HI
   gi_wp2_with fail
   refine⟨trivial,(callsIn_wide.2 (int_n W1 (by decide) (by decide))).mono ?_⟩
   rintro e W2 ⟨v,rfl,hR,hB⟩
   rw [show ((decide ((0:Int) < 0),(0:Int).natAbs,1):QN)=(false,0,1) from rfl] at hR
   obtain⟨D1,m1,D2,m2,hv,-,-⟩:=hR.args
   have hv:v=.agg #[.bool false,.slice D1 (dg B32 0).length m1,.slice D2 (dg B32 1).length m2]:=hv
   subst hv
   have HI2:=Aside0.mk ((HI1.out.below hB).alloc (.cells #[.bool false,.slice D1 (dg B32 0).length m1,.slice D2 (dg B32 1).length m2] 27))
   replace hR:=(hR.lower HI1.out.be.size).below (zbn (Below.refl _ _) (.cells #[.bool false,.slice D1 (dg B32 0).length m1,.slice D2 (dg B32 1).length m2] 27))
   have hs:=zbI W2 (.cells #[.bool false,.slice D1 (dg B32 0).length m1,.slice D2 (dg B32 1).length m2] 27)
   have hsz:=zbL (zbr HI1.out.b3 hB)
   have HS:=Aside0.mk (And.intro hR (And.intro hs hsz))
   have c0:=(zbq HI2.out.b0 0).trans rfl
   have c1:=(zbq HI2.out.b0 1).trans rfl
   have c0:(W2.alloc (.cells #[.bool false,.slice D1 (dg B32 0).length m1,.slice D2 (dg B32 1).length m2] 27)).cell? ⟨w.heap.size,0,none⟩=some (.slice A sh.length c):=c0
   have c1:(W2.alloc (.cells #[.bool false,.slice D1 (dg B32 0).length m1,.slice D2 (dg B32 1).length m2] 27)).cell? ⟨w.heap.size,1,none⟩=some (.slice B es.length d):=c1
   clear hB HI1 hR hs hsz
   gi_wp2_with fail
   clear c0 c1
   generalize hW3:W2.alloc (.cells #[.bool false,.slice D1 (dg B32 0).length m1,.slice D2 (dg B32 1).length m2] 27)=W3 at HI2 HS ⊢
   clear hW3
   generalize W2.heap.size=gs at HS ⊢
   refine⟨trivial,(callsIn_wide.2 (of_t W3 A sh.length c B es.length d)).mono ?_⟩
   rintro e W4 ⟨rfl,hB⟩
   have HI3:=Aside0.mk (HI2.out.below hB)
   have HS3:=Aside0.mk (And.intro (HS.out.1.below hB) (And.intro (zbr HS.out.2.1 hB) HS.out.2.2))
   clear hB HI2 HS
   gi_wp2_with fail
   refine⟨trivial,(callsIn_wide.2 (all_calls (.slice A sh.length c) (.slice B es.length d) W4)).mono ?_⟩
   rintro e W5 ⟨rfl,hG,hB⟩
   have HI4:=Aside0.mk (HI3.out.below hB)
   have HS4:=Aside0.mk (And.intro (HS3.out.1.below hB) (And.intro (zbr HS3.out.2.1 hB) HS3.out.2.2))
   have HG:=Aside0.mk hG
   clear hG hB HI3 HS3
   gi_wp2_with fail
   have HSM:=Aside0.mk (show SUM w gs (dotI es fs []) W5 from ⟨D1,m1,D2,m2,HS4.out.2.1,HS4.out.1⟩)
   have HGS:=Aside0.mk HS4.out.2.2
   clear HS4
   refine wpIn_rangeFunc_ownH rfl (by omega) (gf:=134) (lb:=#[.pointer (some ⟨W4.heap.size,0,none⟩)]) rfl trivial (zcr Tryz.func134 (by kernel_rfl) rfl)
    (all_stopsF Fence.wide _ trivial rfl (by omega) W4.heap.size w.heap.size es.length (Nat.le_trans hlen (by decide)) (.slice A sh.length c) B d ev w W5 HI4.out.be (Nat.le_refl _) HI4.out.be.size HEC.out HG.out) belowK_t (belowK_b HI4.out.be.size) (Below.refl _ _) (fun _=>rfl)
    (fun (pre:List (Fin es.length)) W=>DBx w (.slice A sh.length c) (.slice B es.length d) (.slice A' sh.length c') (.slice B' fs.length d') W∧SUM w gs (dotI es fs (pre.map Fin.val)) W)
    (fun _ _ _=>False)
    ?hI ?hIx ?h0
    (fun (x:Fin es.length) a' W=>∃ (b:Nat) (p q r:Value),a'={ tmps:=#[.agg #[.slice A sh.length c,.slice B es.length d],.agg #[.slice A' sh.length c',.slice B' fs.length d'],.pointer (some ⟨w.heap.size,0,none⟩),.pointer (some ⟨w.heap.size+1,0,none⟩),.pointer (some ⟨w.heap.size+1+1,0,none⟩),u5,undef,u7,u8,.pointer (some ⟨gs,0,none⟩),.int .i64 (x.val:Int),.pointer (some ⟨b,0,none⟩),.agg #[.slice A sh.length c,.slice B es.length d],.agg #[.slice A' sh.length c',.slice B' fs.length d'],.slice (some ⟨w.heap.size+1+1+1,0,none⟩) 2 2,.int .i64 2,.int .i64 2,.bool false,u18,u19,u20,u21,u22,u23,u24,u25,u26,.pointer (some ⟨w.heap.size,0,none⟩),.slice A sh.length c,.pointer (some ⟨w.heap.size+1,0,none⟩),.slice A' sh.length c',.bool true,.bool false,undef,.agg #[.bool false,.slice D1 (dg B32 0).length m1,.slice D2 (dg B32 1).length m2],.agg #[.slice A sh.length c,.slice B es.length d],.agg #[.slice A sh.length c,.slice B es.length d],.func (.func 134) #[] #[.pointer (some ⟨W4.heap.size,0,none⟩)],.int .i64 (x.val:Int),ev x.val,undef,undef,undef,undef,undef,undef,undef,undef,undef,undef],defers:=[] }∧ev x.val=.agg #[p,q,r]∧w.heap.size≤b∧b≠gs∧W.heap[b]? = some (.cells #[p,q,r] 27 (0,0)))
    ?hAx ?assign ?body ?done ?stop
   case hI =>
    rintro pre X Y row ⟨h1,F1,f1,F2,f2,h2,h3⟩ hg hr
    have hr2:=fun k e=>(hr k e).2
    exact⟨⟨blk_own h1.b0 hg hr2,blk_own h1.b1 hg hr2,blk_own h1.b2 hg hr2,blk_own h1.b3 hg hr2,ownFrom_below (β:=List (Fin es.length)) (Nat.le_refl _) HI4.out.be.size pre X Y row h1.be hg hr⟩,F1,f1,F2,f2,blk_own h2 hg hr2,h3.grown hg hr2⟩
   case hIx=>exact fun c s W W' row hs hg hr=>hs
   case h0=>exact⟨HI4.out,HSM.out⟩
   case hAx =>
    rintro x a' s X Y row ⟨b,p,q,r,h1,h2,h3,h5,h4⟩ hg hr
    exact⟨b,p,q,r,h1,h2,h3,h5,blk_own h4 hg (fun k e=>(hr k e).2)⟩
   case assign =>
    rintro l pre x W K ⟨hI,hS⟩ hK
    obtain⟨A1,c1,A2,c2,hex,-,-⟩:=HEV.out x.val
    rw [hex]
    have HK2:=Aside0.mk hK
    clear hK
    gi_wp2_with fail
    have hA:=zbn (Below.refl W.heap.size W) (.cells #[.bool (M.rd_T27 es (x.val:Int)).f0,.slice A1 (M.rd_T27 es (x.val:Int)).f1.length c1,.slice A2 (M.rd_T27 es (x.val:Int)).f2.length c2] 27)
    obtain⟨F1,f1,F2,f2,h2,h3⟩:=hS
    exact HK2.out _ _ ((keepsO hA).from _) (hA.mono hI.be.size) ⟨hI.alloc _,F1,f1,F2,f2,zbt h2 _,h3.below hA⟩ ⟨W.heap.size,_,_,_,by rw [hex],hex,hI.be.size,Nat.ne_of_gt (zbL h2),zbI W _⟩
   case body =>
    rintro l pre x a' W hl hr ⟨hI,hS⟩ ⟨b,p,q,r,rfl,hex,hb,hbne,hbk⟩ hlen2
    obtain⟨F1,f1,F2,f2,h2,h3⟩:=hS
    generalize hacc:dotI es fs (pre.map Fin.val)=acc at h2 h3
    have HAC:=Aside0.mk hacc
    have HNS:=Aside0.mk (h3.nr (by rw [← hacc]; exact red_dotI _ _ _) (by rw [← hacc]; exact HQ.out _ (by rw [List.length_map]; omega)))
    obtain⟨ad,A1,c1,A2,c2,e,q0,q1,q2,l1,g1,l2,g2⟩:=M.at_T27 HR4.out (x.val:Int) (by omega) (by have:=HLE.out; have:=x.isLt; omega)
    subst e
    rw [Int.toNat_natCast] at q0 q1 q2
    have HM:=Aside0.mk (fun (W':World) (h:Below W.heap.size W W')=>mul_n (EL.nr ((HEV.out x.val).below (zbm hI.be h)) (HOK.out x.val)) (EL.nr (w:=W') (x:=(M.rd_T27 fs (x.val:Int))) ⟨A1,c1,A2,c2,rfl,⟨Kd.C_below g1 (zbm hI.be h),l1⟩,⟨Kd.C_below g2 (zbm hI.be h),l2⟩⟩ (HOK'.out x.val)))
    rw [hex] at HM
    have HF:Aside0 (∀ w':World,Below W.heap.size W w'→(w'.cell? ⟨gs,0,none⟩=some (.bool acc.1)∧w'.cell? ⟨gs,1,none⟩=some (.slice F1 (dg B32 acc.2.1).length f1)∧w'.cell? ⟨gs,2,none⟩=some (.slice F2 (dg B32 acc.2.2).length f2)∧w'.cell? ⟨b,0,none⟩=some p∧w'.cell? ⟨b,1,none⟩=some q∧w'.cell? ⟨b,2,none⟩=some r∧w'.cell? ⟨w.heap.size+1,1,none⟩=some (.slice (some ad) fs.length d')∧w'.cell? (ad.add (x.val*3))=some (.bool (M.rd_T27 fs (x.val:Int)).f0)∧w'.cell? ⟨(ad.add (x.val*3)).block,(ad.add (x.val*3)).off+1,none⟩=some (.slice A1 (M.rd_T27 fs (x.val:Int)).f1.length c1)∧w'.cell? ⟨(ad.add (x.val*3)).block,(ad.add (x.val*3)).off+2,none⟩=some (.slice A2 (M.rd_T27 fs (x.val:Int)).f2.length c2))∧w'.heap[gs]? = some (.cells #[.bool acc.1,.slice F1 (dg B32 acc.2.1).length f1,.slice F2 (dg B32 acc.2.2).length f2] 27 (0,0))):=⟨fun w' h=>⟨⟨(zbq (zbr h2 h) 0).trans rfl,(zbq (zbr h2 h) 1).trans rfl,(zbq (zbr h2 h) 2).trans rfl,(zbq (zbr hbk h) 0).trans rfl,(zbq (zbr hbk h) 1).trans rfl,(zbq (zbr hbk h) 2).trans rfl,(zbq (zbr hI.b1 h) 1).trans rfl,((zbm hI.be h).cell (World.block_lt_of_cell? w _ q0)).trans q0,((zbm hI.be h).cell (World.block_lt_of_cell? w _ q1)).trans q1,((zbm hI.be h).cell (World.block_lt_of_cell? w _ q2)).trans q2⟩,zbr h2 h⟩⟩
    have HI:=Aside0.mk hI
    have hxl:x.val < fs.length:=by have:=HLE.out; have:=x.isLt; omega
    clear hI h2 h3 hacc hbk hbne hr q0 q1 q2 g1 g2 l1 l2 hlen2
    gi_wp2_with fail
    refine start_round (m:=10) (S:=fun w'=>(w'.cell? ⟨gs,0,none⟩=some (.bool acc.1)∧w'.cell? ⟨gs,1,none⟩=some (.slice F1 (dg B32 acc.2.1).length f1)∧w'.cell? ⟨gs,2,none⟩=some (.slice F2 (dg B32 acc.2.2).length f2)∧w'.cell? ⟨b,0,none⟩=some p∧w'.cell? ⟨b,1,none⟩=some q∧w'.cell? ⟨b,2,none⟩=some r∧w'.cell? ⟨w.heap.size+1,1,none⟩=some (.slice (some ad) fs.length d')∧w'.cell? (ad.add (x.val*3))=some (.bool (M.rd_T27 fs (x.val:Int)).f0)∧w'.cell? ⟨(ad.add (x.val*3)).block,(ad.add (x.val*3)).off+1,none⟩=some (.slice A1 (M.rd_T27 fs (x.val:Int)).f1.length c1)∧w'.cell? ⟨(ad.add (x.val*3)).block,(ad.add (x.val*3)).off+2,none⟩=some (.slice A2 (M.rd_T27 fs (x.val:Int)).f2.length c2))) (ds:=[9]) #[zf,zf,zf,zf,zf,zf,zf,zf,zf,zf] (by kernel_rfl) (by kernel_rfl) (by rintro⟨a,w,h⟩; exact h) rfl rfl ((HF.out _ (zbs (Below.refl _ _))).1) (fun hHeld=>?_)
    have hb0:=Aside0.mk (show Below W.heap.size W W.drew from zbs (Below.refl _ _))
    generalize W.drew=V0 at hb0 hHeld ⊢
    refine qp 2 (some 42) ?_
    refine qp 4 (some 44) ?_
    refine qt 0 (some 40) ?_
    refine qt 1 (some 41) ?_
    refine qt 3 (some 43) ?_
    refine qp 5 (some 45) ?_
    refine qt 6 (some 46) ?_
    refine qo 7 (some 47) (fun K hK=>?_)
    refine qg Tryz.func94 #[.agg #[p,q,r],.agg #[.bool (M.rd_T27 fs (x.val:Int)).f0,.slice A1 (M.rd_T27 fs (x.val:Int)).f1.length c1,.slice A2 (M.rd_T27 fs (x.val:Int)).f2.length c2]] ?_
    refine(HM.out V0 hb0.out).mono ?_
    rintro e V1 ⟨v,rfl,hR,hB⟩
    obtain⟨D3,m3,D4,m4,rfl,-,-⟩:=hR.args
    refine⟨_,rfl,?_⟩
    have hb1:=Aside0.mk (zbm hb0.out hB)
    have HP:=Aside0.mk (hR.nr (nrm_red _ _ _) (HQM.out x.val))
    clear hB hb0 hR
    refine hK.out _ _ ((HF.out _ hb1.out).1) (fun hHeld=>?_)
    clear hK K
    refine qn ?_
    refine qo 8 (some 48) (fun K hK=>?_)
    refine qg Tryz.func93 #[.agg #[.bool acc.1,.slice F1 (dg B32 acc.2.1).length f1,.slice F2 (dg B32 acc.2.2).length f2],.agg #[.bool (mulQ (eN (M.rd_T27 es (x.val:Int))) (eN (M.rd_T27 fs (x.val:Int)))).1,.slice D3 (dg B32 (mulQ (eN (M.rd_T27 es (x.val:Int))) (eN (M.rd_T27 fs (x.val:Int)))).2.1).length m3,.slice D4 (dg B32 (mulQ (eN (M.rd_T27 es (x.val:Int))) (eN (M.rd_T27 fs (x.val:Int)))).2.2).length m4]] ?_
    refine(add_n (HNS.out.below hb1.out) HP.out).mono ?_
    rintro e V2 ⟨v,rfl,hR,hB⟩
    obtain⟨D5,m5,D6,m6,rfl,-,-⟩:=hR.args
    refine⟨_,rfl,?_⟩
    have hb2:=Aside0.mk (zbm hb1.out hB)
    have HT:=Aside0.mk (hR.lower (Nat.le_trans HI.out.be.size hb1.out.size))
    clear hB hb1 hR
    refine hK.out _ _ ((HF.out _ hb2.out).1) (fun hHeld=>?_)
    clear hK K
    refine qn ?_
    refine ql 9 none (fun K hK=>?_)
    obtain⟨⟨k0,k1,k2⟩,j0,j1,j2⟩:=zbH (HF.out _ hb2.out).2
    refine qx ?_
    refine hK.out _ _ ?_
    clear hK K
    refine done_ (by kernel_rfl) ?_
    have hE:dotI es fs ((pre++[x]).map Fin.val)=addQ acc (mulQ (eN (M.rd_T27 es (x.val:Int))) (eN (M.rd_T27 fs (x.val:Int)))):=by
     rw [List.map_append,← HAC.out]
     exact dotI_snoc _ _ _ _
    have hgs:w.heap.size+1+1+1 < gs:=HGS.out
    refine⟨((keepsO hb2.out).trans (keeps3 V2 gs _ _ _)).from _,below3 (hb2.out.mono HI.out.be.size) (by omega) _ _ _,⟨(HI.out.below hb2.out).store3 hgs _ _ _,?_⟩⟩
    rw [hE]
    exact⟨D5,m5,D6,m6,zbM (HF.out _ hb2.out).2 _ _ _,HT.out.store3 (HF.out _ hb2.out).2 _ _ _⟩
   case done =>
    rintro D ys W hD hys ⟨hI,hS⟩ hK
    rw [hys,dotI_range] at hS
    obtain⟨F1,f1,F2,f2,h2,h3⟩:=hS
    obtain⟨⟨z0,z1,z2⟩,z3,z4,z5⟩:=zbH hI.b2
    obtain⟨⟨k0,k1,k2⟩,-⟩:=zbH h2
    have HI:=Aside0.mk (And.intro hI (And.intro h2 h3))
    have HDl:=Aside0.mk (Nat.le_trans HI4.out.be.size hD)
    clear hI h2 h3
    gi_wp2
    have hK':=(keeps3 W (w.heap.size+1+1) (.bool (dotP es fs es.length).1) (.slice F1 (dg B32 (dotP es fs es.length).2.1).length f1) (.slice F2 (dg B32 (dotP es fs es.length).2.2).length f2)).same D _ hK rfl
    have hb2':=zbM HI.out.1.b2 (.bool (dotP es fs es.length).1) (.slice F1 (dg B32 (dotP es fs es.length).2.1).length f1) (.slice F2 (dg B32 (dotP es fs es.length).2.2).length f2)
    refine⟨by simp,.inl ⟨_,_,rfl,run_takeDeferred hK',?_⟩⟩
    have hr2:∀ k,some D=some k→∃ o:Obj,(store3 W (w.heap.size+1+1) (.bool (dotP es fs es.length).1) (.slice F1 (dg B32 (dotP es fs es.length).2.1).length f1) (.slice F2 (dg B32 (dotP es fs es.length).2.2).length f2)).heap[k]? = some o∧o.isCells=false:=fun k e=>by cases e; exact⟨_,hK',rfl⟩
    have hb3:=blk_own hb2' (grownBy_putObj' _ D (.deferred none)) hr2
    refine⟨_,zcm rfl _ _ (w.heap.size+1+1) 27 _ (0,0) _ rfl hb3 Tryz.underlying27 rfl (by kernel_rfl),?_⟩
    exact⟨F1,f1,F2,f2,rfl,(HI.out.2.2.store3 HI.out.1.b2 _ _ _).grown (grownBy_putObj' _ D (.deferred none)) hr2,(zbN HI.out.1.be (by omega) _ _ _).trans (belowK_b (w:=w) (Nat.le_refl _) _ D _ _ HDl.out hK' rfl rfl)⟩
   case stop =>
    rintro D cd pre W hD hpre hF hK
    exact hF.elim
end Go.Proofs.YtehghijlchpeaaaGreat.Nat1
end
section
namespace Go.Proofs.YtehghijlchpeaaaGreat.Nat1
open Go.RowKit YtehghijlchpeaaaGreatW.PrintWords YtehghijlchpeaaaGreatW.PrintLast YtehghijlchpeaaaGreatW.PrintMore L Nt
theorem R_ne {α:Type} {d:Kd α} {e:Nat} {w:World} {base g:Nat} {ok:Nat→Prop} {v:Value} {xs:List α} (h:d.R e w base ok v xs) (hg:g < base) (u:Value) (i:Nat):d.R e (w.setCell ⟨g,i,none⟩ u) base ok v xs :=
 Kd.R_mono (Kd.R_far (p:=⟨g,i,none⟩) (Kd.R_bound h) (fun k hk=>by have:=hk.2.1; show k≠g; omega) u) (fun _ hk=>hk.1)
section
variable {α:Type} {K:Kd α} {T e gO:Nat} {W0 W W' V1 V2:World} {S:Value} {ys:List α} {y:α}
structure AR (K:Kd α) (T e:Nat) (W0:World) (gO:Nat) (S:Value) (ys:List α) (W:World):Prop where
 v:∃ (E:Option Addr) (cE:Nat),W.heap[gO]? = some (.cells #[S,.slice E ys.length cE] T (0,0))∧K.R e W (gO+1) (fun _=>True) (.slice E ys.length cE) ys
 be:Below gO W0 W
theorem AR.lt (h:AR K T e W0 gO S ys W):gO < W.heap.size:=by
 obtain⟨⟨E,cE,h1,_⟩,_⟩:=h
 exact lt_of_block h1
theorem AR.push (h:AR K T e W0 gO S ys W) (hb:Below W.heap.size W V1) {v:Value} (hR:K.R e V2 (gO+1) (fun _=>True) v (ys++[y])) (hB:Below (gO+1) V1 V2):AR K T e W0 gO S (ys++[y]) (V2.setCell ⟨gO,1,none⟩ v):=by
 have hl:=h.lt
 obtain⟨⟨E,cE,h1,h2⟩,h3⟩:=h
 obtain⟨E2,c2,rfl⟩:=Kd.R_slice hR
 have hc:V2.heap[gO]? = some (.cells #[S,.slice E ys.length cE] T (0,0)):=(hB.block gO (by omega)).trans (zbr h1 hb)
 exact⟨⟨E2,c2,zbF (cs:=#[S,.slice E ys.length cE]) hc 1 _ rfl,R_ne hR (Nat.lt_succ_self _) _ _⟩,((h3.trans (hb.mono (Nat.le_of_lt hl))).trans (hB.mono (Nat.le_succ _))).setCell (p:=⟨gO,1,none⟩) (Nat.le_refl gO) _⟩
end
end Go.Proofs.YtehghijlchpeaaaGreat.Nat1
end
section
namespace Go.Proofs.YtehghijlchpeaaaGreat.Ev
open Go.RowKit YtehghijlchpeaaaGreatW.PrintWords YtehghijlchpeaaaGreatW.PrintLast YtehghijlchpeaaaGreatW.PrintMore L Nt Nat1
theorem sameS_loop {a b:List Int} (h:a.length=b.length) (hl:a.length≤4611686018427387904) (n:Nat):∀ i,i+n=a.length→Ev (fun k=>M.fluxionref07_SameShape.l0 k a b (i:Int)) (decide (a.drop i=b.drop i)):=by
 induction n with
 | zero =>
  intro i hi
  rw [List.drop_eq_nil_of_le (by omega),List.drop_eq_nil_of_le (by omega),decide_eq_true rfl]
  refine Ev.succ (Ev.congr (Ev.some _) (fun k=>?_))
  rw [M.fluxionref07_SameShape.l0,if_neg (by omega)]
 | succ n ih =>
  intro i hi
  rw [drop_rd (l:=a) (show i < a.length by omega),drop_rd (l:=b) (show i < b.length by omega)]
  by_cases h1:rd a (i:Int)=rd b (i:Int)
  ·
   rw [show (decide (rd a (i:Int) :: a.drop (i+1)=rd b (i:Int) :: b.drop (i+1)))=decide (a.drop (i+1)=b.drop (i+1)) by rw [decide_eq_decide,h1]; simp]
   refine Ev.succ (Ev.congr (ih (i+1) (by omega)) (fun k=>?_))
   rw [M.fluxionref07_SameShape.l0,if_pos (by omega),if_pos (by omega),if_pos (by omega),if_pos h1,w_succ (by omega)]
  ·
   rw [show (decide (rd a (i:Int) :: a.drop (i+1)=rd b (i:Int) :: b.drop (i+1)))=false by rw [decide_eq_false_iff_not]; intro e; injection e with e _; exact h1 e]
   refine Ev.succ (Ev.congr (Ev.some _) (fun k=>?_))
   rw [M.fluxionref07_SameShape.l0,if_pos (by omega),if_pos (by omega),if_pos (by omega),if_neg h1]
theorem sameS_ev {a b:List Int} (hl:a.length≤4611686018427387904):Ev (fun k=>M.fluxionref07_SameShape.f k a b) (decide (a=b)):=by
 by_cases h:a.length=b.length
 ·
  have:=sameS_loop h hl a.length 0 (by omega)
  rw [List.drop_zero,List.drop_zero] at this
  refine Ev.congr this (fun k=>?_)
  rw [M.fluxionref07_SameShape.f,if_pos (by omega)]
  rfl
 ·
  rw [decide_eq_false (fun e=>h (by rw [e]))]
  refine Ev.congr (Ev.some _) (fun k=>?_)
  rw [M.fluxionref07_SameShape.f,if_neg (by omega)]
end Go.Proofs.YtehghijlchpeaaaGreat.Ev
namespace Go.Proofs.YtehghijlchpeaaaGreat.Nat1
open Go.RowKit YtehghijlchpeaaaGreatW.PrintWords YtehghijlchpeaaaGreatW.PrintLast YtehghijlchpeaaaGreatW.PrintMore L Nt Ev
theorem samesh_n {A:Option Addr} {c:Nat} {a:List Int} {A':Option Addr} {c':Nat} {b:List Int} {w:World} (h1:Kd.C (Kd.int .i64) w A a.length a) (h2:a.length≤c) (h3:Kd.C (Kd.int .i64) w A' b.length b) (h4:b.length≤c') (hl:a.length≤4611686018427387904) :
  Calls Tryz.prog 38 #[.slice A a.length c,.slice A' b.length c'] w fun e w'=>e=.returned (.bool (decide (a=b)))∧Below w.heap.size w w':=by
 obtain⟨k,hk⟩:=sameS_ev (b:=b) hl
 refine(M.fluxionref07_SameShape.calls k A c a A' c' b _ w h1 h2 h3 h4 (hk k (Nat.le_refl _))).mono ?_
 rintro e w' ⟨rfl,hD⟩
 obtain⟨m,rfl⟩:=hD.out
 exact⟨rfl,zbo (Below.refl _ _) m⟩
theorem tmay_all {sh:List Int} {es:List M.S27} (h:tmayV sh es=0):mayS sh=0∧(es.length:Int)=cntS sh∧es.length≤1024∧∀ x∈es,eV x=0:=by
 unfold tmayV at h
 split at h
 ·
  rename_i hf
  have h2:∀ x∈es,eV x=0:=by
   split at h
   ·
    assumption
   ·
    exact absurd h (by decide)
  unfold fitV at hf
  split at hf
  ·
   rename_i hm
   split at hf
   ·
    rename_i hc
    refine⟨hm,hc,?_,h2⟩
    obtain⟨-,-,-,h4⟩:=mayS_zero hm
    rw [cntS,if_pos hm] at hc
    omega
   ·
    exact absurd hf (by decide)
  ·
   rename_i hm
   exact absurd hf hm
 ·
  rename_i hf
  exact absurd h hf
theorem tmay_same {sh:List Int} {es fs:List M.S27} (h1:tmayV sh es=0) (h2:tmayV sh fs=0):fs.length=es.length:=by
 have a:=(tmay_all h1).2.1
 have b:=(tmay_all h2).2.1
 omega
theorem okQ_dot {es fs:List M.S27} {L n:Nat} (hL0:0 < L) (hL:L≤33554432) (h1:∀ x∈es,eOk x∧x.f1.length≤L∧x.f2.length≤L) (h2:∀ x∈fs,eOk x∧x.f1.length≤L∧x.f2.length≤L) (hn:n≤1024):okQ (dotP es fs n) :=
 lim_ok (lim_dotP (lim_eN hL0 h1) (lim_eN hL0 h2) hL0 n) (by
  have h1:n*(L+L+1)≤1024*(33554432+33554432+1):=Nat.mul_le_mul hn (by omega)
  omega)
end Go.Proofs.YtehghijlchpeaaaGreat.Nat1
end
section
namespace Go.Proofs.YtehghijlchpeaaaGreat.Ev
open Go.RowKit YtehghijlchpeaaaGreatW.PrintWords YtehghijlchpeaaaGreatW.PrintLast YtehghijlchpeaaaGreatW.PrintMore L Nt Nat1
theorem eqS2_loop {a b:List Int} (h:a.length=b.length) (hl:a.length≤4611686018427387904) (n:Nat):∀ i,i+n=a.length→Ev (fun k=>M.api_Shape_int.l0 k a b (a.length:Int) (i:Int)) (decide (a.drop i=b.drop i)):=by
 induction n with
 | zero =>
  intro i hi
  rw [List.drop_eq_nil_of_le (by omega),List.drop_eq_nil_of_le (by omega),decide_eq_true rfl]
  refine Ev.succ (Ev.congr (Ev.some _) (fun k=>?_))
  rw [M.api_Shape_int.l0,if_neg (by omega)]
 | succ n ih =>
  intro i hi
  rw [drop_rd (l:=a) (show i < a.length by omega),drop_rd (l:=b) (show i < b.length by omega)]
  by_cases h1:rd a (i:Int)=rd b (i:Int)
  ·
   rw [show (decide (rd a (i:Int) :: a.drop (i+1)=rd b (i:Int) :: b.drop (i+1)))=decide (a.drop (i+1)=b.drop (i+1)) by rw [decide_eq_decide,h1]; simp]
   refine Ev.succ (Ev.congr (ih (i+1) (by omega)) (fun k=>?_))
   rw [M.api_Shape_int.l0,if_pos (by omega),if_pos (by omega),if_pos (by omega),if_pos (by omega),if_pos h1,w_succ (by omega)]
  ·
   rw [show (decide (rd a (i:Int) :: a.drop (i+1)=rd b (i:Int) :: b.drop (i+1)))=false by rw [decide_eq_false_iff_not]; intro e; injection e with e _; exact h1 e]
   refine Ev.succ (Ev.congr (Ev.some _) (fun k=>?_))
   rw [M.api_Shape_int.l0,if_pos (by omega),if_pos (by omega),if_pos (by omega),if_pos (by omega),if_neg h1]
theorem eqS2_ev {a b:List Int} (hl:a.length≤4611686018427387904):Ev (fun k=>M.api_Shape_int.f k a b) (decide (a=b)):=by
 by_cases h:a.length=b.length
 ·
  have:=eqS2_loop h hl a.length 0 (by omega)
  rw [List.drop_zero,List.drop_zero] at this
  refine Ev.congr this (fun k=>?_)
  rw [M.api_Shape_int.f,if_pos (by omega)]
  rfl
 ·
  rw [decide_eq_false (fun e=>h (by rw [e]))]
  refine Ev.congr (Ev.some _) (fun k=>?_)
  rw [M.api_Shape_int.f,if_neg (by omega)]
end Go.Proofs.YtehghijlchpeaaaGreat.Ev
namespace Go.Proofs.YtehghijlchpeaaaGreat.Nat1
open Go.RowKit YtehghijlchpeaaaGreatW.PrintWords YtehghijlchpeaaaGreatW.PrintLast YtehghijlchpeaaaGreatW.PrintMore L Nt Ev
theorem eqsh_n {A:Option Addr} {c:Nat} {a:List Int} {A':Option Addr} {c':Nat} {b:List Int} {w:World} (h1:Kd.C (Kd.int .i64) w A a.length a) (h2:a.length≤c) (h3:Kd.C (Kd.int .i64) w A' b.length b) (h4:b.length≤c') (hl:a.length≤4611686018427387904) :
  Calls Tryz.prog 92 #[.slice A a.length c,.slice A' b.length c'] w fun e w'=>e=.returned (.bool (decide (a=b)))∧Below w.heap.size w w':=by
 obtain⟨k,hk⟩:=eqS2_ev (b:=b) hl
 refine(M.api_Shape_int.calls k A c a A' c' b _ w h1 h2 h3 h4 (hk k (Nat.le_refl _))).mono ?_
 rintro e w' ⟨rfl,hD⟩
 exact⟨rfl,by first | exact hD | (obtain⟨m,rfl⟩:=hD.out; exact zbo (Below.refl _ _) m)⟩
open Classical in
noncomputable def dotE (sa:List Int) (es:List M.S27) (sb:List Int) (fs:List M.S27):Int:=if tmayV sa es=0 then (if tmayV sb fs=0 then (if sa=sb then 0 else 13) else tmayV sb fs) else tmayV sa es
theorem dotF_n (A:Option Addr) (c:Nat) (sh:List Int) (B:Option Addr) (d:Nat) (es:List M.S27) (A':Option Addr) (c':Nat) (sb:List Int) (B':Option Addr) (d':Nat) (fs:List M.S27) (w:World) (hr1:Kd.C (Kd.int .i64) w A sh.length sh) (hc1:sh.length≤c) (hr2:Kd.C M.k27 w B es.length es) (hc2:es.length≤d) (hr3:Kd.C (Kd.int .i64) w A' sb.length sb) (hc3:sb.length≤c') (hr4:Kd.C M.k27 w B' fs.length fs) (hc4:fs.length≤d')
  (hl1:sh.length≤4611686018427387904) (hl2:es.length≤4398046511104) (hl3:fs.length≤4398046511104) (hok:∀ x∈es,eOk x) (hok':∀ x∈fs,eOk x) (hne:dotE sh es sb fs≠0) :
  Calls Tryz.prog 37 #[.agg #[.slice A sh.length c,.slice B es.length d],.agg #[.slice A' sb.length c',.slice B' fs.length d']] w fun e w'=>e=.returned (.tuple #[.agg #[.bool false,.slice none 0 0,.slice none 0 0],.int .i64 (dotE sh es sb fs)])∧Below w.heap.size w w':=by
 have hu67:=Tryz.underlying30
 have hu25:=Tryz.underlying27
 have HMA:=Aside0.mk (fun (W:World) (hb:Below w.heap.size w W)=>tmay_n A c sh B d es W (Kd.C_below hr1 hb) hc1 (Kd.C_below hr2 hb) hc2 hl2 hok)
 have HMB:=Aside0.mk (fun (W:World) (hb:Below w.heap.size w W)=>tmay_n A' c' sb B' d' fs W (Kd.C_below hr3 hb) hc3 (Kd.C_below hr4 hb) hc4 hl3 hok')
 have HEQ:=Aside0.mk (fun (W:World) (hb:Below w.heap.size w W)=>eqsh_n (Kd.C_below hr1 hb) hc1 (Kd.C_below hr3 hb) hc3 hl1)
 obtain⟨va,hva⟩:∃ v,v=tmayV sh es:=⟨_,rfl⟩
 obtain⟨vb,hvb⟩:∃ v,v=tmayV sb fs:=⟨_,rfl⟩
 obtain⟨z,hz⟩:∃ z,z=decide (sh=sb):=⟨_,rfl⟩
 obtain⟨E,hE⟩:∃ E,E=dotE sh es sb fs:=⟨_,rfl⟩
 rw [← hva] at HMA
 rw [← hvb] at HMB
 rw [← hz] at HEQ
 rw [← hE] at hne ⊢
 have HE:=Aside0.mk (show E=if va=0 then (if vb=0 then (if z=true then 0 else 13) else vb) else va by rw [hE,dotE,hva,hvb,hz]; simp only [decide_eq_true_eq])
 have HNE:=Aside0.mk hne
 clear hr1 hr2 hr3 hr4 hok hok' hva hvb hz hE hne
 go_enter Tryz.func37,Tryz.ntmps37
 go_wp2_with fail
 have hx0:=zbt (zbt (zbt (zbI w (.cells #[.slice A sh.length c,.slice B es.length d] 30)) (.cells #[.slice A' sb.length c',.slice B' fs.length d'] 30)) (.cells #[.bool false,.slice none 0 0,.slice none 0 0] 27)) (.cells #[.slice A sh.length c,.slice B es.length d,.slice A' sb.length c',.slice B' fs.length d'] 30)
 have hx1:=zbt (zbt (zbI (w.alloc (.cells #[.slice A sh.length c,.slice B es.length d] 30)) (.cells #[.slice A' sb.length c',.slice B' fs.length d'] 30)) (.cells #[.bool false,.slice none 0 0,.slice none 0 0] 27)) (.cells #[.slice A sh.length c,.slice B es.length d,.slice A' sb.length c',.slice B' fs.length d'] 30)
 rw [show (w.alloc (.cells #[.slice A sh.length c,.slice B es.length d] 30)).heap.size=w.heap.size+1 by simp] at hx1
 have hx2:=zbt (zbI ((w.alloc (.cells #[.slice A sh.length c,.slice B es.length d] 30)).alloc (.cells #[.slice A' sb.length c',.slice B' fs.length d'] 30)) (.cells #[.bool false,.slice none 0 0,.slice none 0 0] 27)) (.cells #[.slice A sh.length c,.slice B es.length d,.slice A' sb.length c',.slice B' fs.length d'] 30)
 rw [show ((w.alloc (.cells #[.slice A sh.length c,.slice B es.length d] 30)).alloc (.cells #[.slice A' sb.length c',.slice B' fs.length d'] 30)).heap.size=w.heap.size+1+1 by simp] at hx2
 have hx3:=zbI (((w.alloc (.cells #[.slice A sh.length c,.slice B es.length d] 30)).alloc (.cells #[.slice A' sb.length c',.slice B' fs.length d'] 30)).alloc (.cells #[.bool false,.slice none 0 0,.slice none 0 0] 27)) (.cells #[.slice A sh.length c,.slice B es.length d,.slice A' sb.length c',.slice B' fs.length d'] 30)
 rw [show (((w.alloc (.cells #[.slice A sh.length c,.slice B es.length d] 30)).alloc (.cells #[.slice A' sb.length c',.slice B' fs.length d'] 30)).alloc (.cells #[.bool false,.slice none 0 0,.slice none 0 0] 27)).heap.size=w.heap.size+1+1+1 by simp] at hx3
 have hbw:Below w.heap.size w ((((w.alloc (.cells #[.slice A sh.length c,.slice B es.length d] 30)).alloc (.cells #[.slice A' sb.length c',.slice B' fs.length d'] 30)).alloc (.cells #[.bool false,.slice none 0 0,.slice none 0 0] 27)).alloc (.cells #[.slice A sh.length c,.slice B es.length d,.slice A' sb.length c',.slice B' fs.length d'] 30)):=zbn (zbn (zbn (zbn (Below.refl _ _) _) _) _) _
 generalize ((((w.alloc (.cells #[.slice A sh.length c,.slice B es.length d] 30)).alloc (.cells #[.slice A' sb.length c',.slice B' fs.length d'] 30)).alloc (.cells #[.bool false,.slice none 0 0,.slice none 0 0] 27)).alloc (.cells #[.slice A sh.length c,.slice B es.length d,.slice A' sb.length c',.slice B' fs.length d'] 30))=W0 at hx0 hx1 hx2 hx3 hbw ⊢
 have HX0:=Aside0.mk (show DBx w (.slice A sh.length c) (.slice B es.length d) (.slice A' sb.length c') (.slice B' fs.length d') W0 from ⟨hx0,hx1,hx2,hx3,hbw⟩)
 clear hx0 hx1 hx2 hx3 hbw
 go_loopw [16] (fun iv wr=>∃ k:Nat,k≤2∧iv=.int .i64 k∧Aside0 (DBx w (.slice A sh.length c) (.slice B es.length d) (.slice A' sb.length c') (.slice B' fs.length d') wr)∧Aside0 ((k=0∨va=0)∧(k≤1∨vb=0))) (fun iv _=>2-(intOf iv).toNat)
 case atStart=>exact⟨0,by omega,rfl,HX0,⟨.inl rfl,.inl (by omega)⟩⟩
 case round =>
  obtain⟨k,hk,rfl,HI,HV⟩:=hrel
  obtain rfl | rfl | rfl:k=0∨k=1∨k=2:=by omega
  ·
   have c0:wr.cell? ⟨w.heap.size+1+1+1,0,none⟩=some (.slice A sh.length c):=(zbq HI.out.b3 0).trans rfl
   have c1:wr.cell? ⟨w.heap.size+1+1+1,1,none⟩=some (.slice B es.length d):=(zbq HI.out.b3 1).trans rfl
   go_wp2_with fail
   clear c0 c1
   refine(HMA.out _ (zbn HI.out.be _)).mono ?_
   rintro e W1 ⟨rfl,hB⟩
   have HI1:=Aside0.mk ((HI.out.alloc (.cells #[.slice A sh.length c,.slice B es.length d] 30)).below hB)
   clear hB
   by_cases h0:va=0
   ·
    have HV2:=Aside0.mk (And.intro HV.out h0)
    rw [h0]
    clear h0
    go_wp2
    go_roundw
    case rel=>exact⟨1,by omega,rfl,HI1,⟨.inr HV2.out.2,.inl (by omega)⟩⟩
    case measure=>simp [intOf]
   ·
    have hf1:(va == 0)=false:=by rw [beq_eq_false_iff_ne]; exact h0
    have hf2:(va != 0)=true:=by rw [bne_iff_ne]; exact h0
    obtain⟨⟨z0,z1,z2⟩,z3,z4,z5⟩:=zbH HI1.out.b2
    have HE2:=Aside0.mk (show E=va by rw [HE.out]; rw [if_neg h0])
    go_wp2
    refine bodyPost_ret (zcm rfl _ _ (w.heap.size+1+1) 27 _ (0,0) _ rfl (zbM HI1.out.b2 _ _ _) hu25 rfl (by kernel_rfl)) rfl ?_
    exact⟨by rw [HE2.out]; rfl,zbN HI1.out.be (by omega) _ _ _⟩
  ·
   have c0:wr.cell? ⟨w.heap.size+1+1+1,2,none⟩=some (.slice A' sb.length c'):=(zbq HI.out.b3 2).trans rfl
   have c1:wr.cell? ⟨w.heap.size+1+1+1,3,none⟩=some (.slice B' fs.length d'):=(zbq HI.out.b3 3).trans rfl
   go_wp2_with fail
   clear c0 c1
   refine(HMB.out _ (zbn HI.out.be _)).mono ?_
   rintro e W1 ⟨rfl,hB⟩
   have HI1:=Aside0.mk ((HI.out.alloc (.cells #[.slice A' sb.length c',.slice B' fs.length d'] 30)).below hB)
   clear hB
   by_cases h0:vb=0
   ·
    have HV2:=Aside0.mk (And.intro HV.out h0)
    rw [h0]
    clear h0
    go_wp2
    go_roundw
    case rel=>exact⟨2,by omega,rfl,HI1,⟨.inr (HV2.out.1.1.resolve_left (by omega)),.inr HV2.out.2⟩⟩
    case measure=>simp [intOf]
   ·
    have hf1:(vb == 0)=false:=by rw [beq_eq_false_iff_ne]; exact h0
    have hf2:(vb != 0)=true:=by rw [bne_iff_ne]; exact h0
    obtain⟨⟨z0,z1,z2⟩,z3,z4,z5⟩:=zbH HI1.out.b2
    have HE2:=Aside0.mk (show E=vb by rw [HE.out]; rw [if_pos (HV.out.1.resolve_left (by omega)),if_neg h0])
    go_wp2
    refine bodyPost_ret (zcm rfl _ _ (w.heap.size+1+1) 27 _ (0,0) _ rfl (zbM HI1.out.b2 _ _ _) hu25 rfl (by kernel_rfl)) rfl ?_
    exact⟨by rw [HE2.out]; rfl,zbN HI1.out.be (by omega) _ _ _⟩
  ·
   have c0:wr.cell? ⟨w.heap.size,0,none⟩=some (.slice A sh.length c):=(zbq HI.out.b0 0).trans rfl
   have c1:wr.cell? ⟨w.heap.size+1,0,none⟩=some (.slice A' sb.length c'):=(zbq HI.out.b1 0).trans rfl
   go_wp2_with fail
   clear c0 c1
   refine(HEQ.out _ HI.out.be).mono ?_
   rintro e W1 ⟨rfl,hB⟩
   have HI1:=Aside0.mk (HI.out.below hB)
   clear hB
   cases z with
   | true=>exact absurd (show E=0 by rw [HE.out,if_pos (HV.out.1.resolve_left (by omega)),if_pos (HV.out.2.resolve_left (by omega)),if_pos rfl]) HNE.out
   | false =>
    obtain⟨⟨z0,z1,z2⟩,z3,z4,z5⟩:=zbH HI1.out.b2
    have HE2:=Aside0.mk (show E=13 by rw [HE.out,if_pos (HV.out.1.resolve_left (by omega)),if_pos (HV.out.2.resolve_left (by omega)),if_neg (by decide)])
    go_wp2
    refine bodyPost_ret (zcm rfl _ _ (w.heap.size+1+1) 27 _ (0,0) _ rfl (zbM HI1.out.b2 _ _ _) hu25 rfl (by kernel_rfl)) rfl ?_
    exact⟨by rw [HE2.out]; rfl,zbN HI1.out.be (by omega) _ _ _⟩
end Go.Proofs.YtehghijlchpeaaaGreat.Nat1
end
section
namespace Go.Proofs.YtehghijlchpeaaaGreat.Nat1
open Go.RowKit Go.Shelf YtehghijlchpeaaaGreatW.PrintWords YtehghijlchpeaaaGreatW.PrintLast YtehghijlchpeaaaGreatW.PrintMore L Nt Ev Rd
attribute [local go_sem] Oper.semAt_some
end Go.Proofs.YtehghijlchpeaaaGreat.Nat1
end
section
namespace Go.Proofs.YtehghijlchpeaaaGreat.Nat1
open Go.RowKit YtehghijlchpeaaaGreatW.PrintWords YtehghijlchpeaaaGreatW.PrintLast YtehghijlchpeaaaGreatW.PrintMore L Nt Ev
theorem append_mixed {P:Program} {t t' e e':TypeId} (ht:P.underlying t=some (.slice e)) (ht':P.underlying t'=some (.slice e')) (ty:TypeId) (args:Array Value) (w:World) :
  (Builtin.append_ #[t,t'] ty args).run P w=(Builtin.append_ #[t,t] ty args).run P w:=by
 unfold Builtin.append_
 simp only [List.getElem?_toArray,List.getElem?_cons_zero,List.getElem?_cons_succ]
 split
 ·
  rename_i h
  injection h with h1 h2
  injection h1 with h1
  subst h1
  simp only [Sem.run_bind,run_underlying ht,Result.andThen]
  split
  ·
   simp only [Sem.run_bind]
   refine congrArg _ (funext fun size=>funext fun w1=>?_)
   simp only [run_underlying ht',run_underlying ht,Result.andThen]
  ·
   rfl
 ·
  rfl
theorem execOp_mixed {P:Program} {o:Oper} {ev:Operand→Value} {W:World} (s x:Operand) (t t' e e':TypeId) (ho:o.op=.call { callee:=.builtin .append,args:=#[s,x],argTypes:=#[t,t'] })
  (ht:P.underlying t=some (.slice e)) (ht':P.underlying t'=some (.slice e')) :
  (execOp ev o).run P W=(execOp ev { o with op:=.call { callee:=.builtin .append,args:=#[s,x],argTypes:=#[t,t] } }).run P W:=by
 obtain⟨d,op,ty,pos,af,gd⟩:=o
 simp only at ho
 subst ho
 simp [execOp,resolve,invoke,builtin,append_mixed ht ht']
theorem wp_mixed {P:Program} {ops:Array Oper} {Q:Exit→Act→World→Prop} {rest:List Oper} {o:Oper} {a:Act} {W:World} (hgd:o.guard=none) (s x:Operand) (t t' e e':TypeId) (ho:o.op=.call { callee:=.builtin .append,args:=#[s,x],argTypes:=#[t,t'] })
  (ht:P.underlying t=some (.slice e)) (ht':P.underlying t'=some (.slice e'))
  (h:∀ Q':Exit→Act→World→Prop,(∀ v w1,wpList P ops Q rest (a.put o.dst v) w1→Q' .normal (a.put o.dst v) w1)→wpList P ops Q' [{ o with op:=.call { callee:=.builtin .append,args:=#[s,x],argTypes:=#[t,t] } }] a W):wpList P ops Q (o :: rest) a W:=by
 have h1:=h (fun ex b w1=>ex=.normal∧wpList P ops Q rest b w1) (fun v w1 hh=>⟨rfl,hh⟩)
 simp only [wpList,Region.wanted,hgd,if_true] at h1 ⊢
 rcases h1 with h1 | h1
 ·
  left
  unfold Oper.wp at h1 ⊢
  rw [execOp_mixed s x t t' e e' ho ht ht',hgd]
  generalize (execOp a.eval { dst:=o.dst,op:=Op.call { callee:=Callee.builtin Builtin.append,args:=#[s,x],argTypes:=#[t,t] },type:=o.type,pos:=o.pos,after:=o.after,guard:=none }).run P W=r at h1 ⊢
  cases r with
  | ok n w' =>
   cases n with
   | value v=>exact h1.2
   | skip=>exact h1.2
   | defer d=>exact h1.2
   | enter f args =>
    refine Calls.mono h1 (fun e w2 hh=>?_)
    cases e with
    | returned v=>exact hh.2
    | panicked c=>cases hh.1
    | outgrown =>
     obtain⟨b,w1,hh⟩:=hh
     cases hh.1
   | row row args=>exact Rows.mono h1 (fun _ _ hh=>hh.2)
   | _=>exact h1.elim
  | halt hh w' =>
   cases hh with
   | panic v=>cases h1.1
   | _=>exact h1.elim
 ·
  obtain⟨_,b,w1,hh⟩:=h1
  cases hh.1
structure SR where
 f0:Bool
 f1:(List Int)
 f2:(List Int)
def zR:SR:=⟨false,([]:List Int),([]:List Int)⟩
def kR:Kd SR:=Kd.iso (Kd.pair Kd.bool (Kd.pair (Kd.slice 3 (Kd.int .i64)) (Kd.slice 3 (Kd.int .i64)))) (fun x:SR=>(x.f0,x.f1,x.f2))
theorem kR_open {w:World} {x:SR} {cs:List Value} (h:kR.K w x cs):∃ A1 c1 A2 c2,cs=[.bool x.f0,.slice A1 x.f1.length c1,.slice A2 x.f2.length c2]∧x.f1.length≤c1∧(Kd.int .i64).C w A1 x.f1.length x.f1∧x.f2.length≤c2∧(Kd.int .i64).C w A2 x.f2.length x.f2:=by
 obtain⟨_,_,rfl,rfl,⟨_,_,rfl,⟨A1,c1,rfl,l1,g1⟩,⟨A2,c2,rfl,l2,g2⟩⟩⟩:=h
 exact⟨A1,c1,A2,c2,rfl,l1,g1,l2,g2⟩
theorem kR_mkM (w:World) (base:Nat) (ok:Nat→Prop) (x:SR) {v1:Value} (g1:(Kd.int .i64).R 3 w base ok v1 x.f1) {v2:Value} (g2:(Kd.int .i64).R 3 w base ok v2 x.f2):kR.M w base ok x [.bool x.f0,v1,v2]:=⟨[.bool x.f0],[v1,v2],rfl,rfl,⟨[v1],[v2],rfl,⟨v1,rfl,g1⟩,⟨v2,rfl,g2⟩⟩⟩
def rd_R (xs:List SR) (i:Int):SR:=xs.getD i.toNat zR
theorem at_R {w:World} {A:Option Addr} {n:Nat} {xs:List SR} (h:Kd.C kR w A n xs) (i:Int) (h0:0≤i) (h1:i < n):∃ ad A1 c1 A2 c2,A=some ad∧w.cell? (ad.add (i.toNat*3))=some (.bool (rd_R xs i).f0)∧w.cell? ⟨(ad.add (i.toNat*3)).block,(ad.add (i.toNat*3)).off+1,none⟩=some (.slice A1 (rd_R xs i).f1.length c1)∧w.cell? ⟨(ad.add (i.toNat*3)).block,(ad.add (i.toNat*3)).off+2,none⟩=some (.slice A2 (rd_R xs i).f2.length c2)∧(rd_R xs i).f1.length≤c1∧(Kd.int .i64).C w A1 (rd_R xs i).f1.length (rd_R xs i).f1∧(rd_R xs i).f2.length≤c2∧(Kd.int .i64).C w A2 (rd_R xs i).f2.length (rd_R xs i).f2:=by
 obtain⟨ad,c,e,_,hK,hc0⟩:=Kd.C_get h zR i h0 h1
 have hc:∀ j u,c[j]? = some u→w.cell? (ad.add (i.toNat*3+j))=some u:=hc0
 obtain⟨A1,c1,A2,c2,rfl,l1,g1,l2,g2⟩:=kR_open hK
 exact⟨ad,A1,c1,A2,c2,e,hc 0 _ rfl,by rw [← add_field _ _ 1 (by omega)]; exact hc 1 _ rfl,by rw [← add_field _ _ 2 (by omega)]; exact hc 2 _ rfl,l1,g1,l2,g2⟩
theorem infoR:(Tryz.prog.info? 40).map (fun i=>(i.zero,i.size,i.bytes))=some (some (.agg #[(.bool false),(.slice none 0 0),(.slice none 0 0)]),3,56):=by kernel_rfl
theorem take_succ_R {es:List SR} {i:Nat} (h:i < es.length):es.take (i+1)=es.take i++[rd_R es (i:Int)]:=by
 rw [List.take_succ_eq_append_getElem h]
 congr 1
 simp [rd_R,List.getD_eq_getElem?_getD,List.getElem?_eq_getElem h]
structure OB (g:SR→M.S27) (w:World) (gO:Nat) (S BT1 BT2:Value) (sh:List Int) (es:List SR) (i:Nat) (W:World):Prop where
 v:∃ (E:Option Addr) (cE:Nat),W.heap[gO]? = some (.cells #[S,.slice E (es.take i).length cE] 30 (0,0))∧Kd.R M.k27 27 W w.heap.size (fun k=>gO < k) (.slice E (es.take i).length cE) ((es.take i).map g)
 sh:Kd.R (Kd.int .i64) 3 W w.heap.size (fun k=>k < gO) S sh
 bt:W.heap[w.heap.size]? = some (.cells #[BT1,BT2] 44 (0,0))
 bz:W.heap[w.heap.size+1]? = some (.cells #[.slice none 0 0,.slice none 0 0] 30 (0,0))
 be:Below w.heap.size w W
theorem tback_n (g:SR→M.S27) (A:Option Addr) (c:Nat) (sh:List Int) (B:Option Addr) (d:Nat) (es:List SR) (w:World) (hr1:Kd.C (Kd.int .i64) w A sh.length sh) (hc1:sh.length≤c) (hr2:Kd.C kR w B es.length es) (hc2:es.length≤d) (hl1:sh.length≤1099511627776) (hlen:es.length≤1099511627776) (hg:∀ x∈es,∃ k,M.fluxionref03_Back.f k x.f0 x.f1 x.f2=some ((g x).f0,(g x).f1,(g x).f2)) :
  Calls Tryz.prog 97 #[.agg #[.slice A sh.length c,.slice B es.length d]] w fun e w'=>∃ A' c' B' d',e=.returned (.agg #[.slice A' sh.length c',.slice B' es.length d']) ∧
   Kd.R (Kd.int .i64) 3 w' w.heap.size (fun _=>True) (.slice A' sh.length c') sh∧Kd.R M.k27 27 w' w.heap.size (fun _=>True) (.slice B' es.length d') (es.map g)∧Below w.heap.size w w':=by
 have hu67:=Tryz.underlying30
 have huT:=Tryz.underlying44
 have huR:=Tryz.underlying40
 have hu25:=Tryz.underlying27
 have HRC:=Aside0.mk (fun (W:World) (hb:Below w.heap.size w W)=>Kd.C_below hr1 hb)
 have HR2:=Aside0.mk hr2
 have HG:=Aside0.mk hg
 clear hr1 hr2 hg
 go_enter Tryz.func97,Tryz.ntmps97
 go_wp2_with ((with_reducible refine zbO (b:=.append) rfl ?_); go_must (refine wp_mixed rfl _ _ 23 22 3 3 rfl Tryz.underlying23 Tryz.underlying22 (fun Q' HQ'=>?_); refine Kd.R_append_row (Value.int .i64) (0:Int) _ rfl _ _ 23 3 (.int .i64 0) 8 rfl Tryz.underlying23 M.info3 rfl (by omega) (.slice none 0 0) [] sh A sh.length c (fun _=>True) rfl rfl (fun _ _=>trivial) (Kd.R_nil _ _ _ _ _) (HRC.out _ (zbn (zbn (Below.refl _ _) _) _)) (Below.refl _ _) (Nat.le_refl _) (by simp only [List.length_nil]; omega) ?_); intro v1 W1 hR hB hx1 hx2; refine HQ' _ _ ?_; clear hx1 hx2 HQ'; obtain⟨S1,k1,rfl⟩:=Kd.R_slice hR; have HS1:=Aside0.mk hR; have HB1:=Aside0.mk hB; clear hR hB)
 obtain⟨gO,hgO⟩:∃ g,g=W1.heap.size:=⟨_,rfl⟩
 have hsz0:((w.alloc (.cells #[.slice A sh.length c,.slice B es.length d] 44)).alloc (.cells #[.slice none 0 0,.slice none 0 0] 30)).heap.size=w.heap.size+1+1:=by simp
 have hx0:=zbt (zbr (zbt (zbI w (.cells #[.slice A sh.length c,.slice B es.length d] 44)) (.cells #[.slice none 0 0,.slice none 0 0] 30)) HB1.out) (.cells #[.slice S1 sh.length k1,.slice none 0 0] 30)
 have hx1:=zbI (w.alloc (.cells #[.slice A sh.length c,.slice B es.length d] 44)) (.cells #[.slice none 0 0,.slice none 0 0] 30)
 rw [show (w.alloc (.cells #[.slice A sh.length c,.slice B es.length d] 44)).heap.size=w.heap.size+1 by simp] at hx1
 replace hx1:=zbt (zbr hx1 HB1.out) (.cells #[.slice S1 sh.length k1,.slice none 0 0] 30)
 have hx2:=zbI W1 (.cells #[.slice S1 sh.length k1,.slice none 0 0] 30)
 have hbw:Below w.heap.size w (W1.alloc (.cells #[.slice S1 sh.length k1,.slice none 0 0] 30)):=zbn (zbm (zbn (zbn (Below.refl _ _) _) _) HB1.out) _
 have hsz1:=HB1.out.size
 rw [hsz0] at hsz1
 have hS1:Kd.R (Kd.int .i64) 3 W1 (w.heap.size+1+1) (fun _=>True) (.slice S1 sh.length k1) sh:=by
  have h:=HS1.out
  rw [hsz0] at h
  exact h
 have HI0:=Aside0.mk (show OB g w gO (.slice S1 sh.length k1) (.slice A sh.length c) (.slice B es.length d) sh es 0 (W1.alloc (.cells #[.slice S1 sh.length k1,.slice none 0 0] 30)) from
  ⟨⟨none,0,by rw [hgO]; exact hx2,Kd.R_nil _ _ _ _ _⟩,Kd.R_alloc (Kd.R_mono (Kd.R_lower (Kd.R_bound hS1) (by omega)) (fun k hk=>by rw [hgO]; exact hk.2.2.1)) _,hx0,hx1,hbw⟩)
 have HGO:=Aside0.mk (show w.heap.size+1 < gO by omega)
 rw [← hgO]
 generalize W1.alloc (.cells #[.slice S1 sh.length k1,.slice none 0 0] 30)=W2 at HI0 ⊢
 clear hx0 hx1 hx2 hbw hsz0 hsz1 hS1 HS1 HB1 hgO
 go_loopw [4] (fun iv wr=>∃ i:Nat,iv=.int .i64 i∧i≤es.length∧Aside0 (OB g w gO (.slice S1 sh.length k1) (.slice A sh.length c) (.slice B es.length d) sh es i wr)) (fun iv _=>es.length-(intOf iv).toNat)
 case atStart=>exact⟨0,rfl,by omega,HI0⟩
 case round =>
  obtain⟨i,rfl,hi,HI⟩:=hrel
  obtain⟨E,cE,hv1,hv2⟩:=HI.out.v
  by_cases hlt:i < es.length
  ·
   obtain⟨ad,A1,c1,A2,c2,e,q0,q1,q2,l1,g1,l2,g2⟩:=at_R HR2.out (i:Int) (by omega) (by omega)
   subst e
   rw [Int.toNat_natCast] at q0 q1 q2
   obtain⟨kk,hkk⟩:=HG.out (rd_R es (i:Int)) (by unfold rd_R; rw [Int.toNat_natCast,List.getD_eq_getElem?_getD,List.getElem?_eq_getElem hlt]; exact List.getElem_mem hlt)
   have HCO:=Aside0.mk (fun (W:World) (hb:Below w.heap.size w W)=>M.fluxionref03_Back.calls kk (rd_R es (i:Int)).f0 A1 c1 (rd_R es (i:Int)).f1 A2 c2 (rd_R es (i:Int)).f2 _ _ _ W (Kd.C_below g1 hb) l1 (Kd.C_below g2 hb) l2 hkk)
   clear hkk
   have HV2:=Aside0.mk hv2
   obtain⟨n,hn⟩:∃ n,n=(es.take i).length:=⟨_,rfl⟩
   have HN:=Aside0.mk hn
   rw [← hn] at hv1
   clear hv2 g1 g2 l1 l2 hn
   have HS:Aside0 (∀ w':World,Below w.heap.size w w'→w'.heap[gO]? = some (.cells #[.slice S1 sh.length k1,.slice E n cE] 30 (0,0))→w'.heap[w.heap.size]? = some (.cells #[.slice A sh.length c,.slice (some ad) es.length d] 44 (0,0))→(w'.cell? ⟨gO,1,none⟩=some (.slice E n cE)∧w'.cell? ⟨w.heap.size,1,none⟩=some (.slice (some ad) es.length d)∧w'.cell? (ad.add (i*3))=some (.bool (rd_R es (i:Int)).f0)∧w'.cell? ⟨(ad.add (i*3)).block,(ad.add (i*3)).off+1,none⟩=some (.slice A1 (rd_R es (i:Int)).f1.length c1)∧w'.cell? ⟨(ad.add (i*3)).block,(ad.add (i*3)).off+2,none⟩=some (.slice A2 (rd_R es (i:Int)).f2.length c2))):=⟨fun w' h h1 h2=>⟨(zbq h1 1).trans rfl,(zbq h2 1).trans rfl,(h.cell (World.block_lt_of_cell? w _ q0)).trans q0,(h.cell (World.block_lt_of_cell? w _ q1)).trans q1,(h.cell (World.block_lt_of_cell? w _ q2)).trans q2⟩⟩
   clear q0 q1 q2
   have s0:=(HS.out wr HI.out.be hv1 HI.out.bt)
   obtain⟨s1,s2,s3,s4,s5⟩:=s0
   go_wp2_with fail
   clear s1 s2 s3 s4 s5
   refine zco (n:=12) (S:=fun w'=>(w'.cell? ⟨gO,1,none⟩=some (.slice E n cE)∧w'.cell? ⟨w.heap.size,1,none⟩=some (.slice (some ad) es.length d)∧w'.cell? (ad.add (i*3))=some (.bool (rd_R es (i:Int)).f0)∧w'.cell? ⟨(ad.add (i*3)).block,(ad.add (i*3)).off+1,none⟩=some (.slice A1 (rd_R es (i:Int)).f1.length c1)∧w'.cell? ⟨(ad.add (i*3)).block,(ad.add (i*3)).off+2,none⟩=some (.slice A2 (rd_R es (i:Int)).f2.length c2))) (ds:=[11]) #[zf,zf,zf,zf,zf,zf,zf,zf,zf,zf,zf,zf] (by kernel_rfl) rfl rfl ((HS.out _ (zbm HI.out.be (zbs (Below.refl _ _))) (zbu hv1) (zbu HI.out.bt))) (fun hHeld=>?_)
   have hb0:=Aside0.mk (show Below wr.heap.size wr wr.drew from zbs (Below.refl _ _))
   generalize wr.drew=V0 at hb0 hHeld ⊢
   refine qp 0 (some 16) ?_
   refine qp 2 (some 18) ?_
   refine qp 4 (some 20) ?_
   refine qt 1 (some 17) ?_
   refine qt 3 (some 19) ?_
   refine qp 5 (some 21) ?_
   refine qt 6 (some 22) ?_
   refine qo 7 (some 23) (fun K hK=>?_)
   refine qg Tryz.func64 #[.agg #[.bool (rd_R es (i:Int)).f0,.slice A1 (rd_R es (i:Int)).f1.length c1,.slice A2 (rd_R es (i:Int)).f2.length c2]] ?_
   refine(HCO.out V0 (zbm HI.out.be hb0.out)).mono ?_
   rintro e V1 ⟨u1,u2,rfl,R1,R2,hB⟩
   refine⟨_,rfl,?_⟩
   obtain⟨F1,f1,rfl⟩:=Kd.R_slice R1
   obtain⟨F2,f2,rfl⟩:=Kd.R_slice R2
   have HP:=Aside0.mk (M.k27_mkM V1 w.heap.size (fun k=>V0.heap.size≤k) (g (rd_R es (i:Int))) (Kd.R_mono (Kd.R_lower (Kd.R_bound R1) (zbm HI.out.be hb0.out).size) (fun k hk=>hk.2.1)) (Kd.R_mono (Kd.R_lower (Kd.R_bound R2) (zbm HI.out.be hb0.out).size) (fun k hk=>hk.2.1)))
   have hb1:=Aside0.mk (zbm hb0.out hB)
   clear hB R1 R2
   refine hK.out _ _ ((HS.out _ (zbm HI.out.be hb1.out) (zbr hv1 hb1.out) (zbr HI.out.bt hb1.out))) (fun hHeld=>?_)
   clear hK K
   refine qn ?_
   refine qo 8 (some 24) (fun K hK=>?_)
   refine qv ?_
   refine hK.out _ _ ((HS.out _ (zbn (zbm HI.out.be hb1.out) _) (zbt (zbr hv1 hb1.out) _) (zbt (zbr HI.out.bt hb1.out) _))) (fun hHeld=>?_)
   clear hK K
   refine qn ?_
   refine qo 9 (some 25) (fun K hK=>?_)
   have hO:=Kd.R_below HV2.out hb1.out
   rw [← HN.out] at hO
   refine Kd.R_append_step M.k27 (w0:=w) (W:=V1) w.heap.size (by rfl) (.tmp 17) (.tmp 24) 28 27 (.agg #[.bool false,.slice none 0 0,.slice none 0 0]) 56 rfl Tryz.underlying28 J.info27 rfl (by decide) (by decide) (.slice E n cE) ((es.take i).map g) (g (rd_R es (i:Int))) [.bool (g (rd_R es (i:Int))).f0,.slice F1 (g (rd_R es (i:Int))).f1.length f1,.slice F2 (g (rd_R es (i:Int))).f2.length f2] (fun k=>gO < k) (fun k=>V0.heap.size≤k) rfl rfl HP.out (fun k hk=>⟨by have:=zbL (zbr hv1 hb0.out); omega,fun e=>by have:=Kd.R_lt (Kd.R_below HV2.out hb0.out) k (by rw [← HN.out]; exact e.symm); omega⟩) (fun k hk=>by have:=zbL (zbr hv1 hb1.out); omega) hO (zbm HI.out.be hb1.out) (zbm HI.out.be hb1.out).size (by rw [List.length_map,List.length_take]; omega) ?_
   intro v1 V2 hR hB hG hat
   have hne:∀ b o,wr.heap[b]? = some o→b≤gO→V2.heap[b]? = some o:=fun b o hbo hle=>blk_grown (zbr hbo hb1.out) hG (fun e=>by have:=HV2.out.1 b (by rw [← HN.out]; exact e.symm); omega)
   have hsh:=Kd.R_grown (Kd.R_below HI.out.sh hb1.out) hG (fun k hk e=>by have:=HV2.out.1 k (by rw [← HN.out]; exact e.symm); omega)
   obtain⟨E2,e2,rfl⟩:=Kd.R_slice hR
   have HQ:=Aside0.mk (And.intro hR (And.intro hB (And.intro hsh (And.intro (hne _ _ HI.out.bt (by have:=HGO.out; omega)) (And.intro (hne _ _ HI.out.bz (by have:=HGO.out; omega)) (hne _ _ hv1 (Nat.le_refl _)))))))
   clear hR hB hG hat hne hsh hO
   refine hK.out _ _ ((HS.out _ HQ.out.2.1 HQ.out.2.2.2.2.2 HQ.out.2.2.2.1)) (fun hHeld=>?_)
   clear hK K
   refine qn ?_
   refine qp 10 (some 26) ?_
   refine ql 11 none (fun K hK=>?_)
   have hf3:=zbA HQ.out.2.2.2.2.2 1
   have hc3:V2.cell? ⟨gO,1,none⟩=some (.slice E n cE):=(zbq HQ.out.2.2.2.2.2 1).trans rfl
   refine qx ?_
   refine hK.out _ _ ?_
   clear hK K
   refine done_ (by kernel_rfl) ?_
   clear hHeld hf3 hc3
   go_wp2
   go_roundw
   case rel =>
    refine⟨i+1,by go_num,by omega,⟨⟨⟨E2,e2,?_,?_⟩,Kd.R_far (p:=⟨gO,1,none⟩) HQ.out.2.2.1 (fun k hk=>Nat.ne_of_lt hk) _,zbJ HQ.out.2.2.2.1 (by have:=HGO.out; show w.heap.size≠gO; omega) _,zbJ HQ.out.2.2.2.2.1 (by have:=HGO.out; show w.heap.size+1≠gO; omega) _,zbB HQ.out.2.1 (by have:=HGO.out; show w.heap.size≤gO; omega)⟩⟩⟩
    ·
     have hl:(es.take (i+1)).length=i+1:=by rw [List.length_take]; omega
     rw [hl]
     exact zbF (cs:=#[.slice S1 sh.length k1,.slice E n cE]) HQ.out.2.2.2.2.2 1 _ rfl
    ·
     have he:(es.take (i+1)).map g=(es.take i).map g++[g (rd_R es (i:Int))]:=by rw [take_succ_R hlt,List.map_append]; rfl
     have hln:(es.take (i+1)).length=((es.take i).map g++[g (rd_R es (i:Int))]).length:=by rw [← he,List.length_map]
     rw [hln,he]
     exact Kd.R_far (p:=⟨gO,1,none⟩) HQ.out.1 (fun k hk=>Nat.ne_of_gt hk) _
   case measure=>simp [intOf]; omega
  ·
   have hie:es.take i=es:=List.take_of_length_le (by omega)
   rw [hie] at hv1 hv2
   have c1:wr.cell? ⟨w.heap.size,1,none⟩=some (.slice B es.length d):=(zbq HI.out.bt 1).trans rfl
   have o0:wr.cell? ⟨gO,0,none⟩=some (.slice S1 sh.length k1):=(zbq hv1 0).trans rfl
   have o1:wr.cell? ⟨gO,1,none⟩=some (.slice E es.length cE):=(zbq hv1 1).trans rfl
   have z0:wr.cell? ⟨w.heap.size+1,0,none⟩=some (.slice none 0 0):=(zbq HI.out.bz 0).trans rfl
   have z1:wr.cell? ⟨w.heap.size+1,1,none⟩=some (.slice none 0 0):=(zbq HI.out.bz 1).trans rfl
   have y0:=zbA HI.out.bz 0
   have y1:=zbA HI.out.bz 1
   have HV2:=Aside0.mk hv2
   clear hv1 hv2 hie
   go_wp2
   have hn1:=zbF (cs':=#[.slice S1 sh.length k1,.slice E es.length cE]) (zbF (cs':=#[.slice S1 sh.length k1,.slice none 0 0]) HI.out.bz 0 (.slice S1 sh.length k1) rfl) 1 (.slice E es.length cE) rfl
   refine bodyPost_ret (results_cell_row rfl _ _ (w.heap.size+1) 30 _ (0,0) _ rfl hn1 hu67 rfl (by kernel_rfl)) rfl ?_
   have hgo:=HGO.out
   have hsh:Kd.R (Kd.int .i64) 3 wr w.heap.size (fun k=>k≠w.heap.size+1) (.slice S1 sh.length k1) sh:=Kd.R_mono (Kd.R_types HI.out.sh HI.out.bz (by decide)) (fun k hk=>hk.2)
   exact⟨S1,k1,E,cE,rfl,Kd.R_mono (Kd.R_far (p:=⟨w.heap.size+1,1,none⟩) (Kd.R_far (p:=⟨w.heap.size+1,0,none⟩) hsh (fun k hk=>hk) _) (fun k hk=>hk) _) (fun _ _=>trivial),
    Kd.R_mono (Kd.R_far (p:=⟨w.heap.size+1,1,none⟩) (Kd.R_far (p:=⟨w.heap.size+1,0,none⟩) HV2.out (fun k hk=>by show k≠w.heap.size+1; omega) _) (fun k hk=>by show k≠w.heap.size+1; omega) _) (fun _ _=>trivial),
    zbB (zbB HI.out.be (by show w.heap.size≤w.heap.size+1; omega)) (by show w.heap.size≤w.heap.size+1; omega)⟩
end Go.Proofs.YtehghijlchpeaaaGreat.Nat1
end
section
namespace Go.Proofs.YtehghijlchpeaaaGreat.Nat1
open Go.RowKit YtehghijlchpeaaaGreatW.PrintWords YtehghijlchpeaaaGreatW.PrintLast YtehghijlchpeaaaGreatW.PrintMore L Nt Ev
def li {α:Type} (g:Nat→α) (i:Nat):List α:=(List.range i).map g
theorem li_len {α:Type} (g:Nat→α) (i:Nat):(li g i).length=i:=by simp [li]
theorem li_succ {α:Type} (g:Nat→α) (i:Nat):li g (i+1)=li g i++[g i]:=by
 rw [li,List.range_succ,List.map_append]
 rfl
def SQ (X:QN):SR:=⟨X.1,dg 10000 X.2.1,dg 10000 X.2.2⟩
theorem li_map {α β:Type} (es:List α) (z:α) (f:α→β):li (fun i:Nat=>f (es.getD i z)) es.length=es.map f:=by
 apply List.ext_getElem
 ·
  simp [li]
 ·
  intro i h1 h2
  simp [li] at h1 ⊢
  rw [List.getElem?_eq_getElem h1,Option.getD_some]
theorem li_rd (es:List M.S27) {β:Type} (f:M.S27→β):li (fun i:Nat=>f (M.rd_T27 es (i:Int))) es.length=es.map f:=by
 have:=li_map es M.z27 f
 simp only [M.rd_T27,Int.toNat_natCast]
 exact this
theorem tof_n (A:Option Addr) (c:Nat) (sh:List Int) (B:Option Addr) (d:Nat) (es:List M.S27) (w:World) (hr1:Kd.C (Kd.int .i64) w A sh.length sh) (hr2:Kd.C M.k27 w B es.length es) (hl1:sh.length*8≤140737488355328) (hlen:es.length≤1099511627776) (hok:∀ x∈es,eOk x) :
  Calls Tryz.prog 33 #[.agg #[.slice A sh.length c,.slice B es.length d]] w fun e w'=>∃ A' c' B' d',e=.returned (.agg #[.slice A' sh.length c',.slice B' es.length d']) ∧
   Kd.R (Kd.int .i64) 3 w' w.heap.size (fun _=>True) (.slice A' sh.length c') sh∧Kd.R kR 40 w' w.heap.size (fun _=>True) (.slice B' es.length d') (es.map (fun x=>SQ (eN x)))∧Below w.heap.size w w':=by
 have huT:=Tryz.underlying44
 have huTT:=Tryz.underlying30
 have huR:=Tryz.underlying40
 have hu25:=Tryz.underlying27
 have HRC:=Aside0.mk (fun (W:World) (hb:Below w.heap.size w W)=>Kd.C_below hr1 hb)
 have HR2:=Aside0.mk hr2
 have HOK:=Aside0.mk (fun i:Nat=>rd_ok hok i)
 clear hr1 hr2 hok
 go_enter Tryz.func33,Tryz.ntmps33
 go_wp2_with ((with_reducible refine zbO (b:=.append) rfl ?_); go_must (refine wp_mixed rfl _ _ 22 23 3 3 rfl Tryz.underlying22 Tryz.underlying23 (fun Q' HQ'=>?_); refine Kd.R_append_row (Value.int .i64) (0:Int) _ rfl _ _ 22 3 (.int .i64 0) 8 rfl Tryz.underlying22 M.info3 rfl (by omega) (.slice none 0 0) [] sh A sh.length c (fun _=>True) rfl rfl (fun _ _=>trivial) (Kd.R_nil _ _ _ _ _) (HRC.out _ (zbn (zbn (Below.refl _ _) _) _)) (Below.refl _ _) (Nat.le_refl _) (by simp only [List.length_nil]; omega) ?_); intro v1 W1 hR hB hx1 hx2; refine HQ' _ _ ?_; clear hx1 hx2 HQ'; rw [List.nil_append] at hR; obtain⟨S1,k1,rfl⟩:=Kd.R_slice hR; have HS1:=Aside0.mk hR; have HB1:=Aside0.mk hB; clear hR hB)
 have hx0:=zbt (zbI w (.cells #[.slice A sh.length c,.slice B es.length d] 30)) (.cells #[.slice none 0 0,.slice none 0 0] 44)
 have hx1:=zbI (w.alloc (.cells #[.slice A sh.length c,.slice B es.length d] 30)) (.cells #[.slice none 0 0,.slice none 0 0] 44)
 rw [show (w.alloc (.cells #[.slice A sh.length c,.slice B es.length d] 30)).heap.size=w.heap.size+1 by simp] at hx1
 have hbw:Below w.heap.size w ((w.alloc (.cells #[.slice A sh.length c,.slice B es.length d] 30)).alloc (.cells #[.slice none 0 0,.slice none 0 0] 44)):=zbn (zbn (Below.refl _ _) _) _
 replace hx0:=zbt (zbr hx0 HB1.out) (.cells #[.slice S1 sh.length k1,.slice none 0 0] 44)
 replace hx1:=zbt (zbr hx1 HB1.out) (.cells #[.slice S1 sh.length k1,.slice none 0 0] 44)
 have hxO:=zbI W1 (.cells #[.slice S1 sh.length k1,.slice none 0 0] 44)
 obtain⟨gO,hgO⟩:∃ g,g=W1.heap.size:=⟨_,rfl⟩
 have hsz:((w.alloc (.cells #[.slice A sh.length c,.slice B es.length d] 30)).alloc (.cells #[.slice none 0 0,.slice none 0 0] 44)).heap.size=w.heap.size+1+1:=by simp
 have hS:=HS1.out
 have hsz1:=HB1.out.size
 rw [hsz] at hS hsz1
 have HSH:=Aside0.mk (Kd.R_alloc (Kd.R_mono (Kd.R_bound hS) (fun k hk=>(show k < gO by rw [hgO]; exact hk.2.2.1))) (.cells #[.slice S1 sh.length k1,.slice none 0 0] 44))
 have HX:=Aside0.mk (And.intro hx0 (And.intro hx1 (zbn (zbm hbw HB1.out) (.cells #[.slice S1 sh.length k1,.slice none 0 0] 44))))
 have HGO:=Aside0.mk (show w.heap.size+1 < gO by omega)
 rw [← hgO] at hxO ⊢
 have HA0:=Aside0.mk (show AR kR 44 40 (W1.alloc (.cells #[.slice S1 sh.length k1,.slice none 0 0] 44)) gO (.slice S1 sh.length k1) (li (fun i:Nat=>SQ (eN (M.rd_T27 es (i:Int)))) 0) (W1.alloc (.cells #[.slice S1 sh.length k1,.slice none 0 0] 44)) from ⟨⟨none,0,hxO,Kd.R_nil _ _ _ _ _⟩,Below.refl _ _⟩)
 clear hx0 hx1 hbw hxO hgO hsz hS hsz1 HS1 HB1
 generalize W1.alloc (.cells #[.slice S1 sh.length k1,.slice none 0 0] 44)=W0 at HX HSH HA0 ⊢
 go_loopw [4] (fun iv wr=>∃ i:Nat,iv=.int .i64 i∧i≤es.length∧Aside0 (AR kR 44 40 W0 gO (.slice S1 sh.length k1) (li (fun i:Nat=>SQ (eN (M.rd_T27 es (i:Int)))) i) wr)) (fun iv _=>es.length-(intOf iv).toNat)
 case atStart=>exact⟨0,rfl,by omega,HA0⟩
 case round =>
  obtain⟨i,rfl,hi,HI⟩:=hrel
  have HW:=Aside0.mk (show Below w.heap.size w wr from HX.out.2.2.trans (HI.out.be.mono (by have:=HGO.out; omega)))
  have b0:wr.heap[w.heap.size]? = some (.cells #[.slice A sh.length c,.slice B es.length d] 30 (0,0)):=(HI.out.be.block _ (by have:=HGO.out; omega)).trans HX.out.1
  have b1:wr.heap[w.heap.size+1]? = some (.cells #[.slice none 0 0,.slice none 0 0] 44 (0,0)):=(HI.out.be.block _ (by have:=HGO.out; omega)).trans HX.out.2.1
  have HB:=Aside0.mk (And.intro b0 b1)
  obtain⟨E,cE,hv1,hv2⟩:=HI.out.v
  rw [li_len] at hv1 hv2
  clear b0 b1
  by_cases hlt:i < es.length
  ·
   skip
   obtain⟨ad,aA,aa,aB,ab,e,a0,a1,a2,al1,ag1,al2,ag2⟩:=M.at_T27 HR2.out (i:Int) (by omega) (by omega)
   subst e
   rw [Int.toNat_natCast] at a0 a1 a2
   have HCO:=Aside0.mk (fun (W:World) (hb:Below w.heap.size w W)=>ref_of_n (EL.nr (w:=W) (x:=(M.rd_T27 es (i:Int))) ⟨aA,aa,aB,ab,rfl,⟨Kd.C_below ag1 hb,al1⟩,⟨Kd.C_below ag2 hb,al2⟩⟩ (HOK.out i)))
   have HV2:=Aside0.mk (And.intro hv1 hv2)
   clear hv1 hv2 al1 ag1 al2 ag2
   have s0:(wr.cell? ⟨gO,1,none⟩=some (.slice E i cE)∧wr.cell? ⟨w.heap.size,1,none⟩=some (.slice (some ad) es.length d)∧wr.cell? (ad.add (i*3))=some (.bool (M.rd_T27 es (i:Int)).f0)∧wr.cell? ⟨(ad.add (i*3)).block,(ad.add (i*3)).off+1,none⟩=some (.slice aA (M.rd_T27 es (i:Int)).f1.length aa)∧wr.cell? ⟨(ad.add (i*3)).block,(ad.add (i*3)).off+2,none⟩=some (.slice aB (M.rd_T27 es (i:Int)).f2.length ab)):=⟨(zbq HV2.out.1 1).trans rfl,(zbq HB.out.1 1).trans rfl,(HW.out.cell (World.block_lt_of_cell? w _ a0)).trans a0,(HW.out.cell (World.block_lt_of_cell? w _ a1)).trans a1,(HW.out.cell (World.block_lt_of_cell? w _ a2)).trans a2⟩
   have HS:Aside0 (∀ w':World,Below (gO+1) wr w'→(w'.cell? ⟨gO,1,none⟩=some (.slice E i cE)∧w'.cell? ⟨w.heap.size,1,none⟩=some (.slice (some ad) es.length d)∧w'.cell? (ad.add (i*3))=some (.bool (M.rd_T27 es (i:Int)).f0)∧w'.cell? ⟨(ad.add (i*3)).block,(ad.add (i*3)).off+1,none⟩=some (.slice aA (M.rd_T27 es (i:Int)).f1.length aa)∧w'.cell? ⟨(ad.add (i*3)).block,(ad.add (i*3)).off+2,none⟩=some (.slice aB (M.rd_T27 es (i:Int)).f2.length ab))):=⟨fun w' h=>by
    have hg:=HGO.out; have hs:=HI.out.lt; have hz:=HW.out.size
    obtain⟨s0,s1,s2,s3,s4⟩:=s0
    exact⟨(h.cell (by show _ < _; simp only []; omega)).trans s0,(h.cell (by show _ < _; simp only []; omega)).trans s1,(h.cell (by exact Nat.lt_of_lt_of_le (World.block_lt_of_cell? w _ a0) (by omega))).trans s2,(h.cell (by exact Nat.lt_of_lt_of_le (World.block_lt_of_cell? w _ a1) (by omega))).trans s3,(h.cell (by exact Nat.lt_of_lt_of_le (World.block_lt_of_cell? w _ a2) (by omega))).trans s4⟩⟩
   obtain⟨s0,s1,s2,s3,s4⟩:=s0
   go_wp2_with fail
   clear s0 s1 s2 s3 s4 a0 a1 a2
   refine zco (n:=12) (S:=fun w'=>(w'.cell? ⟨gO,1,none⟩=some (.slice E i cE)∧w'.cell? ⟨w.heap.size,1,none⟩=some (.slice (some ad) es.length d)∧w'.cell? (ad.add (i*3))=some (.bool (M.rd_T27 es (i:Int)).f0)∧w'.cell? ⟨(ad.add (i*3)).block,(ad.add (i*3)).off+1,none⟩=some (.slice aA (M.rd_T27 es (i:Int)).f1.length aa)∧w'.cell? ⟨(ad.add (i*3)).block,(ad.add (i*3)).off+2,none⟩=some (.slice aB (M.rd_T27 es (i:Int)).f2.length ab))) (ds:=[11]) #[zf,zf,zf,zf,zf,zf,zf,zf,zf,zf,zf,zf] (by kernel_rfl) rfl rfl ((HS.out _ (zbs (Below.refl _ _)))) (fun hHeld=>?_)
   have hb0:=Aside0.mk (show Below wr.heap.size wr wr.drew from zbs (Below.refl _ _))
   generalize wr.drew=V0 at hb0 hHeld ⊢
   refine qp 0 (some 16) ?_
   refine qp 2 (some 18) ?_
   refine qp 4 (some 20) ?_
   refine qt 1 (some 17) ?_
   refine qt 3 (some 19) ?_
   refine qp 5 (some 21) ?_
   refine qt 6 (some 22) ?_
   refine qo 7 (some 23) (fun K hK=>?_)
   refine qg Tryz.func22 #[.agg #[.bool (M.rd_T27 es (i:Int)).f0,.slice aA (M.rd_T27 es (i:Int)).f1.length aa,.slice aB (M.rd_T27 es (i:Int)).f2.length ab]] ?_
   refine(HCO.out V0 (zbm HW.out hb0.out)).mono ?_
   rintro e V1 ⟨v,rfl,⟨y1,y2,rfl,R1,R2⟩,hB⟩
   refine⟨_,rfl,?_⟩
   obtain⟨D1,m1,rfl⟩:=Kd.R_slice R1
   obtain⟨D2,m2,rfl⟩:=Kd.R_slice R2
   have hb1:=Aside0.mk (zbm hb0.out hB)
   have hlt1:=Nat.lt_of_lt_of_le HI.out.lt hb0.out.size; have HP2:=Aside0.mk (kR_mkM V1 (gO+1) (fun k=>V0.heap.size≤k) (SQ (eN (M.rd_T27 es (i:Int)))) (Kd.R_mono (Kd.R_lower (Kd.R_bound R1) (Nat.succ_le_of_lt hlt1)) (fun k hk=>hk.2.1)) (Kd.R_mono (Kd.R_lower (Kd.R_bound R2) (Nat.succ_le_of_lt hlt1)) (fun k hk=>hk.2.1))); have HLE:=Aside0.mk (show ∀ k,some k=(Value.slice E i cE).ownBlock→k < V0.heap.size from fun k e=>by have:=Kd.R_lt HV2.out.2 k e.symm; have:=hb0.out.size; omega); clear R1 R2 hlt1
   clear hB 
   refine hK.out _ _ ((HS.out _ (hb1.out.mono HI.out.lt))) (fun hHeld=>?_)
   clear hK K
   refine qn ?_
   refine qo 8 (some 24) (fun K hK=>?_)
   refine qv ?_
   refine hK.out _ _ ((HS.out _ ((hb1.out.mono HI.out.lt).alloc (Nat.le_trans HI.out.lt hb1.out.size) _))) (fun hHeld=>?_)
   clear hK K
   refine qn ?_
   refine qo 9 (some 25) (fun K hK=>?_)
   have hO:=Kd.R_below HV2.out.2 hb1.out
   refine Kd.R_append_step kR (w0:=V1) (W:=V1) (gO+1) (by rfl) (.tmp 17) (.tmp 24) 42 40 (.agg #[.bool false,.slice none 0 0,.slice none 0 0]) 56 rfl Tryz.underlying42 infoR rfl (by decide) (by decide) (.slice E i cE) (li (fun i:Nat=>SQ (eN (M.rd_T27 es (i:Int)))) i) (SQ (eN (M.rd_T27 es (i:Int)))) [.bool (eN (M.rd_T27 es (i:Int))).1,.slice D1 (dg 10000 (eN (M.rd_T27 es (i:Int))).2.1).length m1,.slice D2 (dg 10000 (eN (M.rd_T27 es (i:Int))).2.2).length m2] (fun _=>True) (fun k=>V0.heap.size≤k) rfl rfl HP2.out (fun k hk=>⟨trivial,fun e=>by have:=HLE.out k e; omega⟩) (fun _ _=>trivial) hO (Below.refl _ _) (by have:=HI.out.lt; have:=hb1.out.size; omega) (by rw [li_len]; omega) ?_
   intro v1 VX hR hB hG hat
   rw [show (li (fun i:Nat=>SQ (eN (M.rd_T27 es (i:Int)))) i)++[(SQ (eN (M.rd_T27 es (i:Int))))]=(li (fun i:Nat=>SQ (eN (M.rd_T27 es (i:Int)))) (i+1)) from (li_succ _ _).symm] at hR
   have HQ3:=Aside0.mk (And.intro hR hB)
   obtain⟨E2,e2,rfl⟩:=Kd.R_slice hR
   have HC3:=Aside0.mk (show VX.heap[gO]? = some (.cells #[.slice S1 sh.length k1,.slice E i cE] 44 (0,0)) from (hB.block gO (Nat.lt_succ_self _)).trans (zbr HV2.out.1 hb1.out))
   clear hR hB hG hat hO
   refine hK.out _ _ ((HS.out _ ((hb1.out.mono HI.out.lt).trans HQ3.out.2))) (fun hHeld=>?_)
   clear hK K
   refine qn ?_
   refine qp 10 (some 26) ?_
   refine ql 11 none (fun K hK=>?_)
   have hf3:=zbA HC3.out 1
   have hc3:VX.cell? ⟨gO,1,none⟩=some (.slice E i cE):=(zbq HC3.out 1).trans rfl
   refine qx ?_
   refine hK.out _ _ ?_
   clear hK K
   refine done_ (by kernel_rfl) ?_
   clear hHeld hf3 hc3
   go_wp2
   go_roundw
   case rel =>
    refine⟨i+1,by go_num,by omega,⟨?_⟩⟩
    have h1:=HQ3.out.1
    rw [li_succ] at h1 ⊢
    exact HI.out.push hb1.out h1 HQ3.out.2
   case measure=>simp [intOf]; omega
  ·
   have hie:i=es.length:=by omega
   subst hie
   have c1:wr.cell? ⟨w.heap.size,1,none⟩=some (.slice B es.length d):=(zbq HB.out.1 1).trans rfl
   have o0:wr.cell? ⟨gO,0,none⟩=some (.slice S1 sh.length k1):=(zbq hv1 0).trans rfl
   have o1:wr.cell? ⟨gO,1,none⟩=some (.slice E es.length cE):=(zbq hv1 1).trans rfl
   have z0:wr.cell? ⟨w.heap.size+1,0,none⟩=some (.slice none 0 0):=(zbq HB.out.2 0).trans rfl
   have z1:wr.cell? ⟨w.heap.size+1,1,none⟩=some (.slice none 0 0):=(zbq HB.out.2 1).trans rfl
   have y0:=zbA HB.out.2 0
   have y1:=zbA HB.out.2 1
   rw [li_rd es (fun x=>SQ (eN x))] at hv2
   have HV2:=Aside0.mk hv2
   clear hv1 hv2
   go_wp2
   have hn1:=zbF (cs':=#[.slice S1 sh.length k1,.slice E es.length cE]) (zbF (cs':=#[.slice S1 sh.length k1,.slice none 0 0]) HB.out.2 0 (.slice S1 sh.length k1) rfl) 1 (.slice E es.length cE) rfl
   refine bodyPost_ret (results_cell_row rfl _ _ (w.heap.size+1) 44 _ (0,0) _ rfl hn1 huT rfl (by kernel_rfl)) rfl ?_
   have hgo:=HGO.out
   have hsh:=Kd.R_step (w1:=wr) HSH.out (fun k hk _=>HI.out.be.block k hk)
   exact⟨S1,k1,E,cE,rfl,Kd.R_mono (Kd.R_lower (R_ne (R_ne hsh (by omega) _ _) (by omega) _ _) (by omega)) (fun _ _=>trivial),Kd.R_lower (R_ne (R_ne HV2.out (by omega) _ _) (by omega) _ _) (by omega),zbB (zbB HW.out (by show w.heap.size≤w.heap.size+1; omega)) (by show w.heap.size≤w.heap.size+1; omega)⟩
end Go.Proofs.YtehghijlchpeaaaGreat.Nat1
end
section
namespace Go.Proofs.YtehghijlchpeaaaGreat.Nat1
open Go.RowKit YtehghijlchpeaaaGreatW.PrintWords YtehghijlchpeaaaGreatW.PrintLast YtehghijlchpeaaaGreatW.PrintMore L Nt Ev
def tdotR.T5:Bool×List (List Nat×List Nat):=(true,[([],[]),([],[]),([1],[1]),([],[]),([2,3],[2,3]),([4],[4]),([],[]),([6],[6]),([],[]),([7,8],[7,8]),([9],[9]),([5,10],[5,10]),([0,11,11],[0,11]),([12,12,0,1,2,3,4,5,6,7,8,9,10,11,12],[12])])
def tdotR.B5:List Nat:=[0,0,2,0,14,30,0,64,0,448,960,2046,4095,8191]
theorem tdotR.tab5:rtab .any (opsOf Tryz.f39 5)=tdotR.T5:=by kernel_rfl
theorem tdotR.bits5:zct tdotR.T5.2 tdotR.B5=true:=by kernel_rfl
theorem dot_lims {es fs:List M.S27} {L:Nat} (hL0:0 < L) (hL:L≤1048576) (h1:∀ x∈es,eOk x∧x.f1.length≤L∧x.f2.length≤L) (h2:∀ x∈fs,eOk x∧x.f1.length≤L∧x.f2.length≤L) :
  ∃ lM:Nat,lM≤60000000000∧(∀ i:Nat,i≤1024→lim lM (dotP es fs i))∧(∀ i:Nat,lim lM (mulQ (eN (M.rd_T27 es (i:Int))) (eN (M.rd_T27 fs (i:Int)))))∧(∀ i:Nat,lim lM (eN (M.rd_T27 es (i:Int))))∧∀ i:Nat,lim lM (eN (M.rd_T27 fs (i:Int))):=by
 obtain⟨K,hK⟩:∃ K,K=1+1024*(L+L+1):=⟨_,rfl⟩
 have k1:L≤K:=by omega
 have k2:L+L≤K:=by omega
 refine⟨K,by omega,fun i hi=>lim_up (lim_dotP (lim_eN hL0 h1) (lim_eN hL0 h2) hL0 i) ?_,fun i=>lim_up (lim_mul (lim_eN hL0 h1 i) (lim_eN hL0 h2 i) (by omega)) k2,fun i=>lim_up (lim_eN hL0 h1 i) k1,fun i=>lim_up (lim_eN hL0 h2 i) k1⟩
 have:=Nat.mul_le_mul_right (L+L+1) hi
 omega
theorem rd_R_es (es:List M.S27) {i:Nat} (h:i < es.length):rd_R (es.map (fun x=>SQ (eN x))) (i:Int)=SQ (eN (M.rd_T27 es (i:Int))):=by
 simp [rd_R,M.rd_T27,List.getD_eq_getElem?_getD,h]
theorem store3_belowG {n g:Nat} {A V:World} (h:Below n A V) (hg:n≤g) (a b c:Value):Below n A (store3 V g a b c):=below3 h hg a b c
def SR_ (w W0:World) (gs:Nat) (X:QN) (W:World):Prop:=(∃ F1 f1 F2 f2,W.heap[gs]? = some (.cells #[.bool X.1,.slice F1 (dg 10000 X.2.1).length f1,.slice F2 (dg 10000 X.2.2).length f2] 40 (0,0))∧QT W w.heap.size (.agg #[.bool X.1,.slice F1 (dg 10000 X.2.1).length f1,.slice F2 (dg 10000 X.2.2).length f2]) X)∧Below gs W0 W
theorem rdot_n (A:Option Addr) (n1 c:Nat) (B:Option Addr) (d:Nat) (es:List M.S27) (A':Option Addr) (n2 c':Nat) (B':Option Addr) (d':Nat) (fs:List M.S27) (w:World) (hr2:Kd.C kR w B es.length (es.map (fun x=>SQ (eN x)))) (hr4:Kd.C kR w B' fs.length (fs.map (fun x=>SQ (eN x)))) (hle:fs.length=es.length) (hlen:es.length≤1024)
  {L:Nat} (hL0:0 < L) (hL:L≤1048576) (hok:∀ x∈es,eOk x∧x.f1.length≤L∧x.f2.length≤L) (hok':∀ x∈fs,eOk x∧x.f1.length≤L∧x.f2.length≤L) :
  Calls Tryz.prog 39 #[.agg #[.slice A n1 c,.slice B es.length d],.agg #[.slice A' n2 c',.slice B' fs.length d']] w fun e w'=>∃ v,e=.returned v∧QT w' w.heap.size v (dotP es fs es.length)∧Below w.heap.size w w':=by
 have huT:=Tryz.underlying44
 have huR:=Tryz.underlying40
 obtain⟨lM,hM0,hM1,hM2,hM3,hM4⟩:=dot_lims hL0 hL hok hok'
 have HMM:=Aside0.mk (And.intro hM1 (And.intro hM2 (And.intro hM3 hM4)))
 have HM0:=Aside0.mk hM0
 have HR2:=Aside0.mk hr2
 have HR4:=Aside0.mk hr4
 have HLE:=Aside0.mk hle
 clear hr2 hr4 hok hok' hM0 hM1 hM2 hM3 hM4 hle hL hL0
 go_enter Tryz.func39,Tryz.ntmps39
 go_wp2_with fail
 have hx0:=zbt (zbt (zbI w (.cells #[.slice A n1 c,.slice B es.length d] 44)) (.cells #[.slice A' n2 c',.slice B' fs.length d'] 44)) (.cells #[.bool false,.slice none 0 0,.slice none 0 0] 40)
 have hx1:=zbt (zbI (w.alloc (.cells #[.slice A n1 c,.slice B es.length d] 44)) (.cells #[.slice A' n2 c',.slice B' fs.length d'] 44)) (.cells #[.bool false,.slice none 0 0,.slice none 0 0] 40)
 rw [show (w.alloc (.cells #[.slice A n1 c,.slice B es.length d] 44)).heap.size=w.heap.size+1 by simp] at hx1
 have hx2:=zbI ((w.alloc (.cells #[.slice A n1 c,.slice B es.length d] 44)).alloc (.cells #[.slice A' n2 c',.slice B' fs.length d'] 44)) (.cells #[.bool false,.slice none 0 0,.slice none 0 0] 40)
 rw [show ((w.alloc (.cells #[.slice A n1 c,.slice B es.length d] 44)).alloc (.cells #[.slice A' n2 c',.slice B' fs.length d'] 44)).heap.size=w.heap.size+1+1 by simp] at hx2
 have hbw:Below w.heap.size w (((w.alloc (.cells #[.slice A n1 c,.slice B es.length d] 44)).alloc (.cells #[.slice A' n2 c',.slice B' fs.length d'] 44)).alloc (.cells #[.bool false,.slice none 0 0,.slice none 0 0] 40)):=zbn (zbn (zbn (Below.refl _ _) _) _) _
 generalize (((w.alloc (.cells #[.slice A n1 c,.slice B es.length d] 44)).alloc (.cells #[.slice A' n2 c',.slice B' fs.length d'] 44)).alloc (.cells #[.bool false,.slice none 0 0,.slice none 0 0] 40))=W0 at hx0 hx1 hx2 hbw ⊢
 refine(ref_int_n (x:=0) W0 (by decide) (by decide)).mono ?_
 rintro e W1 ⟨v,rfl,hQ,hB⟩
 rw [show ((decide ((0:Int) < 0),(0:Int).natAbs,1):QN)=(false,0,1) from rfl] at hQ
 obtain⟨v1,v2,rfl,R1,R2⟩:=hQ
 obtain⟨D1,m1,rfl⟩:=Kd.R_slice R1
 obtain⟨D2,m2,rfl⟩:=Kd.R_slice R2
 obtain⟨gs,hgs⟩:∃ g,g=W1.heap.size:=⟨_,rfl⟩
 have HS0:=Aside0.mk (show SR_ w (W1.alloc (.cells #[.bool false,.slice D1 (dg 10000 0).length m1,.slice D2 (dg 10000 1).length m2] 40)) gs (dotP es fs 0) (W1.alloc (.cells #[.bool false,.slice D1 (dg 10000 0).length m1,.slice D2 (dg 10000 1).length m2] 40)) from ⟨⟨D1,m1,D2,m2,by rw [hgs]; exact zbI W1 _,⟨_,_,rfl,Kd.R_alloc (Kd.R_lower R1 hbw.size) _,Kd.R_alloc (Kd.R_lower R2 hbw.size) _⟩⟩,Below.refl _ _⟩)
 have HX:=Aside0.mk (And.intro (zbt (zbr hx0 hB) (.cells #[.bool false,.slice D1 (dg 10000 0).length m1,.slice D2 (dg 10000 1).length m2] 40)) (And.intro (zbt (zbr hx1 hB) (.cells #[.bool false,.slice D1 (dg 10000 0).length m1,.slice D2 (dg 10000 1).length m2] 40)) (And.intro (zbt (zbr hx2 hB) (.cells #[.bool false,.slice D1 (dg 10000 0).length m1,.slice D2 (dg 10000 1).length m2] 40)) (zbn (zbm hbw hB) (.cells #[.bool false,.slice D1 (dg 10000 0).length m1,.slice D2 (dg 10000 1).length m2] 40)))))
 have HGO:=Aside0.mk (show w.heap.size+1+1 < gs by rw [hgs]; exact zbL (zbr hx2 hB))
 clear hx0 hx1 hx2 hbw hB R1 R2
 go_wp2_with fail
 rw [← hgs]
 clear hgs
 generalize W1.alloc (.cells #[.bool false,.slice D1 (dg 10000 0).length m1,.slice D2 (dg 10000 1).length m2] 40)=W2 at HS0 HX ⊢
 go_loopw [6] (fun iv wr=>∃ i:Nat,iv=.int .i64 i∧i≤es.length∧Aside0 (SR_ w W2 gs (dotP es fs i) wr)) (fun iv _=>es.length-(intOf iv).toNat)
 case atStart=>exact⟨0,rfl,by omega,HS0⟩
 case round =>
  obtain⟨i,rfl,hi,HI⟩:=hrel
  have hle:=HLE.out
  have HW:=Aside0.mk (show Below w.heap.size w wr from HX.out.2.2.2.trans (HI.out.2.mono (by have:=HGO.out; omega)))
  have b0:wr.heap[w.heap.size]? = some (.cells #[.slice A n1 c,.slice B es.length d] 44 (0,0)):=(HI.out.2.block _ (by have:=HGO.out; omega)).trans HX.out.1
  have b1:wr.heap[w.heap.size+1]? = some (.cells #[.slice A' n2 c',.slice B' fs.length d'] 44 (0,0)):=(HI.out.2.block _ (by have:=HGO.out; omega)).trans HX.out.2.1
  have b2:wr.heap[w.heap.size+1+1]? = some (.cells #[.bool false,.slice none 0 0,.slice none 0 0] 40 (0,0)):=(HI.out.2.block _ (by have:=HGO.out; omega)).trans HX.out.2.2.1
  have HB:=Aside0.mk (And.intro b0 (And.intro b1 b2))
  obtain⟨⟨F1,f1,F2,f2,hg,hq⟩,-⟩:=HI.out
  clear b0 b1 b2
  have c1:wr.cell? ⟨w.heap.size,1,none⟩=some (.slice B es.length d):=(zbq HB.out.1 1).trans rfl
  have c2:wr.cell? ⟨w.heap.size+1,1,none⟩=some (.slice B' fs.length d'):=(zbq HB.out.2.1 1).trans rfl
  by_cases hlt:i < es.length
  ·
   skip
   obtain⟨ad,aA,aa,aB,ab,e,a0,a1,a2,al1,ag1,al2,ag2⟩:=at_R HR2.out (i:Int) (by omega) (by omega)
   subst e
   obtain⟨bd,bA,ba,bB,bb,e,b0,b1,b2,bl1,bg1,bl2,bg2⟩:=at_R HR4.out (i:Int) (by omega) (by omega)
   subst e
   rw [Int.toNat_natCast] at a0 a1 a2 b0 b1 b2
   rw [rd_R_es es hlt] at a0 a1 a2 al1 ag1 al2 ag2
   rw [rd_R_es fs (by omega)] at b0 b1 b2 bl1 bg1 bl2 bg2
   have HCA:=Aside0.mk (fun (W:World) (hb:Below w.heap.size w W)=>(show QD W (.agg #[.bool (SQ (eN (M.rd_T27 es (i:Int)))).f0,.slice aA (SQ (eN (M.rd_T27 es (i:Int)))).f1.length aa,.slice aB (SQ (eN (M.rd_T27 es (i:Int)))).f2.length ab]) (eN (M.rd_T27 es (i:Int))) from ⟨_,_,rfl,⟨_,_,rfl,Kd.C_below ag1 hb,al1⟩,⟨_,_,rfl,Kd.C_below ag2 hb,al2⟩⟩))
   have HCB:=Aside0.mk (fun (W:World) (hb:Below w.heap.size w W)=>(show QD W (.agg #[.bool (SQ (eN (M.rd_T27 fs (i:Int)))).f0,.slice bA (SQ (eN (M.rd_T27 fs (i:Int)))).f1.length ba,.slice bB (SQ (eN (M.rd_T27 fs (i:Int)))).f2.length bb]) (eN (M.rd_T27 fs (i:Int))) from ⟨_,_,rfl,⟨_,_,rfl,Kd.C_below bg1 hb,bl1⟩,⟨_,_,rfl,Kd.C_below bg2 hb,bl2⟩⟩))
   have hfl:i < fs.length:=by omega
   have HS:Aside0 (∀ w':World,Below wr.heap.size wr w'→(w'.cell? ⟨gs,0,none⟩=some (.bool (dotP es fs i).1)∧w'.cell? ⟨gs,1,none⟩=some (.slice F1 (dg 10000 (dotP es fs i).2.1).length f1)∧w'.cell? ⟨gs,2,none⟩=some (.slice F2 (dg 10000 (dotP es fs i).2.2).length f2)∧w'.cell? ⟨w.heap.size,1,none⟩=some (.slice (some ad) es.length d)∧w'.cell? ⟨w.heap.size+1,1,none⟩=some (.slice (some bd) fs.length d')∧w'.cell? (ad.add (i*3))=some (.bool (SQ (eN (M.rd_T27 es (i:Int)))).f0)∧w'.cell? ⟨(ad.add (i*3)).block,(ad.add (i*3)).off+1,none⟩=some (.slice aA (SQ (eN (M.rd_T27 es (i:Int)))).f1.length aa)∧w'.cell? ⟨(ad.add (i*3)).block,(ad.add (i*3)).off+2,none⟩=some (.slice aB (SQ (eN (M.rd_T27 es (i:Int)))).f2.length ab)∧w'.cell? (bd.add (i*3))=some (.bool (SQ (eN (M.rd_T27 fs (i:Int)))).f0)∧w'.cell? ⟨(bd.add (i*3)).block,(bd.add (i*3)).off+1,none⟩=some (.slice bA (SQ (eN (M.rd_T27 fs (i:Int)))).f1.length ba)∧w'.cell? ⟨(bd.add (i*3)).block,(bd.add (i*3)).off+2,none⟩=some (.slice bB (SQ (eN (M.rd_T27 fs (i:Int)))).f2.length bb))):=⟨fun w' h=>⟨(h.cell (World.block_lt_of_cell? wr _ ((zbq hg 0).trans rfl))).trans ((zbq hg 0).trans rfl),(h.cell (World.block_lt_of_cell? wr _ ((zbq hg 1).trans rfl))).trans ((zbq hg 1).trans rfl),(h.cell (World.block_lt_of_cell? wr _ ((zbq hg 2).trans rfl))).trans ((zbq hg 2).trans rfl),(h.cell (World.block_lt_of_cell? wr _ (c1))).trans (c1),(h.cell (World.block_lt_of_cell? wr _ (c2))).trans (c2),(h.cell (World.block_lt_of_cell? wr _ ((HW.out.cell (World.block_lt_of_cell? w _ a0)).trans a0))).trans ((HW.out.cell (World.block_lt_of_cell? w _ a0)).trans a0),(h.cell (World.block_lt_of_cell? wr _ ((HW.out.cell (World.block_lt_of_cell? w _ a1)).trans a1))).trans ((HW.out.cell (World.block_lt_of_cell? w _ a1)).trans a1),(h.cell (World.block_lt_of_cell? wr _ ((HW.out.cell (World.block_lt_of_cell? w _ a2)).trans a2))).trans ((HW.out.cell (World.block_lt_of_cell? w _ a2)).trans a2),(h.cell (World.block_lt_of_cell? wr _ ((HW.out.cell (World.block_lt_of_cell? w _ b0)).trans b0))).trans ((HW.out.cell (World.block_lt_of_cell? w _ b0)).trans b0),(h.cell (World.block_lt_of_cell? wr _ ((HW.out.cell (World.block_lt_of_cell? w _ b1)).trans b1))).trans ((HW.out.cell (World.block_lt_of_cell? w _ b1)).trans b1),(h.cell (World.block_lt_of_cell? wr _ ((HW.out.cell (World.block_lt_of_cell? w _ b2)).trans b2))).trans ((HW.out.cell (World.block_lt_of_cell? w _ b2)).trans b2)⟩⟩
   have HV:=Aside0.mk (And.intro hg hq)
   clear hg hq
   obtain⟨s0,s1,s2,s3,s4,s5,s6,s7,s8,s9,s10⟩:=HS.out wr (Below.refl _ _)
   go_wp2_with fail
   clear c1 c2 a0 a1 a2 b0 b1 b2 al1 ag1 al2 ag2 bl1 bg1 bl2 bg2 s0 s1 s2 s3 s4 s5 s6 s7 s8 s9 s10
   refine zco (n:=14) (S:=fun w'=>(w'.cell? ⟨gs,0,none⟩=some (.bool (dotP es fs i).1)∧w'.cell? ⟨gs,1,none⟩=some (.slice F1 (dg 10000 (dotP es fs i).2.1).length f1)∧w'.cell? ⟨gs,2,none⟩=some (.slice F2 (dg 10000 (dotP es fs i).2.2).length f2)∧w'.cell? ⟨w.heap.size,1,none⟩=some (.slice (some ad) es.length d)∧w'.cell? ⟨w.heap.size+1,1,none⟩=some (.slice (some bd) fs.length d')∧w'.cell? (ad.add (i*3))=some (.bool (SQ (eN (M.rd_T27 es (i:Int)))).f0)∧w'.cell? ⟨(ad.add (i*3)).block,(ad.add (i*3)).off+1,none⟩=some (.slice aA (SQ (eN (M.rd_T27 es (i:Int)))).f1.length aa)∧w'.cell? ⟨(ad.add (i*3)).block,(ad.add (i*3)).off+2,none⟩=some (.slice aB (SQ (eN (M.rd_T27 es (i:Int)))).f2.length ab)∧w'.cell? (bd.add (i*3))=some (.bool (SQ (eN (M.rd_T27 fs (i:Int)))).f0)∧w'.cell? ⟨(bd.add (i*3)).block,(bd.add (i*3)).off+1,none⟩=some (.slice bA (SQ (eN (M.rd_T27 fs (i:Int)))).f1.length ba)∧w'.cell? ⟨(bd.add (i*3)).block,(bd.add (i*3)).off+2,none⟩=some (.slice bB (SQ (eN (M.rd_T27 fs (i:Int)))).f2.length bb))) (ds:=[13]) #[zf,zf,zf,zf,zf,zf,zf,zf,zf,zf,zf,zf,zf,zf] (by kernel_rfl) rfl rfl ((HS.out _ (zbs (Below.refl _ _)))) (fun hHeld=>?_)
   refine zcf tdotR.tab5 tdotR.bits5 (fun HT_ HW_=>?_)
   have hb0:=Aside0.mk (show Below wr.heap.size wr wr.drew from zbs (Below.refl _ _))
   generalize wr.drew=V0 at hb0 hHeld ⊢
   refine qpT 1 (some 23) ?_
   refine qpT 3 (some 25) ?_
   refine qpT 6 (some 28) ?_
   refine qpT 8 (some 30) ?_
   refine qtT 0 (some 22) ?_
   refine qtT 2 (some 24) ?_
   refine qpT 4 (some 26) ?_
   refine qtT 5 (some 27) ?_
   refine qtT 7 (some 29) ?_
   refine qpT 9 (some 31) ?_
   refine qtT 10 (some 32) ?_
   refine qoT 11 (some 33) (fun K hK=>?_)
   refine qg Tryz.func96 #[.agg #[.bool (SQ (eN (M.rd_T27 es (i:Int)))).f0,.slice aA (SQ (eN (M.rd_T27 es (i:Int)))).f1.length aa,.slice aB (SQ (eN (M.rd_T27 es (i:Int)))).f2.length ab],.agg #[.bool (SQ (eN (M.rd_T27 fs (i:Int)))).f0,.slice bA (SQ (eN (M.rd_T27 fs (i:Int)))).f1.length ba,.slice bB (SQ (eN (M.rd_T27 fs (i:Int)))).f2.length bb]] ?_
   refine(refmul_n (HCA.out V0 (zbm HW.out hb0.out)) (HCB.out V0 (zbm HW.out hb0.out)) (HMM.out.2.2.1 i) (HMM.out.2.2.2 i) HM0.out).mono ?_
   rintro e V1 ⟨v,rfl,hQ,hB⟩
   obtain⟨v1,v2,rfl,R1,R2⟩:=hQ
   obtain⟨G1,h1,rfl⟩:=Kd.R_slice R1
   obtain⟨G2,h2,rfl⟩:=Kd.R_slice R2
   refine⟨_,rfl,?_⟩
   have hb1:=Aside0.mk (zbm hb0.out hB)
   have HP:=Aside0.mk (show QD V1 (.agg #[.bool (mulQ (eN (M.rd_T27 es (i:Int))) (eN (M.rd_T27 fs (i:Int)))).1,.slice G1 (dg 10000 (mulQ (eN (M.rd_T27 es (i:Int))) (eN (M.rd_T27 fs (i:Int)))).2.1).length h1,.slice G2 (dg 10000 (mulQ (eN (M.rd_T27 es (i:Int))) (eN (M.rd_T27 fs (i:Int)))).2.2).length h2]) (mulQ (eN (M.rd_T27 es (i:Int))) (eN (M.rd_T27 fs (i:Int)))) from ⟨_,_,rfl,R_DT R1,R_DT R2⟩)
   clear hB hb0 R1 R2
   refine hK.out _ _ ((HS.out _ hb1.out)) (fun hHeld=>?_)
   clear hK K
   refine qn ?_
   refine qoT 12 (some 34) (fun K hK=>?_)
   refine qg Tryz.func95 #[.agg #[.bool (dotP es fs i).1,.slice F1 (dg 10000 (dotP es fs i).2.1).length f1,.slice F2 (dg 10000 (dotP es fs i).2.2).length f2],.agg #[.bool (mulQ (eN (M.rd_T27 es (i:Int))) (eN (M.rd_T27 fs (i:Int)))).1,.slice G1 (dg 10000 (mulQ (eN (M.rd_T27 es (i:Int))) (eN (M.rd_T27 fs (i:Int)))).2.1).length h1,.slice G2 (dg 10000 (mulQ (eN (M.rd_T27 es (i:Int))) (eN (M.rd_T27 fs (i:Int)))).2.2).length h2]] ?_
   refine(refadd_n (HV.out.2.below hb1.out).qd HP.out (HMM.out.1 i (by omega)) (HMM.out.2.1 i) HM0.out).mono ?_
   rintro e V2 ⟨v,rfl,hQ,hB⟩
   obtain⟨v1,v2,rfl,R1,R2⟩:=hQ
   obtain⟨G3,h3,rfl⟩:=Kd.R_slice R1
   obtain⟨G4,h4,rfl⟩:=Kd.R_slice R2
   refine⟨_,rfl,?_⟩
   have hsz:=Nat.le_trans HW.out.size hb1.out.size
   have HT:=Aside0.mk (show QT V2 w.heap.size (.agg #[.bool (addQ (dotP es fs i) (mulQ (eN (M.rd_T27 es (i:Int))) (eN (M.rd_T27 fs (i:Int))))).1,.slice G3 (dg 10000 (addQ (dotP es fs i) (mulQ (eN (M.rd_T27 es (i:Int))) (eN (M.rd_T27 fs (i:Int))))).2.1).length h3,.slice G4 (dg 10000 (addQ (dotP es fs i) (mulQ (eN (M.rd_T27 es (i:Int))) (eN (M.rd_T27 fs (i:Int))))).2.2).length h4]) (addQ (dotP es fs i) (mulQ (eN (M.rd_T27 es (i:Int))) (eN (M.rd_T27 fs (i:Int))))) from ⟨_,_,rfl,Kd.R_lower R1 hsz,Kd.R_lower R2 hsz⟩)
   have hb2:=Aside0.mk (zbm hb1.out hB)
   clear hB hb1 R1 R2 hsz HP
   refine hK.out _ _ ((HS.out _ hb2.out)) (fun hHeld=>?_)
   clear hK K
   refine qn ?_
   refine qlT 13 none (fun K hK=>?_)
   have hbg:=zbr HV.out.1 hb2.out
   obtain⟨⟨k0,k1,k2⟩,j0,j1,j2⟩:=zbH hbg
   refine skip_ (w1:=?_) (by rfl) rfl ?_ ?_
   rotate_left
   · go_simp
     rfl
   refine hK.out _ _ ?_
   clear hK K
   refine done_ (done_of HT_.out (by kernel_rfl)) ?_
   clear hHeld k0 k1 k2 j0 j1 j2
   go_wp2
   go_roundw
   case rel =>
    refine⟨i+1,by go_num,by omega,⟨⟨G3,h3,G4,h4,zbM hbg _ _ _,HT.out.store3 hbg _ _ _⟩,?_⟩⟩
    have hgo:=HGO.out
    exact store3_belowG ((HI.out.2.trans (hb2.out.mono (Nat.le_of_lt (zbL HV.out.1))))) (Nat.le_refl _) _ _ _
   case measure=>simp [intOf]; omega
  ·
   have hie:i=es.length:=by omega
   subst hie
   obtain⟨⟨z0,z1,z2⟩,z3,z4,z5⟩:=zbH HB.out.2.2
   obtain⟨⟨k0,k1,k2⟩,-⟩:=zbH hg
   have HV:=Aside0.mk hq
   clear hg hq
   go_wp2
   refine bodyPost_ret (results_cell_row rfl _ _ (w.heap.size+1+1) 40 _ (0,0) _ rfl (zbM HB.out.2.2 _ _ _) huR rfl (by kernel_rfl)) rfl ?_
   exact⟨_,rfl,HV.out.store3 HB.out.2.2 _ _ _,store3_belowG HW.out (by omega) _ _ _⟩
end Go.Proofs.YtehghijlchpeaaaGreat.Nat1
end
section
namespace Go.Proofs.YtehghijlchpeaaaGreat.Nat1
open Go.RowKit YtehghijlchpeaaaGreatW.PrintWords YtehghijlchpeaaaGreatW.PrintLast YtehghijlchpeaaaGreatW.PrintMore L Nt Ev
def iR (x:Int):SR:=⟨decide (x < 0),dg 10000 x.natAbs,dg 10000 1⟩
structure OW (w:World) (S:Value) (l:List Int) (i:Nat) (W:World):Prop where
 v:∃ (E:Option Addr) (cE:Nat),W.heap[w.heap.size+1]? = some (.cells #[S,.slice E (l.take i).length cE] 44 (0,0))∧Kd.R kR 40 W w.heap.size (fun k=>w.heap.size+1 < k) (.slice E (l.take i).length cE) ((l.take i).map iR)
 bz:W.heap[w.heap.size]? = some (.cells #[.slice none 0 0,.slice none 0 0] 30 (0,0))
 be:Below w.heap.size w W
theorem take_succ_i {l:List Int} {i:Nat} (h:i < l.length):l.take (i+1)=l.take i++[rd l (i:Int)]:=by
 rw [List.take_succ_eq_append_getElem h]
 congr 1
 simp [rd,List.getD_eq_getElem?_getD,List.getElem?_eq_getElem h]
theorem rd_mem_i {l:List Int} {i:Nat} (h:i < l.length):rd l (i:Int)∈l:=by
 unfold rd
 rw [Int.toNat_natCast,List.getD_eq_getElem?_getD,List.getElem?_eq_getElem h]
 exact List.getElem_mem h
theorem twhole_n (g:SR→M.S27) (A:Option Addr) (c:Nat) (sh:List Int) (B:Option Addr) (d:Nat) (l:List Int) (w:World) (hr1:Kd.C (Kd.int .i64) w A sh.length sh) (hc1:sh.length≤c) (hr2:Kd.C (Kd.int .i64) w B l.length l) (hc2:l.length≤d) (hl1:sh.length≤1099511627776) (hlen:l.length≤1099511627776) (hb:∀ x∈l,-9223372036854775808≤x∧x < 9223372036854775808) (hg:∀ x∈l.map iR,∃ k,M.fluxionref03_Back.f k x.f0 x.f1 x.f2=some ((g x).f0,(g x).f1,(g x).f2)) :
  Calls Tryz.prog 79 #[.slice A sh.length c,.slice B l.length d] w fun e w'=>∃ A' c' B' d',e=.returned (.agg #[.slice A' sh.length c',.slice B' l.length d']) ∧
   Kd.R (Kd.int .i64) 3 w' w.heap.size (fun _=>True) (.slice A' sh.length c') sh∧Kd.R M.k27 27 w' w.heap.size (fun _=>True) (.slice B' l.length d') (l.map (fun x=>g (iR x)))∧Below w.heap.size w w':=by
 have hu67:=Tryz.underlying30
 have huT:=Tryz.underlying44
 have huR:=Tryz.underlying40
 have HRC:=Aside0.mk (fun (W:World) (hb:Below w.heap.size w W)=>Kd.C_below hr1 hb)
 have HR2:=Aside0.mk hr2
 have HBD:=Aside0.mk hb
 have HG:=Aside0.mk hg
 clear hr1 hr2 hb hg
 go_enter Tryz.func79,Tryz.ntmps79
 go_wp2_with fail
 have hx0:=zbt (zbI w (.cells #[.slice none 0 0,.slice none 0 0] 30)) (.cells #[.slice A sh.length c,.slice none 0 0] 44)
 have hx1:=zbI (w.alloc (.cells #[.slice none 0 0,.slice none 0 0] 30)) (.cells #[.slice A sh.length c,.slice none 0 0] 44)
 rw [show (w.alloc (.cells #[.slice none 0 0,.slice none 0 0] 30)).heap.size=w.heap.size+1 by simp] at hx1
 have hbw:Below w.heap.size w ((w.alloc (.cells #[.slice none 0 0,.slice none 0 0] 30)).alloc (.cells #[.slice A sh.length c,.slice none 0 0] 44)):=zbn (zbn (Below.refl _ _) _) _
 have HI0:=Aside0.mk (show OW w (.slice A sh.length c) l 0 ((w.alloc (.cells #[.slice none 0 0,.slice none 0 0] 30)).alloc (.cells #[.slice A sh.length c,.slice none 0 0] 44)) from ⟨⟨none,0,hx1,Kd.R_nil _ _ _ _ _⟩,hx0,hbw⟩)
 generalize ((w.alloc (.cells #[.slice none 0 0,.slice none 0 0] 30)).alloc (.cells #[.slice A sh.length c,.slice none 0 0] 44))=W2 at HI0 ⊢
 clear hx0 hx1 hbw
 go_loopw [6] (fun iv wr=>∃ i:Nat,iv=.int .i64 i∧i≤l.length∧Aside0 (OW w (.slice A sh.length c) l i wr)) (fun iv _=>l.length-(intOf iv).toNat)
 case atStart=>exact⟨0,rfl,by omega,HI0⟩
 case round =>
  obtain⟨i,rfl,hi,HI⟩:=hrel
  obtain⟨E,cE,hv1,hv2⟩:=HI.out.v
  by_cases hlt:i < l.length
  ·
   obtain⟨ad,e,q0⟩:=Kd.at_int HR2.out (i:Int) (by omega) (by omega)
   subst e
   rw [Int.toNat_natCast] at q0
   have hbd:=HBD.out _ (rd_mem_i hlt)
   have HCI:=Aside0.mk (fun (W:World)=>ref_int_n (x:=rd l (i:Int)) W hbd.1 hbd.2)
   have HV2:=Aside0.mk hv2
   obtain⟨n,hn⟩:∃ n,n=(l.take i).length:=⟨_,rfl⟩
   have HN:=Aside0.mk hn
   rw [← hn] at hv1
   clear hv2 hn hbd
   have HS:Aside0 (∀ w':World,Below w.heap.size w w'→w'.heap[w.heap.size+1]? = some (.cells #[.slice A sh.length c,.slice E n cE] 44 (0,0))→(w'.cell? ⟨w.heap.size+1,1,none⟩=some (.slice E n cE)∧w'.cell? (ad.add i)=some (.int .i64 (rd l (i:Int))))):=⟨fun w' h h1=>⟨(zbq h1 1).trans rfl,(h.cell (World.block_lt_of_cell? w _ q0)).trans q0⟩⟩
   clear q0
   obtain⟨s1,s2⟩:=(HS.out wr HI.out.be hv1)
   go_wp2_with fail
   clear s1 s2
   refine zco (n:=11) (S:=fun w'=>(w'.cell? ⟨w.heap.size+1,1,none⟩=some (.slice E n cE)∧w'.cell? (ad.add i)=some (.int .i64 (rd l (i:Int))))) (ds:=[10]) #[zf,zf,zf,zf,zf,zf,zf,zf,zf,zf,zf] (by kernel_rfl) rfl rfl ((HS.out _ (zbm HI.out.be (zbs (Below.refl _ _))) (zbu hv1))) (fun hHeld=>?_)
   have hb0:=Aside0.mk (show Below wr.heap.size wr wr.drew from zbs (Below.refl _ _))
   generalize wr.drew=V0 at hb0 hHeld ⊢
   refine qp 0 (some 15) ?_
   refine qp 2 (some 17) ?_
   refine qp 3 (some 18) ?_
   refine qp 4 (some 19) ?_
   refine qt 1 (some 16) ?_
   refine qt 5 (some 20) ?_
   refine qo 6 (some 21) (fun K hK=>?_)
   refine qg Tryz.func81 #[.int .i64 (rd l (i:Int))] ?_
   refine(HCI.out V0).mono ?_
   rintro e V1 ⟨v,rfl,⟨u1,u2,rfl,R1,R2⟩,hB⟩
   refine⟨_,rfl,?_⟩
   obtain⟨F1,f1,rfl⟩:=Kd.R_slice R1
   obtain⟨F2,f2,rfl⟩:=Kd.R_slice R2
   have HP:=Aside0.mk (kR_mkM V1 w.heap.size (fun k=>V0.heap.size≤k) (iR (rd l (i:Int))) (Kd.R_mono (Kd.R_lower (Kd.R_bound R1) (zbm HI.out.be hb0.out).size) (fun k hk=>hk.2.1)) (Kd.R_mono (Kd.R_lower (Kd.R_bound R2) (zbm HI.out.be hb0.out).size) (fun k hk=>hk.2.1)))
   have hb1:=Aside0.mk (zbm hb0.out hB)
   clear hB R1 R2
   refine hK.out _ _ ((HS.out _ (zbm HI.out.be hb1.out) (zbr hv1 hb1.out))) (fun hHeld=>?_)
   clear hK K
   refine qn ?_
   refine qo 7 (some 22) (fun K hK=>?_)
   refine qv ?_
   refine hK.out _ _ ((HS.out _ (zbn (zbm HI.out.be hb1.out) _) (zbt (zbr hv1 hb1.out) _))) (fun hHeld=>?_)
   clear hK K
   refine qn ?_
   refine qo 8 (some 23) (fun K hK=>?_)
   have hO:=Kd.R_below HV2.out hb1.out
   rw [← HN.out] at hO
   refine Kd.R_append_step kR (w0:=w) (W:=V1) w.heap.size (by rfl) (.tmp 16) (.tmp 22) 42 40 (.agg #[.bool false,.slice none 0 0,.slice none 0 0]) 56 rfl Tryz.underlying42 infoR rfl (by decide) (by decide) (.slice E n cE) ((l.take i).map iR) (iR (rd l (i:Int))) [.bool (iR (rd l (i:Int))).f0,.slice F1 (iR (rd l (i:Int))).f1.length f1,.slice F2 (iR (rd l (i:Int))).f2.length f2] (fun k=>w.heap.size+1 < k) (fun k=>V0.heap.size≤k) rfl rfl HP.out (fun k hk=>⟨by have:=zbL (zbr hv1 hb0.out); omega,fun e=>by have:=Kd.R_lt (Kd.R_below HV2.out hb0.out) k (by rw [← HN.out]; exact e.symm); omega⟩) (fun k hk=>by have:=zbL (zbr hv1 hb1.out); omega) hO (zbm HI.out.be hb1.out) (zbm HI.out.be hb1.out).size (by rw [List.length_map,List.length_take]; omega) ?_
   intro v1 V2 hR hB hG hat
   have hne:∀ b o,wr.heap[b]? = some o→b≤w.heap.size+1→V2.heap[b]? = some o:=fun b o hbo hle=>blk_grown (zbr hbo hb1.out) hG (fun e=>by have:=HV2.out.1 b (by rw [← HN.out]; exact e.symm); omega)
   obtain⟨E2,e2,rfl⟩:=Kd.R_slice hR
   have HQ:=Aside0.mk (And.intro hR (And.intro hB (And.intro (hne _ _ HI.out.bz (by omega)) (hne _ _ hv1 (Nat.le_refl _)))))
   clear hR hB hG hat hne hO
   refine hK.out _ _ ((HS.out _ HQ.out.2.1 HQ.out.2.2.2)) (fun hHeld=>?_)
   clear hK K
   refine qn ?_
   refine qp 9 (some 24) ?_
   refine ql 10 none (fun K hK=>?_)
   have hf3:=zbA HQ.out.2.2.2 1
   have hc3:V2.cell? ⟨w.heap.size+1,1,none⟩=some (.slice E n cE):=(zbq HQ.out.2.2.2 1).trans rfl
   refine qx ?_
   refine hK.out _ _ ?_
   clear hK K
   refine done_ (by kernel_rfl) ?_
   clear hHeld hf3 hc3
   go_wp2
   go_roundw
   case rel =>
    have he:(l.take (i+1)).map iR=(l.take i).map iR++[iR (rd l (i:Int))]:=by rw [take_succ_i hlt,List.map_append]; rfl
    have hln:(l.take (i+1)).length=((l.take i).map iR++[iR (rd l (i:Int))]).length:=by rw [← he,List.length_map]
    refine⟨i+1,by go_num,by omega,⟨⟨⟨E2,e2,?_,?_⟩,zbJ HQ.out.2.2.1 (by show w.heap.size≠w.heap.size+1; omega) _,zbB HQ.out.2.1 (by show w.heap.size≤w.heap.size+1; omega)⟩⟩⟩
    ·
     have hl:(l.take (i+1)).length=i+1:=by rw [List.length_take]; omega
     rw [hl]
     exact zbF (cs:=#[.slice A sh.length c,.slice E n cE]) HQ.out.2.2.2 1 _ rfl
    ·
     rw [hln,he]
     exact Kd.R_far (p:=⟨w.heap.size+1,1,none⟩) HQ.out.1 (fun k hk=>Nat.ne_of_gt hk) _
   case measure=>simp [intOf]; omega
  ·
   have hie:l.take i=l:=List.take_of_length_le (by omega)
   rw [hie] at hv1 hv2
   have o0:wr.cell? ⟨w.heap.size+1,0,none⟩=some (.slice A sh.length c):=(zbq hv1 0).trans rfl
   have o1:wr.cell? ⟨w.heap.size+1,1,none⟩=some (.slice E l.length cE):=(zbq hv1 1).trans rfl
   have hB2:=tback_n g A c sh E cE (l.map iR) wr (HRC.out _ HI.out.be) hc1 (by have:=(Kd.R_reads' hv2).2.2; exact this) (by rw [List.length_map]; exact(Kd.R_reads' hv2).2.1) hl1 (by rw [List.length_map]; exact hlen) HG.out
   rw [List.length_map] at hB2
   have HB2:=Aside0.mk hB2
   clear hv1 hv2 hie hB2
   go_wp2_with fail
   clear o0 o1
   refine HB2.out.mono ?_
   rintro e W3 ⟨A',c',B',d',rfl,R1,R2,hB⟩
   have hz:=zbr HI.out.bz hB
   have z0:W3.cell? ⟨w.heap.size,0,none⟩=some (.slice none 0 0):=(zbq hz 0).trans rfl
   have z1:W3.cell? ⟨w.heap.size,1,none⟩=some (.slice none 0 0):=(zbq hz 1).trans rfl
   have y0:=zbA hz 0
   have y1:=zbA hz 1
   have HE:=Aside0.mk (And.intro R1 (And.intro R2 (And.intro hz (zbm HI.out.be hB))))
   have HSZ:=Aside0.mk HI.out.be.size
   have HLW:=Aside0.mk (zbL HI.out.bz)
   clear R1 R2 hz hB HB2
   go_wp2
   have hn1:=zbF (cs':=#[.slice A' sh.length c',.slice B' l.length d']) (zbF (cs':=#[.slice A' sh.length c',.slice none 0 0]) HE.out.2.2.1 0 (.slice A' sh.length c') rfl) 1 (.slice B' l.length d') rfl
   refine bodyPost_ret (results_cell_row rfl _ _ w.heap.size 30 _ (0,0) _ rfl hn1 hu67 rfl (by kernel_rfl)) rfl ?_
   have hlw:=HLW.out
   have h1:Kd.R (Kd.int .i64) 3 W3 w.heap.size (fun k=>k≠w.heap.size) (.slice A' sh.length c') sh:=Kd.R_mono (Kd.R_lower (Kd.R_bound HE.out.1) HSZ.out) (fun k hk=>by have:=hk.2.1; omega)
   have h2:Kd.R M.k27 27 W3 w.heap.size (fun k=>k≠w.heap.size) (.slice B' l.length d') ((l.map iR).map g):=Kd.R_mono (Kd.R_lower (Kd.R_bound HE.out.2.1) HSZ.out) (fun k hk=>by have:=hk.2.1; omega)
   rw [List.map_map] at h2
   exact⟨A',c',B',d',rfl,Kd.R_mono (Kd.R_far (p:=⟨w.heap.size,1,none⟩) (Kd.R_far (p:=⟨w.heap.size,0,none⟩) h1 (fun k hk=>hk) _) (fun k hk=>hk) _) (fun _ _=>trivial),
    Kd.R_mono (Kd.R_far (p:=⟨w.heap.size,1,none⟩) (Kd.R_far (p:=⟨w.heap.size,0,none⟩) h2 (fun k hk=>hk) _) (fun k hk=>hk) _) (fun _ _=>trivial),
    zbB (zbB HE.out.2.2.2 (Nat.le_refl _)) (Nat.le_refl _)⟩
end Go.Proofs.YtehghijlchpeaaaGreat.Nat1
end
section
namespace Go.Proofs.YtehghijlchpeaaaGreat.Nat1
open Go.RowKit YtehghijlchpeaaaGreatW.PrintWords YtehghijlchpeaaaGreatW.PrintLast YtehghijlchpeaaaGreatW.PrintMore L Nt Ev
def lS (x:Int):M.S27:=⟨false,[x],[1]⟩
def es4:List M.S27:=[lS 1,lS 2,lS 3,lS 4]
def gk (x:SR):M.S27:=⟨x.f0,x.f1,x.f2⟩
theorem dgk {n:Nat} (h0:0 < n) (h:n < 10000):dg 10000 n=[(n:Int)]:=by
 rw [dg_pos (by decide) h0,Nat.mod_eq_of_lt h,Nat.div_eq_of_lt h,zbT]
theorem iR_lit {x:Nat} (h0:0 < x) (h:x < 10000):iR (x:Int)=⟨false,[(x:Int)],[1]⟩:=by
 unfold iR
 rw [decide_eq_false (by omega),Int.natAbs_natCast,dgk h0 h,dgk (by decide) (by decide)]
 rfl
theorem es4_map:([1,2,3,4]:List Int).map (fun x=>gk (iR x))=es4:=by
 simp only [List.map_cons,List.map_nil]
 rw [show iR 1=_ from iR_lit (x:=1) (by decide) (by decide),show iR 2=_ from iR_lit (x:=2) (by decide) (by decide),show iR 3=_ from iR_lit (x:=3) (by decide) (by decide),show iR 4=_ from iR_lit (x:=4) (by decide) (by decide)]
 rfl
theorem back4:∀ x∈([1,2,3,4]:List Int).map iR,∃ k,M.fluxionref03_Back.f k x.f0 x.f1 x.f2=some ((gk x).f0,(gk x).f1,(gk x).f2):=by
 simp only [List.map_cons,List.map_nil]
 rw [show iR 1=_ from iR_lit (x:=1) (by decide) (by decide),show iR 2=_ from iR_lit (x:=2) (by decide) (by decide),show iR 3=_ from iR_lit (x:=3) (by decide) (by decide),show iR 4=_ from iR_lit (x:=4) (by decide) (by decide)]
 intro x hx
 simp only [List.mem_cons,List.not_mem_nil,or_false] at hx
 rcases hx with rfl | rfl | rfl | rfl
 ·
  exact⟨10,by kernel_rfl⟩
 ·
  exact⟨10,by kernel_rfl⟩
 ·
  exact⟨10,by kernel_rfl⟩
 ·
  exact⟨10,by kernel_rfl⟩
theorem es4_all {P:M.S27→Prop} (h:∀ x:Nat,0 < x→x < 5→P (lS x)):∀ x∈es4,P x:=by
 intro x hx
 simp only [es4,List.mem_cons,List.not_mem_nil,or_false] at hx
 rcases hx with rfl | rfl | rfl | rfl
 ·
  exact h 1 (by decide) (by decide)
 ·
  exact h 2 (by decide) (by decide)
 ·
  exact h 3 (by decide) (by decide)
 ·
  exact h 4 (by decide) (by decide)
theorem okS_one {x:Nat} (h:x < 5):okS [(x:Int)]:=⟨fun y hy=>by rw [List.mem_singleton.1 hy]; unfold B32; omega,by simp⟩
theorem es4_ok:∀ x∈es4,eOk x∧x.f1.length≤1∧x.f2.length≤1:=es4_all (fun x h0 h=>⟨⟨okS_one h,okS_one (x:=1) (by decide)⟩,Nat.le_refl _,Nat.le_refl _⟩)
theorem val_lit (x:Nat):val B32 [(x:Int)]=x:=by simp [val]
theorem val_1:val B32 [1]=1:=by decide
theorem nrm_one (x:Nat):nrm false x 1=(false,x,1)∨x=0:=by
 rcases Nat.eq_zero_or_pos x with h | h
 ·
  exact Or.inr h
 ·
  left
  unfold nrm
  rw [if_neg (by omega),Nat.gcd_one_right,Nat.div_one]
theorem eN_lS {x:Nat} (h0:0 < x):eN (lS x)=(false,x,1):=by
 unfold eN lS
 simp only [val_lit,val_1]
 rcases nrm_one x with h | h
 ·
  exact h
 ·
  omega
theorem tmay4:tmayV [2,2] es4=0:=by
 have h:fitV [2,2] es4.length=0:=by decide
 unfold tmayV
 rw [if_pos h,if_pos]
 refine es4_all (fun x h0 h=>?_)
 unfold eV mayV lS
 simp only [val_lit,val_1]
 rw [show nrm false x 1=(false,x,1) from (nrm_one x).resolve_right (by omega),if_pos]
 refine⟨rfl,?_,?_⟩
 ·
  show [(x:Int)]=dg B32 x
  rw [dg_lit h0 (by unfold B32; omega)]
 ·
  show [(1:Int)]=dg B32 1
  rw [dg_lit (by decide) (by decide)]
  rfl
theorem bits_4:bitsL 0 es4=3:=by decide
theorem dot_4:dotP es4 es4 es4.length=(false,30,1):=by decide
theorem C_lits {W:World} {b t:Nat} {l:List Int} (h:W.heap[b]? = some (.cells (l.map (Value.int .i64)).toArray t (0,0))) (hl:l.length≤9223372036854775807):Kd.C (Kd.int .i64) W (some ⟨b,0,none⟩) l.length l :=
 ⟨rfl,hl,fun _=>⟨_,rfl,fun j p hp=>⟨[.int .i64 p],rfl,rfl,fun i u hu=>by
  rcases i with _ | i
  ·
   have hu:Value.int .i64 p=u:=Option.some.inj hu
   subst hu
   have hj:=zbq h j
   have e:(⟨b,0,none⟩:Addr).add (j*1+0)=⟨b,j,none⟩:=by simp [Addr.add]; intro h; omega
   show W.cell? ((⟨b,0,none⟩:Addr).add (j*1+0))=_
   rw [e,hj]
   simp [hp]
  ·
   simp at hu⟩⟩⟩
theorem C_rat3 {W:World} {b t:Nat} {x y z:M.S27} {a1 a2 a3 b1 b2 b3 c1 c2 c3:Value} (h:W.heap[b]? = some (.cells #[a1,a2,a3,b1,b2,b3,c1,c2,c3] t (0,0))) (h1:M.k27.K W x [a1,a2,a3]) (h2:M.k27.K W y [b1,b2,b3]) (h3:M.k27.K W z [c1,c2,c3]):Kd.C M.k27 W (some ⟨b,0,none⟩) 3 [x,y,z]:=by
 have key:∀ (j i:Nat) (u:Value),(#[a1,a2,a3,b1,b2,b3,c1,c2,c3]:Array Value)[j*3+i]? = some u→W.cell? ((⟨b,0,none⟩:Addr).add (j*3+i))=some u:=by
  intro j i u hu
  have:=zbq h (j*3+i)
  have e:(⟨b,0,none⟩:Addr).add (j*3+i)=⟨b,j*3+i,none⟩:=by simp [Addr.add]; intro h; omega
  rw [e]
  exact this.trans hu
 refine⟨rfl,by decide,fun _=>⟨_,rfl,fun j p hp=>?_⟩⟩
 rcases j with _ | _ | _ | j
 ·
  cases hp
  exact⟨_,rfl,h1,fun i u hu=>key 0 i u (by rcases i with _ | _ | _ | i<;>simp_all)⟩
 ·
  cases hp
  exact⟨_,rfl,h2,fun i u hu=>key 1 i u (by rcases i with _ | _ | _ | i<;>simp_all)⟩
 ·
  cases hp
  exact⟨_,rfl,h3,fun i u hu=>key 2 i u (by rcases i with _ | _ | _ | i<;>simp_all)⟩
 ·
  simp at hp
structure KT (w:World) (gt:Nat) (A:Option Addr) (c:Nat) (B:Option Addr) (d:Nat) (W:World):Prop where
 t:W.heap[gt]? = some (.cells #[.slice A 2 c,.slice B 4 d] 30 (0,0))
 s:Kd.C (Kd.int .i64) W A 2 [2,2]
 sc:2≤c
 e:Kd.C M.k27 W B 4 es4
 ec:4≤d
 be:Below w.heap.size w W
theorem KT.below {w W W':World} {gt:Nat} {A:Option Addr} {c:Nat} {B:Option Addr} {d:Nat} (h:KT w gt A c B d W) (hb:Below W.heap.size W W'):KT w gt A c B d W' :=
 ⟨zbr h.t hb,Kd.C_below h.s hb,h.sc,Kd.C_below h.e hb,h.ec,zbm h.be hb⟩
def XB (w:World) (g:Nat) (X:QN) (A1:Option Addr) (c1:Nat) (A2:Option Addr) (c2:Nat) (W:World):Prop :=
 W.heap[g]? = some (.cells #[.bool X.1,.slice A1 (dg B32 X.2.1).length c1,.slice A2 (dg B32 X.2.2).length c2] 27 (0,0))∧RT W w.heap.size (.agg #[.bool X.1,.slice A1 (dg B32 X.2.1).length c1,.slice A2 (dg B32 X.2.2).length c2]) X
theorem XB.below {w W W':World} {g:Nat} {X:QN} {A1:Option Addr} {c1:Nat} {A2:Option Addr} {c2:Nat} (h:XB w g X A1 c1 A2 c2 W) (hb:Below W.heap.size W W'):XB w g X A1 c1 A2 c2 W':=⟨zbr h.1 hb,h.2.below hb⟩
theorem tknown_n (w:World):Calls Tryz.prog 26 #[] w fun e w'=>e=.returned (.bool true)∧Below w.heap.size w w':=by
 have hu67:=Tryz.underlying30
 have hu25:=Tryz.underlying27
 obtain⟨X,hX⟩:∃ X:QN,X=(false,3,1):=⟨_,rfl⟩
 obtain⟨Y,hY⟩:∃ Y:QN,Y=(false,30,1):=⟨_,rfl⟩
 have KX:=Aside0.mk (show red X∧okQ X from by rw [hX]; exact⟨⟨by decide,by decide,by decide⟩,okQ_small (by decide) (by decide)⟩)
 have KY:=Aside0.mk (show red Y∧okQ Y from by rw [hY]; exact⟨⟨by decide,by decide,by decide⟩,okQ_small (by decide) (by decide)⟩)
 have EX:=Aside0.mk hX
 have EY:=Aside0.mk hY
 clear hX hY
 go_enter Tryz.func26,Tryz.ntmps26
 go_wp2_with fail
 have hbw:Below w.heap.size w ((w.alloc (.cells #[.int .i64 2,.int .i64 2] 3)).alloc (.cells #[.int .i64 1,.int .i64 2,.int .i64 3,.int .i64 4] 3)):=zbn (zbn (Below.refl _ _) _) _
 have hC1:=C_lits (l:=[2,2]) (zbt (zbI w (.cells #[.int .i64 2,.int .i64 2] 3)) (.cells #[.int .i64 1,.int .i64 2,.int .i64 3,.int .i64 4] 3)) (by decide)
 have hC2:=C_lits (l:=[1,2,3,4]) (zbI (w.alloc (.cells #[.int .i64 2,.int .i64 2] 3)) (.cells #[.int .i64 1,.int .i64 2,.int .i64 3,.int .i64 4] 3)) (by decide)
 rw [show (w.alloc (.cells #[.int .i64 2,.int .i64 2] 3)).heap.size=w.heap.size+1 by simp] at hC2
 generalize ((w.alloc (.cells #[.int .i64 2,.int .i64 2] 3)).alloc (.cells #[.int .i64 1,.int .i64 2,.int .i64 3,.int .i64 4] 3))=W1 at hbw hC1 hC2 ⊢
 refine(twhole_n gk (some ⟨w.heap.size,0,none⟩) 2 [2,2] (some ⟨w.heap.size+1,0,none⟩) 4 [1,2,3,4] W1 hC1 (by decide) hC2 (by decide) (by decide) (by decide) (by decide) back4).mono ?_
 rintro e W2 ⟨A,c,B,d,he,R1,R2,hB⟩
 have he:e=.returned (.agg #[.slice A 2 c,.slice B 4 d]):=he
 subst he
 rw [es4_map] at R2
 have hA:=zbn (Below.refl W2.heap.size W2) (.cells #[.slice A 2 c,.slice B 4 d] 30)
 have HT:=Aside0.mk (show KT w W2.heap.size A c B d (W2.alloc (.cells #[.slice A 2 c,.slice B 4 d] 30)) from ⟨zbI W2 _,Kd.C_below (Kd.R_reads' R1).2.2 hA,(Kd.R_reads' R1).2.1,Kd.C_below (Kd.R_reads' R2).2.2 hA,(Kd.R_reads' R2).2.1,zbn (zbm hbw hB) _⟩)
 have c0:(W2.alloc (.cells #[.slice A 2 c,.slice B 4 d] 30)).cell? ⟨W2.heap.size,0,none⟩=some (.slice A 2 c):=(zbq HT.out.t 0).trans rfl
 have c1:(W2.alloc (.cells #[.slice A 2 c,.slice B 4 d] 30)).cell? ⟨W2.heap.size,1,none⟩=some (.slice B 4 d):=(zbq HT.out.t 1).trans rfl
 clear hA R1 R2 hB hbw hC1 hC2
 go_wp2_with fail
 clear c0 c1
 have hC1:=C_lits (l:=[1,0]) (zbI (W2.alloc (.cells #[.slice A 2 c,.slice B 4 d] 30)) (.cells #[.int .i64 1,.int .i64 0] 3)) (by decide)
 rw [show (W2.alloc (.cells #[.slice A 2 c,.slice B 4 d] 30)).heap.size=W2.heap.size+1 by simp] at hC1
 have hA:=zbn (Below.refl (W2.alloc (.cells #[.slice A 2 c,.slice B 4 d] 30)).heap.size (W2.alloc (.cells #[.slice A 2 c,.slice B 4 d] 30))) (.cells #[.int .i64 1,.int .i64 0] 3)
 replace HT:=Aside0.mk (HT.out.below hA)
 clear hA
 generalize ((W2.alloc (.cells #[.slice A 2 c,.slice B 4 d] 30)).alloc (.cells #[.int .i64 1,.int .i64 0] 3))=W3 at HT hC1 ⊢
 generalize W2.heap.size=gt at HT hC1 ⊢
 have hat:=at_n (sh:=[2,2]) (es:=es4) (ci:=2) (idx:=[1,0]) (k:=10) (o:=2) HT.out.s HT.out.sc HT.out.e HT.out.ec (by decide) (fun x hx=>(es4_ok x hx).1) hC1 (by decide) tmay4 (by kernel_rfl) (by decide)
 rw [show eN (M.rd_T27 es4 ((2:Nat):Int))=X from (eN_lS (x:=3) (by decide)).trans EX.out.symm] at hat
 refine hat.mono ?_
 clear hat hC1
 rintro e W4 ⟨A1,c1,A2,c2,rfl,hR,hB⟩
 have hA:=zbn (Below.refl W4.heap.size W4) (.cells #[.bool X.1,.slice A1 (dg B32 X.2.1).length c1,.slice A2 (dg B32 X.2.2).length c2] 27)
 have HX:=Aside0.mk (show XB w W4.heap.size X A1 c1 A2 c2 (W4.alloc (.cells #[.bool X.1,.slice A1 (dg B32 X.2.1).length c1,.slice A2 (dg B32 X.2.2).length c2] 27)) from ⟨zbI W4 _,(hR.lower HT.out.be.size).below hA⟩)
 replace HT:=Aside0.mk (HT.out.below (zbm hB hA))
 have d0:(W4.alloc (.cells #[.bool X.1,.slice A1 (dg B32 X.2.1).length c1,.slice A2 (dg B32 X.2.2).length c2] 27)).cell? ⟨gt,0,none⟩=some (.slice A 2 c):=(zbq HT.out.t 0).trans rfl
 have d1:(W4.alloc (.cells #[.bool X.1,.slice A1 (dg B32 X.2.1).length c1,.slice A2 (dg B32 X.2.2).length c2] 27)).cell? ⟨gt,1,none⟩=some (.slice B 4 d):=(zbq HT.out.t 1).trans rfl
 clear hA hR hB
 go_wp2_with fail
 clear d0 d1
 generalize W4.alloc (.cells #[.bool X.1,.slice A1 (dg B32 X.2.1).length c1,.slice A2 (dg B32 X.2.2).length c2] 27)=W5 at HX HT ⊢
 generalize W4.heap.size=gx at HX ⊢
 have hdot:=dot_n A c [2,2] B d es4 A c B d es4 1 W5 HT.out.s HT.out.sc HT.out.e HT.out.ec HT.out.s HT.out.sc HT.out.e HT.out.ec (by decide) rfl (by decide) (by decide) es4_ok es4_ok tmay4 tmay4 (by decide)
 rw [show dotP es4 es4 es4.length=Y from dot_4.trans EY.out.symm] at hdot
 refine hdot.mono ?_
 clear hdot
 rintro e W6 ⟨B1,b1,B2,b2,rfl,hR,hB⟩
 have hA:=zbn (Below.refl W6.heap.size W6) (.cells #[.bool Y.1,.slice B1 (dg B32 Y.2.1).length b1,.slice B2 (dg B32 Y.2.2).length b2] 27)
 have HY:=Aside0.mk (show XB w W6.heap.size Y B1 b1 B2 b2 (W6.alloc (.cells #[.bool Y.1,.slice B1 (dg B32 Y.2.1).length b1,.slice B2 (dg B32 Y.2.2).length b2] 27)) from ⟨zbI W6 _,(hR.lower HT.out.be.size).below hA⟩)
 replace HX:=Aside0.mk (HX.out.below (zbm hB hA))
 replace HT:=Aside0.mk (HT.out.below (zbm hB hA))
 clear hA hR hB
 go_wp2_with fail
 have hC1:=C_lits (l:=[2,2]) (zbI (W6.alloc (.cells #[.bool Y.1,.slice B1 (dg B32 Y.2.1).length b1,.slice B2 (dg B32 Y.2.2).length b2] 27)) (.cells #[.int .i64 2,.int .i64 2] 3)) (by decide)
 rw [show (W6.alloc (.cells #[.bool Y.1,.slice B1 (dg B32 Y.2.1).length b1,.slice B2 (dg B32 Y.2.2).length b2] 27)).heap.size=W6.heap.size+1 by simp] at hC1
 have hA:=zbn (Below.refl (W6.alloc (.cells #[.bool Y.1,.slice B1 (dg B32 Y.2.1).length b1,.slice B2 (dg B32 Y.2.2).length b2] 27)).heap.size (W6.alloc (.cells #[.bool Y.1,.slice B1 (dg B32 Y.2.1).length b1,.slice B2 (dg B32 Y.2.2).length b2] 27))) (.cells #[.int .i64 2,.int .i64 2] 3)
 replace HT:=Aside0.mk (HT.out.below hA)
 replace HX:=Aside0.mk (HX.out.below hA)
 replace HY:=Aside0.mk (HY.out.below hA)
 clear hA
 generalize ((W6.alloc (.cells #[.bool Y.1,.slice B1 (dg B32 Y.2.1).length b1,.slice B2 (dg B32 Y.2.2).length b2] 27)).alloc (.cells #[.int .i64 2,.int .i64 2] 3))=W7 at HT HX HY hC1 ⊢
 generalize W6.heap.size=gd at HY hC1 ⊢
 have HC:=Aside0.mk hC1
 clear hC1
 refine(int_n W7 (by decide) (by decide)).mono ?_
 rintro e W8 ⟨v,rfl,hR,hB⟩
 rw [show ((decide ((1:Int) < 0),(1:Int).natAbs,1):QN)=(false,1,1) from rfl] at hR
 obtain⟨P1,p1,Q1,q1,hv,-,-⟩:=hR.args
 have hv:v=.agg #[.bool false,.slice P1 (dg B32 1).length p1,.slice Q1 (dg B32 1).length q1]:=hv
 subst hv
 have hb:=Aside0.mk hB
 have HR1:=Aside0.mk hR
 replace HT:=Aside0.mk (HT.out.below hB)
 replace HX:=Aside0.mk (HX.out.below hB)
 replace HY:=Aside0.mk (HY.out.below hB)
 replace HC:=Aside0.mk (Kd.C_below HC.out hB)
 clear hb hB hR
 go_wp2_with fail
 refine(int_n W8 (by decide) (by decide)).mono ?_
 rintro e W9 ⟨v,rfl,hR,hB⟩
 rw [show ((decide ((2:Int) < 0),(2:Int).natAbs,1):QN)=(false,2,1) from rfl] at hR
 obtain⟨P2,p2,Q2,q2,hv,-,-⟩:=hR.args
 have hv:v=.agg #[.bool false,.slice P2 (dg B32 2).length p2,.slice Q2 (dg B32 1).length q2]:=hv
 subst hv
 have hb:=Aside0.mk hB
 replace HR1:=Aside0.mk (HR1.out.below hB)
 have HR2:=Aside0.mk hR
 replace HT:=Aside0.mk (HT.out.below hB)
 replace HX:=Aside0.mk (HX.out.below hB)
 replace HY:=Aside0.mk (HY.out.below hB)
 replace HC:=Aside0.mk (Kd.C_below HC.out hB)
 clear hb hB hR
 go_wp2_with fail
 refine(int_n W9 (by decide) (by decide)).mono ?_
 rintro e W10 ⟨v,rfl,hR,hB⟩
 rw [show ((decide ((3:Int) < 0),(3:Int).natAbs,1):QN)=(false,3,1) from rfl] at hR
 obtain⟨P3,p3,Q3,q3,hv,-,-⟩:=hR.args
 have hv:v=.agg #[.bool false,.slice P3 (dg B32 3).length p3,.slice Q3 (dg B32 1).length q3]:=hv
 subst hv
 have hb:=Aside0.mk hB
 replace HR1:=Aside0.mk (HR1.out.below hB)
 replace HR2:=Aside0.mk (HR2.out.below hB)
 have HR3:=Aside0.mk hR
 replace HT:=Aside0.mk (HT.out.below hB)
 replace HX:=Aside0.mk (HX.out.below hB)
 replace HY:=Aside0.mk (HY.out.below hB)
 replace HC:=Aside0.mk (Kd.C_below HC.out hB)
 clear hb hB hR
 go_wp2_with fail
 have hA:=zbn (Below.refl W10.heap.size W10) (.cells #[.bool false,.slice P1 (dg B32 1).length p1,.slice Q1 (dg B32 1).length q1,.bool false,.slice P2 (dg B32 2).length p2,.slice Q2 (dg B32 1).length q2,.bool false,.slice P3 (dg B32 3).length p3,.slice Q3 (dg B32 1).length q3] 27)
 have hK:∀ (n:Nat) (b:Nat) (P:Option Addr) (p:Nat) (Q:Option Addr) (q:Nat),RT W10 b (.agg #[.bool false,.slice P (dg B32 n).length p,.slice Q (dg B32 1).length q]) (false,n,1)→M.k27.K (W10.alloc (.cells #[.bool false,.slice P1 (dg B32 1).length p1,.slice Q1 (dg B32 1).length q1,.bool false,.slice P2 (dg B32 2).length p2,.slice Q2 (dg B32 1).length q2,.bool false,.slice P3 (dg B32 3).length p3,.slice Q3 (dg B32 1).length q3] 27)) ⟨false,dg B32 n,dg B32 1⟩ [.bool false,.slice P (dg B32 n).length p,.slice Q (dg B32 1).length q]:=by
  rintro n b P p Q q ⟨v1,v2,e,R1,R2⟩
  simp only [Value.agg.injEq,Array.mk.injEq,List.cons.injEq,and_true,true_and] at e
  obtain⟨rfl,rfl⟩:=e
  exact M.k27_mk _ ⟨false,dg B32 n,dg B32 1⟩ (Kd.R_reads' R1).2.1 (Kd.C_below (Kd.R_reads' R1).2.2 hA) (Kd.R_reads' R2).2.1 (Kd.C_below (Kd.R_reads' R2).2.2 hA)
 have hC3:=C_rat3 (zbI W10 (.cells #[.bool false,.slice P1 (dg B32 1).length p1,.slice Q1 (dg B32 1).length q1,.bool false,.slice P2 (dg B32 2).length p2,.slice Q2 (dg B32 1).length q2,.bool false,.slice P3 (dg B32 3).length p3,.slice Q3 (dg B32 1).length q3] 27)) (hK _ _ _ _ _ _ HR1.out) (hK _ _ _ _ _ _ HR2.out) (hK _ _ _ _ _ _ HR3.out)
 have hmk:=makeF_n (some ⟨gd+1,0,none⟩) 2 [2,2] (some ⟨W10.heap.size,0,none⟩) 3 [⟨false,dg B32 1,dg B32 1⟩,⟨false,dg B32 2,dg B32 1⟩,⟨false,dg B32 3,dg B32 1⟩] _ (Kd.C_below HC.out hA) (by decide) hC3 (by decide) (show fitV [2,2] 3≠0 by decide)
 rw [show fitV [2,2] ([⟨false,dg B32 1,dg B32 1⟩,⟨false,dg B32 2,dg B32 1⟩,⟨false,dg B32 3,dg B32 1⟩]:List M.S27).length=13 from (show fitV [2,2] 3=13 by decide)] at hmk
 refine hmk.mono ?_
 rintro e W11 ⟨rfl,hB⟩
 have hA2:=zbn (Below.refl W11.heap.size W11) (.cells #[.slice none 0 0,.slice none 0 0] 30)
 have hbb:=zbm (zbm hA hB) hA2
 replace HT:=Aside0.mk (HT.out.below hbb)
 replace HX:=Aside0.mk (HX.out.below hbb)
 replace HY:=Aside0.mk (HY.out.below hbb)
 clear hmk hC3 hK HR1 HR2 HR3 HC hA hA2 hB hbb
 go_wp2_with fail
 generalize W11.alloc (.cells #[.slice none 0 0,.slice none 0 0] 30)=W12 at HT HX HY ⊢
 generalize W11.heap.size=gm
 generalize W10.heap.size=gb

 have HF:Aside0 (∀ w':World,Below W12.heap.size W12 w'→(w'.cell? ⟨gx,0,none⟩=some (.bool X.1)∧w'.cell? ⟨gx,1,none⟩=some (.slice A1 (dg B32 X.2.1).length c1)∧w'.cell? ⟨gx,2,none⟩=some (.slice A2 (dg B32 X.2.2).length c2)∧w'.cell? ⟨gd,0,none⟩=some (.bool Y.1)∧w'.cell? ⟨gd,1,none⟩=some (.slice B1 (dg B32 Y.2.1).length b1)∧w'.cell? ⟨gd,2,none⟩=some (.slice B2 (dg B32 Y.2.2).length b2)∧w'.cell? ⟨gt,0,none⟩=some (.slice A 2 c)∧w'.cell? ⟨gt,1,none⟩=some (.slice B 4 d))∧XB w gx X A1 c1 A2 c2 w'∧XB w gd Y B1 b1 B2 b2 w'∧KT w gt A c B d w'):=⟨fun w' h=>⟨⟨(zbq (HX.out.below h).1 0).trans rfl,(zbq (HX.out.below h).1 1).trans rfl,(zbq (HX.out.below h).1 2).trans rfl,(zbq (HY.out.below h).1 0).trans rfl,(zbq (HY.out.below h).1 1).trans rfl,(zbq (HY.out.below h).1 2).trans rfl,(zbq (HT.out.below h).t 0).trans rfl,(zbq (HT.out.below h).t 1).trans rfl⟩,HX.out.below h,HY.out.below h,HT.out.below h⟩⟩
 have HBE:=Aside0.mk HT.out.be
 clear HX HY HT
 refine zco (n:=26) (S:=fun w'=>(w'.cell? ⟨gx,0,none⟩=some (.bool X.1)∧w'.cell? ⟨gx,1,none⟩=some (.slice A1 (dg B32 X.2.1).length c1)∧w'.cell? ⟨gx,2,none⟩=some (.slice A2 (dg B32 X.2.2).length c2)∧w'.cell? ⟨gd,0,none⟩=some (.bool Y.1)∧w'.cell? ⟨gd,1,none⟩=some (.slice B1 (dg B32 Y.2.1).length b1)∧w'.cell? ⟨gd,2,none⟩=some (.slice B2 (dg B32 Y.2.2).length b2)∧w'.cell? ⟨gt,0,none⟩=some (.slice A 2 c)∧w'.cell? ⟨gt,1,none⟩=some (.slice B 4 d))) (ds:=[]) #[zf,zf,zf,zf,zf,zf,zf,zf,zf,zf,zf,zf,zf,zf,zf,zf,zf,zf,zf,zf,zf,zf,zf,zf,zf,zf] (by kernel_rfl) rfl rfl ((HF.out _ (zbs (Below.refl _ _))).1) (fun hHeld=>?_)
 have hb0:=Aside0.mk (show Below W12.heap.size W12 W12.drew from zbs (Below.refl _ _))
 generalize W12.drew=V0 at hb0 hHeld ⊢
 refine qp 0 (some 32) ?_
 refine qp 1 (some 33) ?_
 refine qp 2 (some 34) ?_
 refine qt 4 (some 36) ?_
 refine qo 3 (some 35) (fun K hK=>?_)
 refine qg Tryz.func81 #[.int .i64 3] ?_
 refine(ref_int_n (x:=3) V0 (by decide) (by decide)).mono ?_
 rintro e V1 ⟨f3,rfl,hQ,hB⟩
 refine⟨_,rfl,?_⟩
 have hb1:=Aside0.mk (zbm hb0.out hB)
 have HQ3:=Aside0.mk hQ
 clear hQ
 clear hB hb0
 refine hK.out _ _ ((HF.out _ hb1.out).1) (fun hHeld=>?_)
 clear hK K
 refine qn ?_
 refine qo 5 (some 37) (fun K hK=>?_)
 refine qg Tryz.func36 #[f3,.agg #[.bool X.1,.slice A1 (dg B32 X.2.1).length c1,.slice A2 (dg B32 X.2.2).length c2]] ?_
 refine(ref_is_same HQ3.out (HF.out _ hb1.out).2.1.2 KX.out.2 (by rw [EX.out]; decide)).mono ?_
 rintro e V2 ⟨rfl,hB⟩
 refine⟨_,rfl,?_⟩
 have hb2:=Aside0.mk (zbm hb1.out hB)
 clear HQ3
 clear hB hb1
 refine hK.out _ _ ((HF.out _ hb2.out).1) (fun hHeld=>?_)
 clear hK K
 refine qn ?_
 refine qp 6 (some 38) ?_
 refine qp 7 (some 39) ?_
 refine qp 8 (some 40) ?_
 refine qp 9 (some 41) ?_
 refine qp 10 (some 42) ?_
 refine qp 11 (some 43) ?_
 refine qt 13 (some 45) ?_
 refine qo 12 (some 44) (fun K hK=>?_)
 refine qg Tryz.func81 #[.int .i64 30] ?_
 refine(ref_int_n (x:=30) V2 (by decide) (by decide)).mono ?_
 rintro e V3 ⟨f12,rfl,hQ,hB⟩
 refine⟨_,rfl,?_⟩
 have hb3:=Aside0.mk (zbm hb2.out hB)
 have HQ12:=Aside0.mk hQ
 clear hQ
 clear hB hb2
 refine hK.out _ _ ((HF.out _ hb3.out).1) (fun hHeld=>?_)
 clear hK K
 refine qn ?_
 refine qo 14 (some 46) (fun K hK=>?_)
 refine qg Tryz.func36 #[f12,.agg #[.bool Y.1,.slice B1 (dg B32 Y.2.1).length b1,.slice B2 (dg B32 Y.2.2).length b2]] ?_
 refine(ref_is_same HQ12.out (HF.out _ hb3.out).2.2.1.2 KY.out.2 (by rw [EY.out]; decide)).mono ?_
 rintro e V4 ⟨rfl,hB⟩
 refine⟨_,rfl,?_⟩
 have hb4:=Aside0.mk (zbm hb3.out hB)
 clear HQ12
 clear hB hb3
 refine hK.out _ _ ((HF.out _ hb4.out).1) (fun hHeld=>?_)
 clear hK K
 refine qn ?_
 refine qp 15 (some 47) ?_
 refine qp 16 (some 48) ?_
 refine qt 17 (some 49) ?_
 refine qo 18 (some 50) (fun K hK=>?_)
 refine qg Tryz.func82 #[.agg #[.slice A 2 c,.slice B 4 d]] ?_
 have hbt:=tbits_n A 2 c B d es4 V4 (HF.out _ hb4.out).2.2.2.e (HF.out _ hb4.out).2.2.2.ec (by decide) (fun x hx=>(es4_ok x hx).1)
 rw [bits_4] at hbt
 refine hbt.mono ?_
 clear hbt
 rintro e V5 ⟨rfl,hB⟩
 refine⟨_,rfl,?_⟩
 have hb5:=Aside0.mk (zbm hb4.out hB)
 clear hB hb4
 refine hK.out _ _ ((HF.out _ hb5.out).1) (fun hHeld=>?_)
 clear hK K
 refine qn ?_
 refine qp 19 (some 51) ?_
 refine qp 20 (some 52) ?_
 refine qp 21 (some 53) ?_
 refine qp 22 (some 54) ?_
 refine qp 23 (some 55) ?_
 refine qp 24 (some 56) ?_
 refine qp 25 (some 0) ?_
 refine done_ (by kernel_rfl) ?_
 clear hHeld
 go_wp2
 go_ret
 exact⟨rfl,zbm HBE.out hb5.out⟩
end Go.Proofs.YtehghijlchpeaaaGreat.Nat1
end
section
namespace Go.Proofs.YtehghijlchpeaaaGreat.Nat1
open Go.RowKit YtehghijlchpeaaaGreatW.PrintWords YtehghijlchpeaaaGreatW.PrintLast YtehghijlchpeaaaGreatW.PrintMore L Nt Ev
def tensorDots.T1:Bool×List (List Nat×List Nat):=(true,[([],[]),([0],[0]),([],[]),([2,1],[2]),([1,3,3],[1,3]),([4],[4]),([5],[5]),([5],[5]),([],[]),([8,6,4,0,1,2,3,4,5,6,8],[6,8]),([7,9,0,1,2,3,4,5,6,7,8,9],[7])])
def tensorDots.B1:List Nat:=[0,1,0,7,15,31,63,63,0,383,1023]
theorem tensorDots.tab1:rtab .any (opsOf Tryz.f7 1)=tensorDots.T1:=by kernel_rfl
theorem tensorDots.bits1:zct tensorDots.T1.2 tensorDots.B1=true:=by kernel_rfl
def tensorDots.T9:Bool×List (List Nat×List Nat):=(true,[([],[]),([0],[0]),([1],[1]),([2],[2]),([3,2,2],[2,3]),([2],[2]),([5,4,2],[2,5]),([4,6,6,2],[2,4,6]),([2],[2]),([7,8,7,2],[2,7,8]),([2,9],[2,9]),([10,9],[10]),([11,11],[11]),([11,12],[11,12]),([13,12,0,1,2,3,4,5,6,7,8,9,10,11,12,13],[13])])
def tensorDots.B9:List Nat:=[0,1,3,7,15,7,63,127,7,511,1023,2047,4095,8191,16383]
theorem tensorDots.tab9:rtab .any (opsOf Tryz.f7 9)=tensorDots.T9:=by kernel_rfl
theorem tensorDots.bits9:zct tensorDots.T9.2 tensorDots.B9=true:=by kernel_rfl
theorem okQ_dotL {es fs:List M.S27} {L n:Nat} (hL0:0 < L) (hL:L≤1048576) (h1:∀ x∈es,eOk x∧x.f1.length≤L∧x.f2.length≤L) (h2:∀ x∈fs,eOk x∧x.f1.length≤L∧x.f2.length≤L) (hn:n≤1024):okQ (dotP es fs n):=okQ_dot hL0 (by omega) h1 h2 hn
theorem readsQ {w:World} {b d:Nat} {P:Nat→Prop} {B:Option Addr} {es:List M.S27} (h:Kd.R kR 40 w b P (.slice B es.length d) (es.map (fun x=>SQ (eN x)))):Kd.C kR w B es.length (es.map (fun x=>SQ (eN x))):=by
 have:=(Kd.R_reads' h).2.2
 rwa [List.length_map] at this
def DA (w:World) (b:Nat) (v:Value) (E:Int) (X:QN):Prop:=(E=0→RT w b v X)∧(E≠0→v=.agg #[.bool false,.slice none 0 0,.slice none 0 0])
theorem DA.below {w w':World} {b:Nat} {v:Value} {E:Int} {X:QN} (h:DA w b v E X) (hb:Below w.heap.size w w'):DA w' b v E X:=⟨fun e=>(h.1 e).below hb,h.2⟩
theorem DA.lower {w:World} {b b':Nat} {v:Value} {E:Int} {X:QN} (h:DA w b v E X) (hb:b'≤b):DA w b' v E X:=⟨fun e=>(h.1 e).lower hb,h.2⟩
theorem DA.store3 {W:World} {b g:Nat} {v:Value} {E:Int} {X:QN} {cs:Array Value} (h:DA W b v E X) (hg:W.heap[g]? = some (.cells cs 27 (0,0))) (x y z:Value):DA (store3 W g x y z) b v E X:=⟨fun e=>(h.1 e).store3 hg x y z,h.2⟩
def OT (w:World) (b:Nat) (v1 v2:Value) (sh:List Int) (es:List M.S27):Prop:=Kd.R (Kd.int .i64) 3 w b (fun _=>True) v1 sh∧Kd.R M.k27 27 w b (fun _=>True) v2 es
theorem OT.below {w w':World} {b:Nat} {v1 v2:Value} {sh:List Int} {es:List M.S27} (h:OT w b v1 v2 sh es) (hb:Below w.heap.size w w'):OT w' b v1 v2 sh es:=⟨Kd.R_below h.1 hb,Kd.R_below h.2 hb⟩
theorem dotA_n {L:Nat} (hL0:0 < L) (hL:L≤1048576) (A0:Option Addr) (c0:Nat) (s0:List Int) (B0:Option Addr) (e0:Nat) (t0:List M.S27) (A1:Option Addr) (c1:Nat) (s1:List Int) (B1:Option Addr) (e1:Nat) (t1:List M.S27) (w:World) (hr0:Kd.C (Kd.int .i64) w A0 s0.length s0) (hc0:s0.length≤c0) (hl0:s0.length≤L) (hs0:Kd.C M.k27 w B0 t0.length t0) (he0:t0.length≤e0) (hm0:t0.length≤L) (ho0:∀ x∈t0,eOk x∧x.f1.length≤L∧x.f2.length≤L) (hr1:Kd.C (Kd.int .i64) w A1 s1.length s1) (hc1:s1.length≤c1) (hl1:s1.length≤L) (hs1:Kd.C M.k27 w B1 t1.length t1) (he1:t1.length≤e1) (hm1:t1.length≤L) (ho1:∀ x∈t1,eOk x∧x.f1.length≤L∧x.f2.length≤L) :
  Calls Tryz.prog 37 #[.agg #[.slice A0 s0.length c0,.slice B0 t0.length e0],.agg #[.slice A1 s1.length c1,.slice B1 t1.length e1]] w fun e w'=>∃ dn dA dl da dB dm db,e=.returned (.tuple #[.agg #[.bool dn,.slice dA dl da,.slice dB dm db],.int .i64 (dotE s0 t0 s1 t1)])∧DA w' w.heap.size (.agg #[.bool dn,.slice dA dl da,.slice dB dm db]) (dotE s0 t0 s1 t1) (dotP t0 t1 t0.length)∧Below w.heap.size w w':=by
 by_cases h:(dotE s0 t0 s1 t1)=0
 ·
  have h0:=h
  unfold dotE at h0
  split at h0
  ·
   rename_i k1
   split at h0
   ·
    rename_i k2
    split at h0
    ·
     rename_i k3
     subst k3
     have hN:=(tmay_all k1).2.2.1
     refine(dot_n A0 c0 s0 B0 e0 t0 A1 c1 B1 e1 t1 33554432 w hr0 hc0 hs0 he0 hr1 hc1 hs1 he1 hN (tmay_same k1 k2) (by decide) (by decide) (fun x hx=>⟨(ho0 x hx).1,Nat.le_trans (ho0 x hx).2.1 (by omega),Nat.le_trans (ho0 x hx).2.2 (by omega)⟩) (fun x hx=>⟨(ho1 x hx).1,Nat.le_trans (ho1 x hx).2.1 (by omega),Nat.le_trans (ho1 x hx).2.2 (by omega)⟩) k1 k2 (by omega)).mono ?_
     rintro e w' ⟨F1,f1,F2,f2,rfl,hR,hB⟩
     exact⟨_,F1,_,f1,F2,_,f2,by rw [h],⟨fun _=>hR,fun k=>absurd h k⟩,hB⟩
    ·
     exact absurd h0 (by decide)
   ·
    rename_i k2
    exact absurd h0 k2
  ·
   rename_i k1
   exact absurd h0 k1
 ·
  refine(dotF_n A0 c0 s0 B0 e0 t0 A1 c1 s1 B1 e1 t1 w hr0 hc0 hs0 he0 hr1 hc1 hs1 he1 (by omega) (by omega) (by omega) (fun x hx=>(ho0 x hx).1) (fun x hx=>(ho1 x hx).1) h).mono ?_
  rintro e w' ⟨rfl,hB⟩
  exact⟨false,none,0,0,none,0,0,rfl,⟨fun k=>absurd k h,fun _=>rfl⟩,hB⟩
theorem tensorDots_q0 {L:Nat} (hL0:0 < L) (hL:L≤1048576) (A0:Option Addr) (c0:Nat) (s0:List Int) (B0:Option Addr) (e0:Nat) (t0:List M.S27) (A1:Option Addr) (c1:Nat) (s1:List Int) (B1:Option Addr) (e1:Nat) (t1:List M.S27) (w:World) (hr0:Kd.C (Kd.int .i64) w A0 s0.length s0) (hc0:s0.length≤c0) (hl0:s0.length≤L) (hs0:Kd.C M.k27 w B0 t0.length t0) (he0:t0.length≤e0) (hm0:t0.length≤L) (ho0:∀ x∈t0,eOk x∧x.f1.length≤L∧x.f2.length≤L) (hr1:Kd.C (Kd.int .i64) w A1 s1.length s1) (hc1:s1.length≤c1) (hl1:s1.length≤L) (hs1:Kd.C M.k27 w B1 t1.length t1) (he1:t1.length≤e1) (hm1:t1.length≤L) (ho1:∀ x∈t1,eOk x∧x.f1.length≤L∧x.f2.length≤L) :
  Calls Tryz.prog 7 #[.agg #[.slice A0 s0.length c0,.slice B0 t0.length e0],.agg #[.slice A1 s1.length c1,.slice B1 t1.length e1]] w fun e w'=>e=.returned (.bool true)∧Below w.heap.size w w':=by
 have hu67:=Tryz.underlying30
 have hu25:=Tryz.underlying27
 have HO0:=Aside0.mk (fun (W:World) (hb:Below w.heap.size w W)=>town_n A0 c0 s0 B0 e0 t0 W (Kd.C_below hr0 hb) hc0 (Kd.C_below hs0 hb) he0 (by omega) (by omega) (fun x hx=>(ho0 x hx).1))
 have HM0:=Aside0.mk (fun (W:World) (hb:Below w.heap.size w W)=>reftmay_n (Kd.C_below hr0 hb) hc0 (Kd.C_below hs0 hb) he0 (by omega) (fun x hx=>(ho0 x hx).1))
 have HF0:=Aside0.mk (fun (W:World) (hb:Below w.heap.size w W)=>tof_n A0 c0 s0 B0 e0 t0 W (Kd.C_below hr0 hb) (Kd.C_below hs0 hb) (by omega) (by omega) (fun x hx=>(ho0 x hx).1))
 have HO1:=Aside0.mk (fun (W:World) (hb:Below w.heap.size w W)=>town_n A1 c1 s1 B1 e1 t1 W (Kd.C_below hr1 hb) hc1 (Kd.C_below hs1 hb) he1 (by omega) (by omega) (fun x hx=>(ho1 x hx).1))
 have HM1:=Aside0.mk (fun (W:World) (hb:Below w.heap.size w W)=>reftmay_n (Kd.C_below hr1 hb) hc1 (Kd.C_below hs1 hb) he1 (by omega) (fun x hx=>(ho1 x hx).1))
 have HF1:=Aside0.mk (fun (W:World) (hb:Below w.heap.size w W)=>tof_n A1 c1 s1 B1 e1 t1 W (Kd.C_below hr1 hb) (Kd.C_below hs1 hb) (by omega) (by omega) (fun x hx=>(ho1 x hx).1))
 have HSS:=Aside0.mk (fun (W:World) (hb:Below w.heap.size w W)=>samesh_n (Kd.C_below hr0 hb) hc0 (Kd.C_below hr1 hb) hc1 (by omega))
 have HDD:=Aside0.mk (fun (W:World) (A0:Option Addr) (c0:Nat) (B0:Option Addr) (e0:Nat) (A1:Option Addr) (c1:Nat) (B1:Option Addr) (e1:Nat) (k0:OT W w.heap.size (.slice A0 s0.length c0) (.slice B0 t0.length e0) s0 t0) (k1:OT W w.heap.size (.slice A1 s1.length c1) (.slice B1 t1.length e1) s1 t1)=>dotA_n hL0 hL A0 c0 s0 B0 e0 t0 A1 c1 s1 B1 e1 t1 W (Kd.R_reads' k0.1).2.2 (Kd.R_reads' k0.1).2.1 hl0 (Kd.R_reads' k0.2).2.2 (Kd.R_reads' k0.2).2.1 hm0 ho0 (Kd.R_reads' k1.1).2.2 (Kd.R_reads' k1.1).2.1 hl1 (Kd.R_reads' k1.2).2.2 (Kd.R_reads' k1.2).2.1 hm1 ho1)
 have HOK:=Aside0.mk (And.intro ho0 ho1)
 have HLL:=Aside0.mk (And.intro hL0 hL)
 obtain⟨va,hva⟩:∃ v,v=tmayV s0 t0:=⟨_,rfl⟩
 obtain⟨vb,hvb⟩:∃ v,v=tmayV s1 t1:=⟨_,rfl⟩
 obtain⟨z,hz⟩:∃ z,z=decide (s0=s1):=⟨_,rfl⟩
 obtain⟨E,hE⟩:∃ E,E=dotE s0 t0 s1 t1:=⟨_,rfl⟩
 rw [← hva] at HM0
 rw [← hvb] at HM1
 rw [← hz] at HSS
 rw [← hE] at HDD
 have HE:=Aside0.mk (show E=if va=0 then (if vb=0 then (if z=true then 0 else 13) else vb) else va by rw [hE,dotE,hva,hvb,hz]; simp only [decide_eq_true_eq])
 have HV:=Aside0.mk (And.intro hva (And.intro hvb hz))
 clear hr0 hr1 hs0 hs1 ho0 ho1 hva hvb hz hE hL0
 go_enter Tryz.func7,Tryz.ntmps7
 go_wp2_with fail
 have hx0:=zbt (zbI w (.cells #[.slice A0 s0.length c0,.slice B0 t0.length e0] 30)) (.cells #[.slice A1 s1.length c1,.slice B1 t1.length e1] 30)
 have hx1:=zbI (w.alloc (.cells #[.slice A0 s0.length c0,.slice B0 t0.length e0] 30)) (.cells #[.slice A1 s1.length c1,.slice B1 t1.length e1] 30)
 rw [show (w.alloc (.cells #[.slice A0 s0.length c0,.slice B0 t0.length e0] 30)).heap.size=w.heap.size+1 by simp] at hx1
 have hbw:Below w.heap.size w ((w.alloc (.cells #[.slice A0 s0.length c0,.slice B0 t0.length e0] 30)).alloc (.cells #[.slice A1 s1.length c1,.slice B1 t1.length e1] 30)):=zbn (zbn (Below.refl _ _) _) _
 generalize ((w.alloc (.cells #[.slice A0 s0.length c0,.slice B0 t0.length e0] 30)).alloc (.cells #[.slice A1 s1.length c1,.slice B1 t1.length e1] 30))=W0 at hx0 hx1 hbw ⊢
 have HF:Aside0 (∀ w':World,Below W0.heap.size W0 w'→(w'.cell? ⟨w.heap.size,0,none⟩=some (.slice A0 s0.length c0)∧w'.cell? ⟨w.heap.size,1,none⟩=some (.slice B0 t0.length e0)∧w'.cell? ⟨w.heap.size+1,0,none⟩=some (.slice A1 s1.length c1)∧w'.cell? ⟨w.heap.size+1,1,none⟩=some (.slice B1 t1.length e1))∧Below w.heap.size w w'):=⟨fun w' h=>⟨⟨(zbq (zbr hx0 h) 0).trans rfl,(zbq (zbr hx0 h) 1).trans rfl,(zbq (zbr hx1 h) 0).trans rfl,(zbq (zbr hx1 h) 1).trans rfl⟩,zbm hbw h⟩⟩
 clear hx0 hx1 hbw
 refine zco (n:=11) (S:=fun w'=>(w'.cell? ⟨w.heap.size,0,none⟩=some (.slice A0 s0.length c0)∧w'.cell? ⟨w.heap.size,1,none⟩=some (.slice B0 t0.length e0)∧w'.cell? ⟨w.heap.size+1,0,none⟩=some (.slice A1 s1.length c1)∧w'.cell? ⟨w.heap.size+1,1,none⟩=some (.slice B1 t1.length e1))) (ds:=[9]) #[zf,zf,zf,zf,zf,zf,zf,zf,zf,zf,zf] (by kernel_rfl) rfl rfl ((HF.out _ (zbs (Below.refl _ _))).1) (fun hHeld=>?_)
 have hb0:=Aside0.mk (show Below W0.heap.size W0 W0.drew from zbs (Below.refl _ _))
 generalize W0.drew=V0 at hb0 hHeld ⊢
 refine zcf tensorDots.tab1 tensorDots.bits1 (fun HT_ HW_=>?_)
 refine qtT 0 (some 9) ?_
 refine qtT 2 (some 11) ?_
 refine join_ (σ:=Option Addr×Nat×Option Addr×Nat×Option Addr×Nat×Option Addr×Nat×Bool×Option Addr×Nat×Nat×Option Addr×Nat×Nat×Nat) 2 #[zt,zt,zt,zt,zt,zt,zt,zt,zt,zf,zf] (fun s=>[(10,.agg #[.slice s.1 s0.length s.2.1,.slice s.2.2.1 t0.length s.2.2.2.1]),(12,.agg #[.slice s.2.2.2.2.1 s1.length s.2.2.2.2.2.1,.slice s.2.2.2.2.2.2.1 t1.length s.2.2.2.2.2.2.2.1]),(13,.tuple #[.agg #[.bool s.2.2.2.2.2.2.2.2.1,.slice s.2.2.2.2.2.2.2.2.2.1 s.2.2.2.2.2.2.2.2.2.2.1 s.2.2.2.2.2.2.2.2.2.2.2.1,.slice s.2.2.2.2.2.2.2.2.2.2.2.2.1 s.2.2.2.2.2.2.2.2.2.2.2.2.2.1 s.2.2.2.2.2.2.2.2.2.2.2.2.2.2.1],.int .i64 E]),(8,.tuple #[.agg #[.bool s.2.2.2.2.2.2.2.2.1,.slice s.2.2.2.2.2.2.2.2.2.1 s.2.2.2.2.2.2.2.2.2.2.1 s.2.2.2.2.2.2.2.2.2.2.2.1,.slice s.2.2.2.2.2.2.2.2.2.2.2.2.1 s.2.2.2.2.2.2.2.2.2.2.2.2.2.1 s.2.2.2.2.2.2.2.2.2.2.2.2.2.2.1],.int .i64 E]),(14,.agg #[.bool s.2.2.2.2.2.2.2.2.1,.slice s.2.2.2.2.2.2.2.2.2.1 s.2.2.2.2.2.2.2.2.2.2.1 s.2.2.2.2.2.2.2.2.2.2.2.1,.slice s.2.2.2.2.2.2.2.2.2.2.2.2.1 s.2.2.2.2.2.2.2.2.2.2.2.2.2.1 s.2.2.2.2.2.2.2.2.2.2.2.2.2.2.1]),(15,.int .i64 E),(5,.pointer (some ⟨s.2.2.2.2.2.2.2.2.2.2.2.2.2.2.2,0,none⟩))]) (fun s w'=>(w'.cell? ⟨w.heap.size,0,none⟩=some (.slice A0 s0.length c0)∧w'.cell? ⟨w.heap.size,1,none⟩=some (.slice B0 t0.length e0)∧w'.cell? ⟨w.heap.size+1,0,none⟩=some (.slice A1 s1.length c1)∧w'.cell? ⟨w.heap.size+1,1,none⟩=some (.slice B1 t1.length e1))∧(OT w' w.heap.size (.slice s.1 s0.length s.2.1) (.slice s.2.2.1 t0.length s.2.2.2.1) s0 t0)∧(OT w' w.heap.size (.slice s.2.2.2.2.1 s1.length s.2.2.2.2.2.1) (.slice s.2.2.2.2.2.2.1 t1.length s.2.2.2.2.2.2.2.1) s1 t1)∧(DA w' w.heap.size (.agg #[.bool s.2.2.2.2.2.2.2.2.1,.slice s.2.2.2.2.2.2.2.2.2.1 s.2.2.2.2.2.2.2.2.2.2.1 s.2.2.2.2.2.2.2.2.2.2.2.1,.slice s.2.2.2.2.2.2.2.2.2.2.2.2.1 s.2.2.2.2.2.2.2.2.2.2.2.2.2.1 s.2.2.2.2.2.2.2.2.2.2.2.2.2.2.1]) E (dotP t0 t1 t0.length))∧(w'.heap[s.2.2.2.2.2.2.2.2.2.2.2.2.2.2.2]? = some (.cells #[.bool false,.slice none 0 0,.slice none 0 0] 27 (0,0))∧W0.heap.size≤s.2.2.2.2.2.2.2.2.2.2.2.2.2.2.2)∧Below W0.heap.size W0 w') ?_ ?_
 rotate_left
 ·
  intro hJ1_3_4_8
  refine join_ (σ:=Option Addr×Nat×Option Addr×Nat×Option Addr×Nat×Option Addr×Nat×Bool×Option Addr×Nat×Nat×Option Addr×Nat×Nat) 3 #[zt,zt,zt,zt,zt,zt,zt,zt,zf,zf,zf] (fun s=>[(10,.agg #[.slice s.1 s0.length s.2.1,.slice s.2.2.1 t0.length s.2.2.2.1]),(12,.agg #[.slice s.2.2.2.2.1 s1.length s.2.2.2.2.2.1,.slice s.2.2.2.2.2.2.1 t1.length s.2.2.2.2.2.2.2.1]),(13,.tuple #[.agg #[.bool s.2.2.2.2.2.2.2.2.1,.slice s.2.2.2.2.2.2.2.2.2.1 s.2.2.2.2.2.2.2.2.2.2.1 s.2.2.2.2.2.2.2.2.2.2.2.1,.slice s.2.2.2.2.2.2.2.2.2.2.2.2.1 s.2.2.2.2.2.2.2.2.2.2.2.2.2.1 s.2.2.2.2.2.2.2.2.2.2.2.2.2.2],.int .i64 E]),(8,.tuple #[.agg #[.bool s.2.2.2.2.2.2.2.2.1,.slice s.2.2.2.2.2.2.2.2.2.1 s.2.2.2.2.2.2.2.2.2.2.1 s.2.2.2.2.2.2.2.2.2.2.2.1,.slice s.2.2.2.2.2.2.2.2.2.2.2.2.1 s.2.2.2.2.2.2.2.2.2.2.2.2.2.1 s.2.2.2.2.2.2.2.2.2.2.2.2.2.2],.int .i64 E]),(14,.agg #[.bool s.2.2.2.2.2.2.2.2.1,.slice s.2.2.2.2.2.2.2.2.2.1 s.2.2.2.2.2.2.2.2.2.2.1 s.2.2.2.2.2.2.2.2.2.2.2.1,.slice s.2.2.2.2.2.2.2.2.2.2.2.2.1 s.2.2.2.2.2.2.2.2.2.2.2.2.2.1 s.2.2.2.2.2.2.2.2.2.2.2.2.2.2]),(15,.int .i64 E)]) (fun s w'=>(w'.cell? ⟨w.heap.size,0,none⟩=some (.slice A0 s0.length c0)∧w'.cell? ⟨w.heap.size,1,none⟩=some (.slice B0 t0.length e0)∧w'.cell? ⟨w.heap.size+1,0,none⟩=some (.slice A1 s1.length c1)∧w'.cell? ⟨w.heap.size+1,1,none⟩=some (.slice B1 t1.length e1))∧(OT w' w.heap.size (.slice s.1 s0.length s.2.1) (.slice s.2.2.1 t0.length s.2.2.2.1) s0 t0)∧(OT w' w.heap.size (.slice s.2.2.2.2.1 s1.length s.2.2.2.2.2.1) (.slice s.2.2.2.2.2.2.1 t1.length s.2.2.2.2.2.2.2.1) s1 t1)∧(DA w' w.heap.size (.agg #[.bool s.2.2.2.2.2.2.2.2.1,.slice s.2.2.2.2.2.2.2.2.2.1 s.2.2.2.2.2.2.2.2.2.2.1 s.2.2.2.2.2.2.2.2.2.2.2.1,.slice s.2.2.2.2.2.2.2.2.2.2.2.2.1 s.2.2.2.2.2.2.2.2.2.2.2.2.2.1 s.2.2.2.2.2.2.2.2.2.2.2.2.2.2]) E (dotP t0 t1 t0.length))∧Below W0.heap.size W0 w') ?_ ?_
  rotate_left
  ·
   intro hJ1_3_4
   refine join_ (σ:=Option Addr×Nat×Option Addr×Nat×Option Addr×Nat×Option Addr×Nat×Nat) 6 #[zt,zt,zt,zt,zf,zf,zf,zf,zt,zf,zf] (fun s=>[(10,.agg #[.slice s.1 s0.length s.2.1,.slice s.2.2.1 t0.length s.2.2.2.1]),(12,.agg #[.slice s.2.2.2.2.1 s1.length s.2.2.2.2.2.1,.slice s.2.2.2.2.2.2.1 t1.length s.2.2.2.2.2.2.2.1]),(5,.pointer (some ⟨s.2.2.2.2.2.2.2.2,0,none⟩))]) (fun s w'=>(w'.cell? ⟨w.heap.size,0,none⟩=some (.slice A0 s0.length c0)∧w'.cell? ⟨w.heap.size,1,none⟩=some (.slice B0 t0.length e0)∧w'.cell? ⟨w.heap.size+1,0,none⟩=some (.slice A1 s1.length c1)∧w'.cell? ⟨w.heap.size+1,1,none⟩=some (.slice B1 t1.length e1))∧(OT w' w.heap.size (.slice s.1 s0.length s.2.1) (.slice s.2.2.1 t0.length s.2.2.2.1) s0 t0)∧(OT w' w.heap.size (.slice s.2.2.2.2.1 s1.length s.2.2.2.2.2.1) (.slice s.2.2.2.2.2.2.1 t1.length s.2.2.2.2.2.2.2.1) s1 t1)∧(w'.heap[s.2.2.2.2.2.2.2.2]? = some (.cells #[.bool false,.slice none 0 0,.slice none 0 0] 27 (0,0))∧W0.heap.size≤s.2.2.2.2.2.2.2.2)∧Below W0.heap.size W0 w') ?_ ?_
   rotate_left
   ·
    intro hJ1_3_8
    refine join_ (σ:=Option Addr×Nat×Option Addr×Nat×Option Addr×Nat×Option Addr×Nat) 7 #[zt,zt,zt,zt,zf,zf,zf,zf,zf,zf,zf] (fun s=>[(10,.agg #[.slice s.1 s0.length s.2.1,.slice s.2.2.1 t0.length s.2.2.2.1]),(12,.agg #[.slice s.2.2.2.2.1 s1.length s.2.2.2.2.2.1,.slice s.2.2.2.2.2.2.1 t1.length s.2.2.2.2.2.2.2])]) (fun s w'=>(w'.cell? ⟨w.heap.size,0,none⟩=some (.slice A0 s0.length c0)∧w'.cell? ⟨w.heap.size,1,none⟩=some (.slice B0 t0.length e0)∧w'.cell? ⟨w.heap.size+1,0,none⟩=some (.slice A1 s1.length c1)∧w'.cell? ⟨w.heap.size+1,1,none⟩=some (.slice B1 t1.length e1))∧(OT w' w.heap.size (.slice s.1 s0.length s.2.1) (.slice s.2.2.1 t0.length s.2.2.2.1) s0 t0)∧(OT w' w.heap.size (.slice s.2.2.2.2.1 s1.length s.2.2.2.2.2.1) (.slice s.2.2.2.2.2.2.1 t1.length s.2.2.2.2.2.2.2) s1 t1)∧Below W0.heap.size W0 w') ?_ ?_
    rotate_left
    ·
     intro hJ1_3
     refine join_ (σ:=Option Addr×Nat×Option Addr×Nat×Nat) 7 #[zt,zt,zt,zf,zf,zf,zf,zf,zt,zf,zf] (fun s=>[(10,.agg #[.slice s.1 s0.length s.2.1,.slice s.2.2.1 t0.length s.2.2.2.1]),(5,.pointer (some ⟨s.2.2.2.2,0,none⟩))]) (fun s w'=>(w'.cell? ⟨w.heap.size,0,none⟩=some (.slice A0 s0.length c0)∧w'.cell? ⟨w.heap.size,1,none⟩=some (.slice B0 t0.length e0)∧w'.cell? ⟨w.heap.size+1,0,none⟩=some (.slice A1 s1.length c1)∧w'.cell? ⟨w.heap.size+1,1,none⟩=some (.slice B1 t1.length e1))∧(OT w' w.heap.size (.slice s.1 s0.length s.2.1) (.slice s.2.2.1 t0.length s.2.2.2.1) s0 t0)∧(w'.heap[s.2.2.2.2]? = some (.cells #[.bool false,.slice none 0 0,.slice none 0 0] 27 (0,0))∧W0.heap.size≤s.2.2.2.2)∧Below W0.heap.size W0 w') ?_ ?_
     rotate_left
     ·
      intro hJ1_8
      refine join_ (σ:=Option Addr×Nat×Option Addr×Nat) 8 #[zt,zt,zt,zf,zf,zf,zf,zf,zf,zf,zf] (fun s=>[(10,.agg #[.slice s.1 s0.length s.2.1,.slice s.2.2.1 t0.length s.2.2.2])]) (fun s w'=>(w'.cell? ⟨w.heap.size,0,none⟩=some (.slice A0 s0.length c0)∧w'.cell? ⟨w.heap.size,1,none⟩=some (.slice B0 t0.length e0)∧w'.cell? ⟨w.heap.size+1,0,none⟩=some (.slice A1 s1.length c1)∧w'.cell? ⟨w.heap.size+1,1,none⟩=some (.slice B1 t1.length e1))∧(OT w' w.heap.size (.slice s.1 s0.length s.2.1) (.slice s.2.2.1 t0.length s.2.2.2) s0 t0)∧Below W0.heap.size W0 w') ?_ ?_
      rotate_left
      ·
       intro hJ1
       refine join_ (σ:=Nat) 8 #[zt,zf,zt,zf,zf,zf,zf,zf,zt,zf,zf] (fun s=>[(5,.pointer (some ⟨s,0,none⟩))]) (fun s w'=>(w'.cell? ⟨w.heap.size,0,none⟩=some (.slice A0 s0.length c0)∧w'.cell? ⟨w.heap.size,1,none⟩=some (.slice B0 t0.length e0)∧w'.cell? ⟨w.heap.size+1,0,none⟩=some (.slice A1 s1.length c1)∧w'.cell? ⟨w.heap.size+1,1,none⟩=some (.slice B1 t1.length e1))∧(w'.heap[s]? = some (.cells #[.bool false,.slice none 0 0,.slice none 0 0] 27 (0,0))∧W0.heap.size≤s)∧Below W0.heap.size W0 w') ?_ ?_
       rotate_left
       ·
        intro hJ8
        refine two_ (i:=1) (j:=8) (Ni:=some 10) (Nj:=some 5) #[zt,zt,zt,zf,zf,zf,zf,zf,zf,zf,zf] #[zt,zf,zt,zf,zf,zf,zf,zf,zt,zf,zf] rfl rfl rfl rfl (two_of HT_.out (by kernel_rfl)) (by decide) (by decide) (fun K hK=>?_) (fun K hK=>?_)
        ·
         skip
         refine qg Tryz.func20 #[.agg #[.slice A0 s0.length c0,.slice B0 t0.length e0]] ?_
         refine(HO0.out V0 (HF.out _ hb0.out).2).mono ?_
         rintro e Vn ⟨oA1,oc1,oB1,od1,rfl,R1,R2,hB⟩
         refine⟨_,rfl,?_⟩
         have new:OT Vn w.heap.size (.slice oA1 s0.length oc1) (.slice oB1 t0.length od1) s0 t0:=⟨Kd.R_lower R1 (HF.out _ hb0.out).2.size,Kd.R_lower R2 (HF.out _ hb0.out).2.size⟩
         have hbn:=Aside0.mk (zbm hb0.out hB)
         refine hK.out _ _ ((HF.out _ hbn.out).1) (fun hHeld=>?_)
         clear hK K
         refine qn ?_
         exact norm_ (by first | (simp only [zb6,Act.put,zA1,zA2,zA3]; done) | (simp only [zb6,Act.put,zA1,zA2,zA3]; rfl)) (hJ1 (oA1,oc1,oB1,od1) _ ⟨(HF.out _ hbn.out).1,new,hbn.out⟩)
        ·
         skip
         refine qv ?_
         have hB:Below V0.heap.size V0 (V0.alloc (.cells #[.bool false,.slice none 0 0,.slice none 0 0] 27 (0,0))):=zbn (Below.refl _ _) _
         have hN:=zbI V0 (.cells #[.bool false,.slice none 0 0,.slice none 0 0] 27 (0,0))
         have hbn:=Aside0.mk (zbm hb0.out hB)
         refine hK.out _ _ ((HF.out _ hbn.out).1) (fun hHeld=>?_)
         clear hK K
         refine qn ?_
         exact norm_ (by first | (simp only [zb6,Act.put,zA1,zA2,zA3]; done) | (simp only [zb6,Act.put,zA1,zA2,zA3]; rfl)) (hJ8 (V0.heap.size) _ ⟨(HF.out _ hbn.out).1,⟨hN,hb0.out.size⟩,hbn.out⟩)
       ·
        skip
        rintro g5 V ⟨hHeld,kK8,hb⟩
        have K8:=Aside0.mk kK8
        have hbv:=Aside0.mk hb
        clear hb kK8
        refine norm_ (a':=?_) ?_ ?_
        rotate_left
        ·
         simp only [zb6,Act.put,zA1,zA2,zA3]
         rfl
        refine qoT 1 (some 10) (fun K hK=>?_)
        refine qg Tryz.func20 #[.agg #[.slice A0 s0.length c0,.slice B0 t0.length e0]] ?_
        refine(HO0.out V (HF.out _ hbv.out).2).mono ?_
        rintro e Vn ⟨oA1,oc1,oB1,od1,rfl,R1,R2,hB⟩
        refine⟨_,rfl,?_⟩
        have new:OT Vn w.heap.size (.slice oA1 s0.length oc1) (.slice oB1 t0.length od1) s0 t0:=⟨Kd.R_lower R1 (HF.out _ hbv.out).2.size,Kd.R_lower R2 (HF.out _ hbv.out).2.size⟩
        have hbn:=Aside0.mk (zbm hbv.out hB)
        refine hK.out _ _ ((HF.out _ hbn.out).1) (fun hHeld=>?_)
        clear hK K
        refine qn ?_
        exact norm_ (by first | (simp only [zb6,Act.put,zA1,zA2,zA3]; done) | (simp only [zb6,Act.put,zA1,zA2,zA3]; rfl)) (hJ1_8 (oA1,oc1,oB1,od1,g5) _ ⟨(HF.out _ hbn.out).1,new,⟨zbr K8.out.1 hB,K8.out.2⟩,hbn.out⟩)
      ·
       skip
       rintro⟨oA1,oc1,oB1,od1⟩ V ⟨hHeld,kK1,hb⟩
       have K1:=Aside0.mk kK1
       have hbv:=Aside0.mk hb
       clear hb kK1
       refine norm_ (a':=?_) ?_ ?_
       rotate_left
       ·
        simp only [zb6,Act.put,zA1,zA2,zA3]
        rfl
       refine two_ (i:=3) (j:=8) (Ni:=some 12) (Nj:=some 5) #[zt,zt,zt,zt,zf,zf,zf,zf,zf,zf,zf] #[zt,zt,zt,zf,zf,zf,zf,zf,zt,zf,zf] rfl rfl rfl rfl (two_of HT_.out (by kernel_rfl)) (by decide) (by decide) (fun K hK=>?_) (fun K hK=>?_)
       ·
        skip
        refine qg Tryz.func20 #[.agg #[.slice A1 s1.length c1,.slice B1 t1.length e1]] ?_
        refine(HO1.out V (HF.out _ hbv.out).2).mono ?_
        rintro e Vn ⟨oA3,oc3,oB3,od3,rfl,R1,R2,hB⟩
        refine⟨_,rfl,?_⟩
        have new:OT Vn w.heap.size (.slice oA3 s1.length oc3) (.slice oB3 t1.length od3) s1 t1:=⟨Kd.R_lower R1 (HF.out _ hbv.out).2.size,Kd.R_lower R2 (HF.out _ hbv.out).2.size⟩
        have hbn:=Aside0.mk (zbm hbv.out hB)
        refine hK.out _ _ ((HF.out _ hbn.out).1) (fun hHeld=>?_)
        clear hK K
        refine qn ?_
        exact norm_ (by first | (simp only [zb6,Act.put,zA1,zA2,zA3]; done) | (simp only [zb6,Act.put,zA1,zA2,zA3]; rfl)) (hJ1_3 (oA1,oc1,oB1,od1,oA3,oc3,oB3,od3) _ ⟨(HF.out _ hbn.out).1,K1.out.below hB,new,hbn.out⟩)
       ·
        skip
        refine qv ?_
        have hB:Below V.heap.size V (V.alloc (.cells #[.bool false,.slice none 0 0,.slice none 0 0] 27 (0,0))):=zbn (Below.refl _ _) _
        have hN:=zbI V (.cells #[.bool false,.slice none 0 0,.slice none 0 0] 27 (0,0))
        have hbn:=Aside0.mk (zbm hbv.out hB)
        refine hK.out _ _ ((HF.out _ hbn.out).1) (fun hHeld=>?_)
        clear hK K
        refine qn ?_
        exact norm_ (by first | (simp only [zb6,Act.put,zA1,zA2,zA3]; done) | (simp only [zb6,Act.put,zA1,zA2,zA3]; rfl)) (hJ1_8 (oA1,oc1,oB1,od1,V.heap.size) _ ⟨(HF.out _ hbn.out).1,K1.out.below hB,⟨hN,hbv.out.size⟩,hbn.out⟩)
     ·
      skip
      rintro⟨oA1,oc1,oB1,od1,g5⟩ V ⟨hHeld,kK1,kK8,hb⟩
      have K1:=Aside0.mk kK1
      have K8:=Aside0.mk kK8
      have hbv:=Aside0.mk hb
      clear hb kK1 kK8
      refine norm_ (a':=?_) ?_ ?_
      rotate_left
      ·
       simp only [zb6,Act.put,zA1,zA2,zA3]
       rfl
      refine qoT 3 (some 12) (fun K hK=>?_)
      refine qg Tryz.func20 #[.agg #[.slice A1 s1.length c1,.slice B1 t1.length e1]] ?_
      refine(HO1.out V (HF.out _ hbv.out).2).mono ?_
      rintro e Vn ⟨oA3,oc3,oB3,od3,rfl,R1,R2,hB⟩
      refine⟨_,rfl,?_⟩
      have new:OT Vn w.heap.size (.slice oA3 s1.length oc3) (.slice oB3 t1.length od3) s1 t1:=⟨Kd.R_lower R1 (HF.out _ hbv.out).2.size,Kd.R_lower R2 (HF.out _ hbv.out).2.size⟩
      have hbn:=Aside0.mk (zbm hbv.out hB)
      refine hK.out _ _ ((HF.out _ hbn.out).1) (fun hHeld=>?_)
      clear hK K
      refine qn ?_
      exact norm_ (by first | (simp only [zb6,Act.put,zA1,zA2,zA3]; done) | (simp only [zb6,Act.put,zA1,zA2,zA3]; rfl)) (hJ1_3_8 (oA1,oc1,oB1,od1,oA3,oc3,oB3,od3,g5) _ ⟨(HF.out _ hbn.out).1,K1.out.below hB,new,⟨zbr K8.out.1 hB,K8.out.2⟩,hbn.out⟩)
    ·
     skip
     rintro⟨oA1,oc1,oB1,od1,oA3,oc3,oB3,od3⟩ V ⟨hHeld,kK1,kK3,hb⟩
     have K1:=Aside0.mk kK1
     have K3:=Aside0.mk kK3
     have hbv:=Aside0.mk hb
     clear hb kK1 kK3
     refine norm_ (a':=?_) ?_ ?_
     rotate_left
     ·
      simp only [zb6,Act.put,zA1,zA2,zA3]
      rfl
     refine two_ (i:=4) (j:=8) (Ni:=some 13) (Nj:=some 5) #[zt,zt,zt,zt,zt,zf,zf,zf,zf,zf,zf] #[zt,zt,zt,zt,zf,zf,zf,zf,zt,zf,zf] rfl rfl rfl rfl (two_of HT_.out (by kernel_rfl)) (by decide) (by decide) (fun K hK=>?_) (fun K hK=>?_)
     ·
      skip
      refine qg Tryz.func37 #[.agg #[.slice oA1 s0.length oc1,.slice oB1 t0.length od1],.agg #[.slice oA3 s1.length oc3,.slice oB3 t1.length od3]] ?_
      refine(HDD.out V oA1 oc1 oB1 od1 oA3 oc3 oB3 od3 K1.out K3.out).mono ?_
      rintro e Vn ⟨dn,dA,dl,da,dB,dm,db,rfl,hD,hB⟩
      refine⟨_,rfl,?_⟩
      have new:=hD.lower (HF.out _ hbv.out).2.size
      have hbn:=Aside0.mk (zbm hbv.out hB)
      refine hK.out _ _ ((HF.out _ hbn.out).1) (fun hHeld=>?_)
      clear hK K
      refine qn ?_
      refine qpT 5 (some 8) ?_
      refine qpT 6 (some 14) ?_
      refine qpT 7 (some 15) ?_
      exact norm_ (by first | (simp only [zb6,Act.put,zA1,zA2,zA3]; done) | (simp only [zb6,Act.put,zA1,zA2,zA3]; rfl)) (hJ1_3_4 (oA1,oc1,oB1,od1,oA3,oc3,oB3,od3,dn,dA,dl,da,dB,dm,db) _ ⟨(HF.out _ hbn.out).1,K1.out.below hB,K3.out.below hB,new,hbn.out⟩)
     ·
      skip
      refine qv ?_
      have hB:Below V.heap.size V (V.alloc (.cells #[.bool false,.slice none 0 0,.slice none 0 0] 27 (0,0))):=zbn (Below.refl _ _) _
      have hN:=zbI V (.cells #[.bool false,.slice none 0 0,.slice none 0 0] 27 (0,0))
      have hbn:=Aside0.mk (zbm hbv.out hB)
      refine hK.out _ _ ((HF.out _ hbn.out).1) (fun hHeld=>?_)
      clear hK K
      refine qn ?_
      exact norm_ (by first | (simp only [zb6,Act.put,zA1,zA2,zA3]; done) | (simp only [zb6,Act.put,zA1,zA2,zA3]; rfl)) (hJ1_3_8 (oA1,oc1,oB1,od1,oA3,oc3,oB3,od3,V.heap.size) _ ⟨(HF.out _ hbn.out).1,K1.out.below hB,K3.out.below hB,⟨hN,hbv.out.size⟩,hbn.out⟩)
   ·
    skip
    rintro⟨oA1,oc1,oB1,od1,oA3,oc3,oB3,od3,g5⟩ V ⟨hHeld,kK1,kK3,kK8,hb⟩
    have K1:=Aside0.mk kK1
    have K3:=Aside0.mk kK3
    have K8:=Aside0.mk kK8
    have hbv:=Aside0.mk hb
    clear hb kK1 kK3 kK8
    refine norm_ (a':=?_) ?_ ?_
    rotate_left
    ·
     simp only [zb6,Act.put,zA1,zA2,zA3]
     rfl
    refine qoT 4 (some 13) (fun K hK=>?_)
    refine qg Tryz.func37 #[.agg #[.slice oA1 s0.length oc1,.slice oB1 t0.length od1],.agg #[.slice oA3 s1.length oc3,.slice oB3 t1.length od3]] ?_
    refine(HDD.out V oA1 oc1 oB1 od1 oA3 oc3 oB3 od3 K1.out K3.out).mono ?_
    rintro e Vn ⟨dn,dA,dl,da,dB,dm,db,rfl,hD,hB⟩
    refine⟨_,rfl,?_⟩
    have new:=hD.lower (HF.out _ hbv.out).2.size
    have hbn:=Aside0.mk (zbm hbv.out hB)
    refine hK.out _ _ ((HF.out _ hbn.out).1) (fun hHeld=>?_)
    clear hK K
    refine qn ?_
    refine qpT 5 (some 8) ?_
    refine qpT 6 (some 14) ?_
    refine qpT 7 (some 15) ?_
    exact norm_ (by first | (simp only [zb6,Act.put,zA1,zA2,zA3]; done) | (simp only [zb6,Act.put,zA1,zA2,zA3]; rfl)) (hJ1_3_4_8 (oA1,oc1,oB1,od1,oA3,oc3,oB3,od3,dn,dA,dl,da,dB,dm,db,g5) _ ⟨(HF.out _ hbn.out).1,K1.out.below hB,K3.out.below hB,new,⟨zbr K8.out.1 hB,K8.out.2⟩,hbn.out⟩)
  ·
   skip
   rintro⟨oA1,oc1,oB1,od1,oA3,oc3,oB3,od3,dn,dA,dl,da,dB,dm,db⟩ V ⟨hHeld,kK1,kK3,kK4,hb⟩
   have K1:=Aside0.mk kK1
   have K3:=Aside0.mk kK3
   have K4:=Aside0.mk kK4
   have hbv:=Aside0.mk hb
   clear hb kK1 kK3 kK4
   refine norm_ (a':=?_) ?_ ?_
   rotate_left
   ·
    simp only [zb6,Act.put,zA1,zA2,zA3]
    rfl
   refine qoT 8 (some 5) (fun K hK=>?_)
   refine qv ?_
   have hB:Below V.heap.size V (V.alloc (.cells #[.bool false,.slice none 0 0,.slice none 0 0] 27 (0,0))):=zbn (Below.refl _ _) _
   have hN:=zbI V (.cells #[.bool false,.slice none 0 0,.slice none 0 0] 27 (0,0))
   have hbn:=Aside0.mk (zbm hbv.out hB)
   refine hK.out _ _ ((HF.out _ hbn.out).1) (fun hHeld=>?_)
   clear hK K
   refine qn ?_
   exact norm_ (by first | (simp only [zb6,Act.put,zA1,zA2,zA3]; done) | (simp only [zb6,Act.put,zA1,zA2,zA3]; rfl)) (hJ1_3_4_8 (oA1,oc1,oB1,od1,oA3,oc3,oB3,od3,dn,dA,dl,da,dB,dm,db,V.heap.size) _ ⟨(HF.out _ hbn.out).1,K1.out.below hB,K3.out.below hB,K4.out.below hB,⟨hN,hbv.out.size⟩,hbn.out⟩)
 rintro⟨oA1,oc1,oB1,od1,oA3,oc3,oB3,od3,dn,dA,dl,da,dB,dm,db,g5⟩ V ⟨hHeld,kK1,kK3,kK4,kK8,hb⟩
 have K1:=Aside0.mk kK1
 have K3:=Aside0.mk kK3
 have K4:=Aside0.mk kK4
 have K8:=Aside0.mk kK8
 have hbv:=Aside0.mk hb
 clear hb kK1 kK3 kK4 kK8
 refine norm_ (a':=?_) ?_ ?_
 rotate_left
 ·
  simp only [zb6,Act.put,zA1,zA2,zA3]
  rfl
 refine qlT 9 none (fun K hK=>?_)
 obtain⟨⟨z0,z1,z2⟩,z3,z4,z5⟩:=zbH K8.out.1
 refine qx ?_
 refine hK.out _ _ ?_
 clear hK K
 refine qpT 10 (some 6) ?_
 refine done_ (done_of HT_.out (by kernel_rfl)) ?_
 clear hHeld z0 z1 z2 z3 z4 z5
 rw [store3_eq]
 have hg8:=zbM (K8.out.1) (.bool dn) (.slice dA dl da) (.slice dB dm db)
 have hq4:=(K4.out.store3 K8.out.1 (.bool dn) (.slice dA dl da) (.slice dB dm db))
 have hb8:Below W0.heap.size W0 (store3 V g5 (.bool dn) (.slice dA dl da) (.slice dB dm db)):=zbN (hbv.out) K8.out.2 (.bool dn) (.slice dA dl da) (.slice dB dm db)
 generalize store3 V g5 (.bool dn) (.slice dA dl da) (.slice dB dm db)=W1 at hg8 hq4 hb8 ⊢
 clear hbv K1 K3 K4 K8
 have HG:Aside0 (∀ w':World,Below W1.heap.size W1 w'→(w'.cell? ⟨w.heap.size,0,none⟩=some (.slice A0 s0.length c0)∧w'.cell? ⟨w.heap.size,1,none⟩=some (.slice B0 t0.length e0)∧w'.cell? ⟨w.heap.size+1,0,none⟩=some (.slice A1 s1.length c1)∧w'.cell? ⟨w.heap.size+1,1,none⟩=some (.slice B1 t1.length e1)∧w'.cell? ⟨g5,0,none⟩=some (.bool dn)∧w'.cell? ⟨g5,1,none⟩=some (.slice dA dl da)∧w'.cell? ⟨g5,2,none⟩=some (.slice dB dm db))∧Below w.heap.size w w'∧DA w' w.heap.size (.agg #[.bool dn,.slice dA dl da,.slice dB dm db]) E (dotP t0 t1 t0.length)):=⟨fun w' h=>by
  have ho:=HF.out _ (zbm hb8 h)
  obtain⟨y0,y1,y2,y3⟩:=ho.1
  exact⟨⟨y0,y1,y2,y3,(zbq (zbr hg8 h) 0).trans rfl,(zbq (zbr hg8 h) 1).trans rfl,(zbq (zbr hg8 h) 2).trans rfl⟩,ho.2,hq4.below h⟩⟩
 have hb0:=Aside0.mk (Below.refl W1.heap.size W1)
 clear hg8 hb8 hq4 HF HDD HO0 HO1
 obtain⟨y0,y1,y2,y3,y4,y5,y6⟩:=(HG.out _ hb0.out).1
 go_wp2_with fail
 clear y0 y1 y2 y3 y4 y5 y6
 refine(HM0.out _ (HG.out _ hb0.out).2.1).mono ?_
 rintro e U1 ⟨rfl,hB⟩
 have hb1:=Aside0.mk (zbm hb0.out hB)
 clear hB
 by_cases h0:va=0
 case neg =>
  have hEE:E=va:=by rw [HE.out,if_neg h0]
  have hv:=(HG.out _ hb1.out).2.2.2 (by rw [hEE]; exact h0)
  obtain⟨rfl,⟨rfl,rfl,rfl⟩,rfl,rfl,rfl⟩:dn=false∧(dA=none∧dl=0∧da=0)∧dB=none∧dm=0∧db=0:=by simpa using hv
  clear hv
  have hf1:(va == 0)=false:=by rw [beq_eq_false_iff_ne]; exact h0
  have hf2:(va != 0)=true:=by rw [bne_iff_ne]; exact h0
  (try rw [hEE])
  clear hEE HE
  obtain⟨y0,y1,y2,y3,y4,y5,y6⟩:=(HG.out _ hb1.out).1
  go_wp2_with fail
  clear y0 y1 y2 y3 y4 y5 y6
  refine(tknown_n _).mono ?_
  rintro e WK ⟨rfl,hB⟩
  have hbK:=Aside0.mk (zbm hb1.out hB)
  clear hB
  go_wp2
  go_ret
  exact⟨rfl,(HG.out _ hbK.out).2.1⟩
 have HK0:=Aside0.mk h0
 rw [h0]
 clear h0
 obtain⟨y0,y1,y2,y3,y4,y5,y6⟩:=(HG.out _ hb1.out).1
 go_wp2_with fail
 clear y0 y1 y2 y3 y4 y5 y6
 refine(HM1.out _ (HG.out _ hb1.out).2.1).mono ?_
 rintro e U2 ⟨rfl,hB⟩
 have hb2:=Aside0.mk (zbm hb1.out hB)
 clear hB
 by_cases h1:vb=0
 case neg =>
  have hEE:E=vb:=by rw [HE.out,if_pos HK0.out,if_neg h1]
  have hv:=(HG.out _ hb2.out).2.2.2 (by rw [hEE]; exact h1)
  obtain⟨rfl,⟨rfl,rfl,rfl⟩,rfl,rfl,rfl⟩:dn=false∧(dA=none∧dl=0∧da=0)∧dB=none∧dm=0∧db=0:=by simpa using hv
  clear hv
  have hf1:(vb == 0)=false:=by rw [beq_eq_false_iff_ne]; exact h1
  have hf2:(vb != 0)=true:=by rw [bne_iff_ne]; exact h1
  (try rw [hEE])
  clear hEE HE
  obtain⟨y0,y1,y2,y3,y4,y5,y6⟩:=(HG.out _ hb2.out).1
  go_wp2_with fail
  clear y0 y1 y2 y3 y4 y5 y6
  refine(tknown_n _).mono ?_
  rintro e WK ⟨rfl,hB⟩
  have hbK:=Aside0.mk (zbm hb2.out hB)
  clear hB
  go_wp2
  go_ret
  exact⟨rfl,(HG.out _ hbK.out).2.1⟩
 have HK1:=Aside0.mk h1
 rw [h1]
 clear h1
 obtain⟨y0,y1,y2,y3,y4,y5,y6⟩:=(HG.out _ hb2.out).1
 go_wp2_with fail
 clear y0 y1 y2 y3 y4 y5 y6
 refine(HSS.out _ (HG.out _ hb2.out).2.1).mono ?_
 rintro e U3 ⟨rfl,hB⟩
 have hb3:=Aside0.mk (zbm hb2.out hB)
 clear hB
 cases z with
 | false =>
  have hEE:E=13:=by rw [HE.out,if_pos HK0.out,if_pos HK1.out,if_neg (by decide)]
  have hv:=(HG.out _ hb3.out).2.2.2 (by rw [hEE]; decide)
  obtain⟨rfl,⟨rfl,rfl,rfl⟩,rfl,rfl,rfl⟩:dn=false∧(dA=none∧dl=0∧da=0)∧dB=none∧dm=0∧db=0:=by simpa using hv
  clear hv
  (try rw [hEE])
  clear hEE HE
  obtain⟨y0,y1,y2,y3,y4,y5,y6⟩:=(HG.out _ hb3.out).1
  go_wp2_with fail
  clear y0 y1 y2 y3 y4 y5 y6
  refine(tknown_n _).mono ?_
  rintro e WK ⟨rfl,hB⟩
  have hbK:=Aside0.mk (zbm hb3.out hB)
  clear hB
  go_wp2
  go_ret
  exact⟨rfl,(HG.out _ hbK.out).2.1⟩
 | true =>
  have HEE:=Aside0.mk (show E=0 by rw [HE.out,if_pos HK0.out,if_pos HK1.out,if_pos rfl])
  have hEE:=HEE.out
  have HSH:=Aside0.mk (of_decide_eq_true HV.out.2.2.symm)
  have HT0:=Aside0.mk (HV.out.1.symm.trans HK0.out)
  have HT1:=Aside0.mk (HV.out.2.1.symm.trans HK1.out)
  have HN:=Aside0.mk (tmay_all HT0.out).2.2.1
  have HNN:=Aside0.mk (show t1.length=t0.length from by have a:=HT1.out; rw [← HSH.out] at a; exact tmay_same HT0.out a)
  obtain⟨y0,y1,y2,y3,y4,y5,y6⟩:=(HG.out _ hb3.out).1
  (try rw [hEE])
  go_wp2_with fail
  clear hEE y0 y1 y2 y3 y4 y5 y6
  refine zco (n:=15) (S:=fun w'=>(w'.cell? ⟨w.heap.size,0,none⟩=some (.slice A0 s0.length c0)∧w'.cell? ⟨w.heap.size,1,none⟩=some (.slice B0 t0.length e0)∧w'.cell? ⟨w.heap.size+1,0,none⟩=some (.slice A1 s1.length c1)∧w'.cell? ⟨w.heap.size+1,1,none⟩=some (.slice B1 t1.length e1)∧w'.cell? ⟨g5,0,none⟩=some (.bool dn)∧w'.cell? ⟨g5,1,none⟩=some (.slice dA dl da)∧w'.cell? ⟨g5,2,none⟩=some (.slice dB dm db))) (ds:=[]) #[zf,zf,zf,zf,zf,zf,zf,zf,zf,zf,zf,zf,zf,zf,zf] (by kernel_rfl) rfl rfl ((HG.out _ (zbm hb3.out (zbs (Below.refl _ _)))).1) (fun hHeld=>?_)
  refine zcf tensorDots.tab9 tensorDots.bits9 (fun HT_ HW_=>?_)
  have hbv0:=Aside0.mk (zbm hb3.out (show Below U3.heap.size U3 U3.drew from zbs (Below.refl _ _)))
  generalize U3.drew=V0 at hbv0 hHeld ⊢
  refine qpT 0 (some 52) ?_
  refine qpT 1 (some 53) ?_
  refine qpT 2 (some 54) ?_
  refine qtT 3 (some 55) ?_
  refine qtT 5 (some 57) ?_
  refine qtT 8 (some 60) ?_
  refine qoT 4 (some 56) (fun K hK=>?_)
  refine qg Tryz.func33 #[.agg #[.slice A0 s0.length c0,.slice B0 t0.length e0]] ?_
  refine(HF0.out V0 (HG.out _ hbv0.out).2.1).mono ?_
  rintro e V1 ⟨a3,c3,b3,d3,rfl,R1,R2,hB⟩
  refine⟨_,rfl,?_⟩
  have hbv1:=Aside0.mk (zbm hbv0.out hB)
  have HQ0:=Aside0.mk R2
  clear hB hbv0 R1 R2
  refine hK.out _ _ ((HG.out _ hbv1.out).1) (fun hHeld=>?_)
  clear hK K
  refine qn ?_
  refine qoT 6 (some 58) (fun K hK=>?_)
  refine qg Tryz.func33 #[.agg #[.slice A1 s1.length c1,.slice B1 t1.length e1]] ?_
  refine(HF1.out V1 (HG.out _ hbv1.out).2.1).mono ?_
  rintro e V2 ⟨a4,c4,b4,d4,rfl,R1,R2,hB⟩
  refine⟨_,rfl,?_⟩
  have hbv2:=Aside0.mk (zbm hbv1.out hB)
  have HQ1:=Aside0.mk R2
  replace HQ0:=Aside0.mk (Kd.R_below HQ0.out hB)
  clear hB hbv1 R1 R2
  refine hK.out _ _ ((HG.out _ hbv2.out).1) (fun hHeld=>?_)
  clear hK K
  refine qn ?_
  refine qoT 7 (some 59) (fun K hK=>?_)
  refine qg Tryz.func39 #[.agg #[.slice a3 s0.length c3,.slice b3 t0.length d3],.agg #[.slice a4 s1.length c4,.slice b4 t1.length d4]] ?_
  refine(rdot_n a3 s0.length c3 b3 d3 t0 a4 s1.length c4 b4 d4 t1 V2 (readsQ HQ0.out) (readsQ HQ1.out) HNN.out HN.out HLL.out.1 HLL.out.2 HOK.out.1 HOK.out.2).mono ?_
  rintro e V3 ⟨q,rfl,hQ,hB⟩
  refine⟨_,rfl,?_⟩
  have hbv3:=Aside0.mk (zbm hbv2.out hB)
  have HQ:=Aside0.mk hQ.qd
  clear hB hbv2 hQ HQ0 HQ1
  refine hK.out _ _ ((HG.out _ hbv3.out).1) (fun hHeld=>?_)
  clear hK K
  refine qn ?_
  refine qoT 9 (some 61) (fun K hK=>?_)
  refine qg Tryz.func36 #[q,.agg #[.bool dn,.slice dA dl da,.slice dB dm db]] ?_
  refine(ref_is_n HQ.out ((HG.out _ hbv3.out).2.2.1 HEE.out) (okQ_dotL HLL.out.1 HLL.out.2 HOK.out.1 HOK.out.2 HN.out) rfl).mono ?_
  rintro e V4 ⟨rfl,hB⟩
  refine⟨_,rfl,?_⟩
  have hbv4:=Aside0.mk (zbm hbv3.out hB)
  clear hB hbv3 HQ
  refine hK.out _ _ ((HG.out _ hbv4.out).1) (fun hHeld=>?_)
  clear hK K
  refine qn ?_
  refine qpT 10 (some 62) ?_
  refine qpT 11 (some 63) ?_
  refine qoT 12 (some 64) (fun K hK=>?_)
  refine qg Tryz.func26 #[] ?_
  refine(tknown_n V4).mono ?_
  rintro e V5 ⟨rfl,hB⟩
  refine⟨_,rfl,?_⟩
  have hbv5:=Aside0.mk (zbm hbv4.out hB)
  clear hB hbv4 
  refine hK.out _ _ ((HG.out _ hbv5.out).1) (fun hHeld=>?_)
  clear hK K
  refine qn ?_
  refine qpT 13 (some 65) ?_
  refine qpT 14 (some 4) ?_
  refine done_ (done_of HT_.out (by kernel_rfl)) ?_
  clear hHeld
  go_wp2
  go_ret
  exact⟨rfl,(HG.out _ hbv5.out).2.1⟩
theorem tensorDots_q (A0:Option Addr) (c0:Nat) (s0:List Int) (B0:Option Addr) (e0:Nat) (t0:List M.S27) (A1:Option Addr) (c1:Nat) (s1:List Int) (B1:Option Addr) (e1:Nat) (t1:List M.S27) (w:World) (hr0:Kd.C (Kd.int .i64) w A0 s0.length s0) (hc0:s0.length≤c0) (hl0:s0.length≤1048576) (hs0:Kd.C M.k27 w B0 t0.length t0) (he0:t0.length≤e0) (hm0:t0.length≤1048576) (ho0:∀ x∈t0,eOk x∧x.f1.length≤1048576∧x.f2.length≤1048576) (hr1:Kd.C (Kd.int .i64) w A1 s1.length s1) (hc1:s1.length≤c1) (hl1:s1.length≤1048576) (hs1:Kd.C M.k27 w B1 t1.length t1) (he1:t1.length≤e1) (hm1:t1.length≤1048576) (ho1:∀ x∈t1,eOk x∧x.f1.length≤1048576∧x.f2.length≤1048576) :
  Calls Tryz.prog 7 #[.agg #[.slice A0 s0.length c0,.slice B0 t0.length e0],.agg #[.slice A1 s1.length c1,.slice B1 t1.length e1]] w fun e w'=>e=.returned (.bool true)∧Below w.heap.size w w' :=
 tensorDots_q0 (by decide) (Nat.le_refl _) A0 c0 s0 B0 e0 t0 A1 c1 s1 B1 e1 t1 w hr0 hc0 hl0 hs0 he0 hm0 ho0 hr1 hc1 hl1 hs1 he1 hm1 ho1
end Go.Proofs.YtehghijlchpeaaaGreat.Nat1
end
